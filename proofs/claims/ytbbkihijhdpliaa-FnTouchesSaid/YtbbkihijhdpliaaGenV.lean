/-
  Walks: drawn access sets and machines.
-/
import Derived.Test.YtbbkihijhdpliaaGenU
import Derived.Test.YtbbkihijhdpliaaGenR
namespace Go.Proofs.Ytbbkihijhdpliaa
open Go.ChangeShapes Go.WideShapes Go.ChangeAt Go.RowKit
set_option maxRecDepth 100000
set_option maxHeartbeats 1000000
theorem spec_l03List_c {w : World} {H : Nat → Prop} {c : CurD} {c_code_a : Option Addr} {c_code_n c_code_c : Nat} {c_b : Nat} (v_c_code : RdA 1 encB okB H w (.slice c_code_a c_code_n c_code_c) c.code) (h_c_pos : i64ok (c.pos : Int)) (h_c_h : i64ok c.h) (p0 : c.pos ≤ c_code_n) (hA : At w [bx c_b [.slice c_code_a c_code_n c_code_c, .int .i64 ((c.pos : Nat) : Int), .int .i64 c.h] 108]) (hD : ∀ b, H b → ¬ fps [bx c_b [.slice c_code_a c_code_n c_code_c, .int .i64 ((c.pos : Nat) : Int), .int .i64 c.h] 108] b) :
    Calls Try.prog 76 #[.pointer (some ⟨c_b, 0, none⟩)] w fun e w' => ∃ (i2 : Nat), ∃ (h2 : Int), ∃ (l : List ByteArray), ∃ (r0_a : Option Addr), ∃ (r0_n : Nat), ∃ (r0_c : Nat), e = .returned (.slice r0_a r0_n r0_c) ∧ Mv [bx c_b [.slice c_code_a c_code_n c_code_c, .int .i64 ((c.pos : Nat) : Int), .int .i64 c.h] 108] w [bx c_b [.slice c_code_a c_code_n c_code_c, .int .i64 ((i2 : Nat) : Int), .int .i64 h2] 108] w' ∧ Rd 1 encS okS (V (HP H [bx c_b [.slice c_code_a c_code_n c_code_c, .int .i64 ((c.pos : Nat) : Int), .int .i64 c.h] 108]) w [bx c_b [.slice c_code_a c_code_n c_code_c, .int .i64 ((i2 : Nat) : Int), .int .i64 h2] 108]) w' (.slice r0_a r0_n r0_c) l ∧ i2 ≤ c_code_n ∧ i64ok h2 ∧ l.length ≤ 4 := by
 have V_v_c_code : RdA 1 encB okB (V (HP H [bx c_b [.slice c_code_a c_code_n c_code_c, .int .i64 ((c.pos : Nat) : Int), .int .i64 c.h] 108]) w [bx c_b [.slice c_code_a c_code_n c_code_c, .int .i64 ((c.pos : Nat) : Int), .int .i64 c.h] 108]) w (.slice c_code_a c_code_n c_code_c) c.code := RdA.startP v_c_code hD
 obtain ⟨ln_c_code, le_c_code, mx_c_code, ni_c_code⟩ := RdA.inv v_c_code
 refine calls_enter 17 Try.func76 rfl Try.ntmps76 (Nat.le_of_ble_eq_true rfl) (fun _ F0i => ?_)
 have F0 : Fr 17 [(0, .pointer (some ⟨c_b, 0, none⟩))] _ := F0i
 clear F0i
 refine wp_seq (wp_region_lit (l_op (f_val F0 rfl rfl (r_assign rfl rfl) rfl fun _ F1 => ?_)))
 have F2 : Fr 17 [(2, .slice none 0 0), (0, .pointer (some ⟨c_b, 0, none⟩))] _ := F1.cut rfl
 clear F0 F1
 refine s_end (x_normal (wp_seq (wp_region_lit (l_op (f_buildSl (ok := okS) (vs := []) F2 hA (([] : List ByteArray)) ET_22 rfl rfl rfl rfl rfl rfl rfl rfl rfl (by simp) fun b3 _ w3 F4 S3 => ?_)))))
 refine l_op (f_as F4 rfl rfl rfl rfl rfl fun _ F5 => ?_)
 have F6 : Fr 17 [(3, .slice (some ⟨b3, 0, none⟩) 0 0), (0, .pointer (some ⟨c_b, 0, none⟩))] _ := F5.cut rfl
 clear F2 F4 F5
 have T7 : Mv _ _ [ow 9 1 encS okS (.slice (some ⟨b3, 0, none⟩) 0 0) ([] : List ByteArray), bx c_b [.slice c_code_a c_code_n c_code_c, .int .i64 ((c.pos : Nat) : Int), .int .i64 c.h] 108] _ := S3
 refine s_end (x_normal (wp_seq (wp_seq (wp_region_lit (l_op (f_val F6 rfl rfl (r_assign rfl rfl) rfl fun _ F8 => ?_))))))
 have F9 : Fr 17 [(4, .int .i64 0), (3, .slice (some ⟨b3, 0, none⟩) 0 0), (0, .pointer (some ⟨c_b, 0, none⟩))] _ := F8.cut rfl
 clear F6 F8
 refine s_end (x_normal (wp_block ?_))
 have Z11 : Rd 1 encS okS (V (HP H [bx c_b [.slice c_code_a c_code_n c_code_c, .int .i64 ((c.pos : Nat) : Int), .int .i64 c.h] 108]) w [bx c_b [.slice c_code_a c_code_n c_code_c, .int .i64 ((c.pos : Nat) : Int), .int .i64 c.h] 108]) w3 (.slice (some ⟨b3, 0, none⟩) 0 0) ([] : List ByteArray) := At.freezeP T7.at' ET_22.hk 0 rfl (fresh_hp T7)
 have S11 := At.drop T7.at' 0
 refine x_loop (fun (k : Nat) aZ wZ => ∃ (pp : Nat), ∃ (hh : Int), ∃ (O : List ByteArray), ∃ (oa : Option Addr), ∃ (on : Nat), ∃ (oc : Nat), Fr 17 [(4, .int .i64 ((k : Nat) : Int)), (3, .slice oa on oc), (0, .pointer (some ⟨c_b, 0, none⟩))] aZ ∧ Mv [bx c_b [.slice c_code_a c_code_n c_code_c, .int .i64 ((c.pos : Nat) : Int), .int .i64 c.h] 108] w3 [bx c_b [.slice c_code_a c_code_n c_code_c, .int .i64 ((pp : Nat) : Int), .int .i64 hh] 108] wZ ∧ Rd 1 encS okS (V (HP H [bx c_b [.slice c_code_a c_code_n c_code_c, .int .i64 ((c.pos : Nat) : Int), .int .i64 c.h] 108]) w [bx c_b [.slice c_code_a c_code_n c_code_c, .int .i64 ((pp : Nat) : Int), .int .i64 hh] 108]) wZ (.slice oa on oc) O ∧ (pp ≤ c_code_n) ∧ (i64ok hh) ∧ (O.length ≤ k) ∧ (k ≤ 4)) (fun (k : Nat) => 4 - k) (0) ?_ ?_
 · exact ⟨c.pos, c.h, ([] : List ByteArray), (some ⟨b3, 0, none⟩), 0, 0, F9.cut rfl, (Mv.refl S11.at'), Z11, by omega, by assumption, Nat.le_refl _, by omega⟩
 · rintro k a10 w10 ⟨pp, hh, O, oa, on, oc, F10, S10, W10_0, hk_0, hk_1, hk_2, hk_3⟩
   obtain ⟨lv10_0, lw10_0, lx10_0, ly10_0⟩ := Rd.inv W10_0
   refine wp_seq (wp_seq (wp_region_lit (l_op (f_mv F10 rfl rfl rfl rfl rfl fun _ F12 => ?_))))
   refine l_op (f_mv F12 rfl rfl rfl rfl rfl fun _ F13 => ?_)
   refine l_op (f_call F13 CF_80 rfl rfl rfl rfl (lc (F13.ev 7 rfl) (lc rfl rfl)) (spec_l01Below_c (c := (⟨c.code, pp, hh⟩ : CurD)) (n := 4) (RdA.mv (Nat.succ_pos _) V_v_c_code (T7.trans (S11.trans S10))) (by unfold i64ok; (try dsimp only); omega) (by first | assumption | exact w64_ok _ | exact ⟨by omega, by omega⟩ | (unfold i64ok at *; omega)) (by first | assumption | exact ⟨by omega, by omega⟩ | (unfold i64ok at *; omega)) (by first | assumption | omega | (simp <;> omega)) (At.pick (is := [0]) S10.at' rfl) (V_off (is := [0]))) ?_)
   rintro _ w14 ⟨i2_14, h2_14, r_14, rfl, m14, q14_0, q14_1, q14_2, q14_3⟩
   refine ⟨_, rfl, fun _ F15 => ?_⟩
   have S14 : Mv _ _ [bx c_b [.slice c_code_a c_code_n c_code_c, .int .i64 ((i2_14 : Nat) : Int), .int .i64 h2_14] 108] _ := At.frame S10.at' [0] rfl m14
   clear m14
   refine l_op (f_val F15 rfl rfl (r_cmp (b := decide (k < r_14)) (.inr (.inr (.inl rfl))) rfl (F15.ev 6 rfl) (F15.ev 8 rfl) (dec_of (by omega))) rfl fun _ F16 => ?_)
   have F17 : Fr 17 [(9, .bool (decide (k < r_14))), (4, .int .i64 ((k : Nat) : Int)), (3, .slice oa on oc), (0, .pointer (some ⟨c_b, 0, none⟩))] _ := F16.cut rfl
   clear F10 F12 F13 F15 F16
   refine s_end (x_normal (x_cond (p := k < r_14) (F17.ev 9 rfl) (fun h18 => ?_) (fun h18 => ?_)))
   · skip
     refine wp_skip (x_normal (wp_seq (wp_block (wp_region_lit (l_op (f_mv F17 rfl rfl rfl rfl rfl fun _ F19 => ?_))))))
     refine l_op (f_mv F19 rfl rfl rfl rfl rfl fun _ F20 => ?_)
     refine l_op (f_call F20 CF_77 rfl rfl rfl rfl (lc (F20.ev 13 rfl) rfl) (spec_l03Span_c (c := (⟨c.code, i2_14, h2_14⟩ : CurD)) (RdA.mv (Nat.succ_pos _) V_v_c_code (T7.trans (S11.trans (S10.trans S14)))) (by unfold i64ok; (try dsimp only); omega) (by first | assumption | exact w64_ok _ | exact ⟨by omega, by omega⟩ | (unfold i64ok at *; omega)) (by first | assumption | omega | (simp <;> omega)) (At.pick (is := [0]) S14.at' rfl) (V_off (is := [0]))) ?_)
     rintro _ w21 ⟨i2_21, h2_21, r_21, rfl, m21, ok_r0_21, q21_0, q21_1, q21_2⟩
     refine ⟨_, rfl, fun _ F22 => ?_⟩
     have S21 : Mv _ _ [bx c_b [.slice c_code_a c_code_n c_code_c, .int .i64 ((i2_21 : Nat) : Int), .int .i64 h2_21] 108] _ := At.frame S14.at' [0] rfl m21
     clear m21
     refine l_op (f_call F22 CF_32 rfl rfl rfl rfl (lc (F22.ev 12 rfl) (lc (F22.ev 14 rfl) rfl)) (spec_AddSpan_c (list := O) (span := r_21) (Rd.mv (Nat.succ_pos _) W10_0 (S14.trans S21)) ok_r0_21 (by first | assumption | omega | (simp <;> omega))) ?_)
     rintro _ w23 ⟨r0_a_23, r0_n_23, r0_c_23, rfl, m23, v23_0⟩
     refine ⟨_, rfl, fun _ F24 => ?_⟩
     have S23 := At.frame0 S21.at' m23
     have V23_0 := Rd.got0 S21.at' ((T7.trans (S11.trans (S10.trans (S14.trans S21)))).kp.size) v23_0 S23
     obtain ⟨ln23_0, le23_0, mx23_0, ni23_0⟩ := Rd.inv V23_0
     clear m23 v23_0
     refine l_op (f_as F24 rfl rfl rfl rfl rfl fun _ F25 => ?_)
     have F26 : Fr 17 [(3, .slice r0_a_23 r0_n_23 r0_c_23), (4, .int .i64 ((k : Nat) : Int)), (0, .pointer (some ⟨c_b, 0, none⟩))] _ := F25.cut rfl
     clear F17 F19 F20 F22 F24 F25
     have T27 : Mv _ _ [bx c_b [.slice c_code_a c_code_n c_code_c, .int .i64 ((i2_21 : Nat) : Int), .int .i64 h2_21] 108] _ := S23
     refine s_end (x_block_normal (x_normal (wp_region_lit (l_op (f_mv F26 rfl rfl rfl rfl rfl fun _ F28 => ?_)))))
     refine l_op (f_val F28 rfl rfl (r_add (z := ((k + 1 : Nat) : Int)) rfl (F28.ev 10 rfl) rfl (by first | rfl | omega) ⟨by first | omega | (unfold i64ok at *; omega), by first | omega | (unfold i64ok at *; omega)⟩) rfl fun _ F29 => ?_)
     refine l_op (f_as F29 rfl rfl rfl rfl rfl fun _ F30 => ?_)
     have F31 : Fr 17 [(4, .int .i64 ((k + 1 : Nat) : Int)), (3, .slice r0_a_23 r0_n_23 r0_c_23), (0, .pointer (some ⟨c_b, 0, none⟩))] _ := F30.cut rfl
     clear F26 F28 F29 F30
     refine s_end ?_
     refine x_normal ⟨k + 1, by omega, i2_21, h2_21, putL O r_21, r0_a_23, r0_n_23, r0_c_23, F31.cut rfl, ((S10.trans (S14.trans (S21.trans T27))).pick [0] rfl), V23_0, by omega, by assumption, Nat.le_trans (putL_length ..) (by omega), by omega⟩
   · skip
     refine wp_exit (x_then_exit (x_then_exit (x_block_here (x_normal (wp_seq (wp_region_lit (l_op (f_mv F17 rfl rfl rfl rfl rfl fun _ F32 => ?_))))))))
     refine l_op (f_as F32 rfl rfl rfl rfl rfl fun _ F33 => ?_)
     have F34 : Fr 17 [(2, .slice oa on oc)] _ := F33.cut rfl
     clear F17 F32 F33
     refine s_end (x_normal (wp_ret ?_))
     refine x_done (v := .slice oa on oc) F34 (results_1 Try.results76 (.tmp (F34.ev 2 rfl))) ?_
     exact ⟨i2_14, h2_14, O, oa, on, oc, rfl, (Mv.pick (T7.trans (S11.trans (S10.trans S14))) [0] rfl), (Rd.mv (Nat.succ_pos _) W10_0 S14), by first | assumption | exact w64_ok _ | omega | (unfold i64ok; omega), by first | assumption | exact w64_ok _ | omega | (unfold i64ok; omega), by omega⟩
theorem spec_l03Touch_c {w : World} {H : Nat → Prop} {c : CurD} {c_code_a : Option Addr} {c_code_n c_code_c : Nat} {c_b : Nat} (v_c_code : RdA 1 encB okB H w (.slice c_code_a c_code_n c_code_c) c.code) (h_c_pos : i64ok (c.pos : Int)) (h_c_h : i64ok c.h) (p0 : c.pos ≤ c_code_n) (hA : At w [bx c_b [.slice c_code_a c_code_n c_code_c, .int .i64 ((c.pos : Nat) : Int), .int .i64 c.h] 108]) (hD : ∀ b, H b → ¬ fps [bx c_b [.slice c_code_a c_code_n c_code_c, .int .i64 ((c.pos : Nat) : Int), .int .i64 c.h] 108] b) :
    Calls Try.prog 120 #[.pointer (some ⟨c_b, 0, none⟩)] w fun e w' => ∃ (i2 : Nat), ∃ (h2 : Int), ∃ (d : TouchD), ∃ (r0_reads_a : Option Addr), ∃ (r0_reads_n : Nat), ∃ (r0_reads_c : Nat), ∃ (r0_writes_a : Option Addr), ∃ (r0_writes_n : Nat), ∃ (r0_writes_c : Nat), e = .returned (.agg #[.slice r0_reads_a r0_reads_n r0_reads_c, .slice r0_writes_a r0_writes_n r0_writes_c]) ∧ Mv [bx c_b [.slice c_code_a c_code_n c_code_c, .int .i64 ((c.pos : Nat) : Int), .int .i64 c.h] 108] w [bx c_b [.slice c_code_a c_code_n c_code_c, .int .i64 ((i2 : Nat) : Int), .int .i64 h2] 108] w' ∧ Rd 1 encS okS (V (HP H [bx c_b [.slice c_code_a c_code_n c_code_c, .int .i64 ((c.pos : Nat) : Int), .int .i64 c.h] 108]) w [bx c_b [.slice c_code_a c_code_n c_code_c, .int .i64 ((i2 : Nat) : Int), .int .i64 h2] 108]) w' (.slice r0_reads_a r0_reads_n r0_reads_c) d.reads ∧ Rd 1 encS okS (V (HP H [bx c_b [.slice c_code_a c_code_n c_code_c, .int .i64 ((c.pos : Nat) : Int), .int .i64 c.h] 108]) w [bx c_b [.slice c_code_a c_code_n c_code_c, .int .i64 ((i2 : Nat) : Int), .int .i64 h2] 108]) w' (.slice r0_writes_a r0_writes_n r0_writes_c) d.writes ∧ i2 ≤ c_code_n ∧ i64ok h2 ∧ (d.reads.length ≤ 100 ∧ d.writes.length ≤ 100) := by
 have V_v_c_code : RdA 1 encB okB (V (HP H [bx c_b [.slice c_code_a c_code_n c_code_c, .int .i64 ((c.pos : Nat) : Int), .int .i64 c.h] 108]) w [bx c_b [.slice c_code_a c_code_n c_code_c, .int .i64 ((c.pos : Nat) : Int), .int .i64 c.h] 108]) w (.slice c_code_a c_code_n c_code_c) c.code := RdA.startP v_c_code hD
 obtain ⟨ln_c_code, le_c_code, mx_c_code, ni_c_code⟩ := RdA.inv v_c_code
 refine calls_enter 21 Try.func120 rfl Try.ntmps120 (Nat.le_of_ble_eq_true rfl) (fun _ F0i => ?_)
 have F0 : Fr 21 [(0, .pointer (some ⟨c_b, 0, none⟩))] _ := F0i
 clear F0i
 refine wp_seq (wp_region_lit (l_op (f_alloc F0 hA ZI_26 rfl rfl rfl rfl rfl fun b1 _ w1 F2 S1 => ?_)))
 have F3 : Fr 21 [(2, .pointer (some ⟨b1, 0, none⟩)), (0, .pointer (some ⟨c_b, 0, none⟩))] _ := F2.cut rfl
 clear F0 F2
 have T4 : Mv _ _ [bx b1 [.slice none 0 0, .slice none 0 0] 26, bx c_b [.slice c_code_a c_code_n c_code_c, .int .i64 ((c.pos : Nat) : Int), .int .i64 c.h] 108] _ := S1
 refine s_end (x_normal (wp_seq (wp_region_lit (l_op (f_mv F3 rfl rfl rfl rfl rfl fun _ F5 => ?_)))))
 refine l_op (f_call F5 CF_76 rfl rfl rfl rfl (lc (F5.ev 5 rfl) rfl) (spec_l03List_c (c := c) (RdA.mv (Nat.succ_pos _) V_v_c_code T4) (by unfold i64ok; (try dsimp only); omega) (by first | assumption | exact w64_ok _ | exact ⟨by omega, by omega⟩ | (unfold i64ok at *; omega)) (by first | assumption | omega | (simp <;> omega)) (At.pick (is := [1]) T4.at' rfl) (V_off (is := [1]))) ?_)
 rintro _ w6 ⟨i2_6, h2_6, l_6, r0_a_6, r0_n_6, r0_c_6, rfl, m6, v6_0, q6_0, q6_1, q6_2⟩
 refine ⟨_, rfl, fun _ F7 => ?_⟩
 have S6 : Mv _ _ [bx c_b [.slice c_code_a c_code_n c_code_c, .int .i64 ((i2_6 : Nat) : Int), .int .i64 h2_6] 108, bx b1 [.slice none 0 0, .slice none 0 0] 26] _ := At.frame T4.at' [1] rfl m6
 have V6_0 : Rd 1 encS okS (V (HP H [bx c_b [.slice c_code_a c_code_n c_code_c, .int .i64 ((c.pos : Nat) : Int), .int .i64 c.h] 108]) w [bx c_b [.slice c_code_a c_code_n c_code_c, .int .i64 ((i2_6 : Nat) : Int), .int .i64 h2_6] 108, bx b1 [.slice none 0 0, .slice none 0 0] 26]) w6 (.slice r0_a_6 r0_n_6 r0_c_6) l_6 := Rd.gotP (New := [bx c_b [.slice c_code_a c_code_n c_code_c, .int .i64 ((i2_6 : Nat) : Int), .int .i64 h2_6] 108]) (is := [1]) T4.at' (T4.kp.size) (fresh_hp T4) v6_0
 obtain ⟨ln6_0, le6_0, mx6_0, ni6_0⟩ := Rd.inv V6_0
 clear m6 v6_0
 refine l_op (f_val (v := .agg #[.slice r0_a_6 r0_n_6 r0_c_6, .slice none 0 0]) F7 rfl rfl (r_build BI_26 rfl (lc (pr2 (F7.ev 6 rfl)) rfl) rfl) rfl fun _ F8 => ?_)
 refine l_op (f_alloc F8 S6.at' ZI_26 rfl rfl rfl rfl rfl fun b9 _ w9 F10 S9 => ?_)
 refine l_op (s_store S9.at' 0 TI_26 rfl rfl rfl rfl rfl (F10.ev 3 rfl) (F10.ev 7 rfl) rfl rfl rfl rfl rfl fun w11 S11 => ?_)
 have F12 : Fr 21 [(3, .pointer (some ⟨b9, 0, none⟩)), (7, .agg #[.slice r0_a_6 r0_n_6 r0_c_6, .slice none 0 0]), (2, .pointer (some ⟨b1, 0, none⟩)), (0, .pointer (some ⟨c_b, 0, none⟩))] _ := F10.cut rfl
 clear F3 F5 F7 F8 F10
 have T13 : Mv _ _ [bx b9 [.slice r0_a_6 r0_n_6 r0_c_6, .slice none 0 0] 26, bx c_b [.slice c_code_a c_code_n c_code_c, .int .i64 ((i2_6 : Nat) : Int), .int .i64 h2_6] 108, bx b1 [.slice none 0 0, .slice none 0 0] 26] _ := S11
 refine s_end (x_normal (wp_seq (wp_seq (wp_region_lit (l_op (f_val F12 rfl rfl (r_assign rfl rfl) rfl fun _ F14 => ?_))))))
 have F15 : Fr 21 [(4, .int .i64 0), (3, .pointer (some ⟨b9, 0, none⟩)), (2, .pointer (some ⟨b1, 0, none⟩)), (0, .pointer (some ⟨c_b, 0, none⟩))] _ := F14.cut rfl
 clear F12 F14
 refine s_end (x_normal (wp_block ?_))
 refine x_loop (fun (k : Nat) aZ wZ => ∃ (pp : Nat), ∃ (hh : Int), ∃ (W : List ByteArray), ∃ (ua : Option Addr), ∃ (un : Nat), ∃ (uc : Nat), Fr 21 [(4, .int .i64 ((k : Nat) : Int)), (3, .pointer (some ⟨b9, 0, none⟩)), (2, .pointer (some ⟨b1, 0, none⟩)), (0, .pointer (some ⟨c_b, 0, none⟩))] aZ ∧ Mv [bx b9 [.slice r0_a_6 r0_n_6 r0_c_6, .slice none 0 0] 26, bx c_b [.slice c_code_a c_code_n c_code_c, .int .i64 ((i2_6 : Nat) : Int), .int .i64 h2_6] 108, bx b1 [.slice none 0 0, .slice none 0 0] 26] w11 [bx b9 [.slice r0_a_6 r0_n_6 r0_c_6, .slice ua un uc] 26, bx c_b [.slice c_code_a c_code_n c_code_c, .int .i64 ((pp : Nat) : Int), .int .i64 hh] 108, bx b1 [.slice none 0 0, .slice none 0 0] 26] wZ ∧ Rd 1 encS okS (V (HP H [bx c_b [.slice c_code_a c_code_n c_code_c, .int .i64 ((c.pos : Nat) : Int), .int .i64 c.h] 108]) w [bx b9 [.slice r0_a_6 r0_n_6 r0_c_6, .slice ua un uc] 26, bx c_b [.slice c_code_a c_code_n c_code_c, .int .i64 ((pp : Nat) : Int), .int .i64 hh] 108, bx b1 [.slice none 0 0, .slice none 0 0] 26]) wZ (.slice ua un uc) W ∧ (pp ≤ c_code_n) ∧ (i64ok hh) ∧ (W.length ≤ k) ∧ (k ≤ 3)) (fun (k : Nat) => 3 - k) (0) ?_ ?_
 · exact ⟨i2_6, h2_6, [], none, 0, 0, F15.cut rfl, (Mv.refl T13.at'), Rd.nil, by omega, by assumption, Nat.le_refl _, by omega⟩
 · rintro k a16 w16 ⟨pp, hh, W, ua, un, uc, F16, S16, W16_0, hk_0, hk_1, hk_2, hk_3⟩
   obtain ⟨lv16_0, lw16_0, lx16_0, ly16_0⟩ := Rd.inv W16_0
   refine wp_seq (wp_seq (wp_region_lit (l_op (f_mv F16 rfl rfl rfl rfl rfl fun _ F17 => ?_))))
   refine l_op (f_mv F17 rfl rfl rfl rfl rfl fun _ F18 => ?_)
   refine l_op (f_call F18 CF_80 rfl rfl rfl rfl (lc (F18.ev 9 rfl) (lc rfl rfl)) (spec_l01Below_c (c := (⟨c.code, pp, hh⟩ : CurD)) (n := 3) (RdA.mv (Nat.succ_pos _) V_v_c_code (T4.trans (S6.trans (S9.trans (T13.trans S16))))) (by unfold i64ok; (try dsimp only); omega) (by first | assumption | exact w64_ok _ | exact ⟨by omega, by omega⟩ | (unfold i64ok at *; omega)) (by first | assumption | exact ⟨by omega, by omega⟩ | (unfold i64ok at *; omega)) (by first | assumption | omega | (simp <;> omega)) (At.pick (is := [1]) S16.at' rfl) (V_off (is := [1]))) ?_)
   rintro _ w19 ⟨i2_19, h2_19, r_19, rfl, m19, q19_0, q19_1, q19_2, q19_3⟩
   refine ⟨_, rfl, fun _ F20 => ?_⟩
   have S19 : Mv _ _ [bx c_b [.slice c_code_a c_code_n c_code_c, .int .i64 ((i2_19 : Nat) : Int), .int .i64 h2_19] 108, bx b9 [.slice r0_a_6 r0_n_6 r0_c_6, .slice ua un uc] 26, bx b1 [.slice none 0 0, .slice none 0 0] 26] _ := At.frame S16.at' [1] rfl m19
   clear m19
   refine l_op (f_val F20 rfl rfl (r_cmp (b := decide (k < r_19)) (.inr (.inr (.inl rfl))) rfl (F20.ev 8 rfl) (F20.ev 10 rfl) (dec_of (by omega))) rfl fun _ F21 => ?_)
   have F22 : Fr 21 [(11, .bool (decide (k < r_19))), (4, .int .i64 ((k : Nat) : Int)), (3, .pointer (some ⟨b9, 0, none⟩)), (2, .pointer (some ⟨b1, 0, none⟩)), (0, .pointer (some ⟨c_b, 0, none⟩))] _ := F21.cut rfl
   clear F16 F17 F18 F20 F21
   refine s_end (x_normal (x_cond (p := k < r_19) (F22.ev 11 rfl) (fun h23 => ?_) (fun h23 => ?_)))
   · skip
     refine wp_skip (x_normal (wp_seq (wp_block ?_)))
     refine x_draw (fun aZ wZ => ∃ (i2_29 : Nat), ∃ (h2_29 : Int), ∃ (r_29 : ByteArray), ∃ (r0_a_31 : Option Addr), ∃ (r0_n_31 : Nat), ∃ (r0_c_31 : Nat), Fr 21 [(0, .pointer (some ⟨c_b, 0, none⟩)), (2, .pointer (some ⟨b1, 0, none⟩)), (3, .pointer (some ⟨b9, 0, none⟩)), (4, .int .i64 ((k : Nat) : Int))] aZ ∧ Mv [bx c_b [.slice c_code_a c_code_n c_code_c, .int .i64 ((i2_19 : Nat) : Int), .int .i64 h2_19] 108, bx b9 [.slice r0_a_6 r0_n_6 r0_c_6, .slice ua un uc] 26, bx b1 [.slice none 0 0, .slice none 0 0] 26] w19 [bx c_b [.slice c_code_a c_code_n c_code_c, .int .i64 ((i2_29 : Nat) : Int), .int .i64 h2_29] 108, bx b9 [.slice r0_a_6 r0_n_6 r0_c_6, .slice r0_a_31 r0_n_31 r0_c_31] 26, bx b1 [.slice none 0 0, .slice none 0 0] 26] wZ ∧ Rd 1 encS okS (V (HP H [bx c_b [.slice c_code_a c_code_n c_code_c, .int .i64 ((c.pos : Nat) : Int), .int .i64 c.h] 108]) w [bx c_b [.slice c_code_a c_code_n c_code_c, .int .i64 ((i2_29 : Nat) : Int), .int .i64 h2_29] 108, bx b9 [.slice r0_a_6 r0_n_6 r0_c_6, .slice r0_a_31 r0_n_31 r0_c_31] 26, bx b1 [.slice none 0 0, .slice none 0 0] 26]) wZ (.slice r0_a_31 r0_n_31 r0_c_31) (putL W r_29) ∧ (i2_29 ≤ c_code_n) ∧ (i64ok h2_29) ∧ (r_29.size ≤ 100)) [] mixed S19.at' (listed := #[false, false, false, false, false, false, false]) rfl (fun w25 S25 => ?_) [] rfl ?_
     · skip
       refine g_take F22 rfl (i := 0) (listed' := #[true, false, false, false, false, false, false]) rfl (by kernel_rfl) (by kernel_rfl) (by kernel_rfl) (fun _ _ _ h => h) (Sd.of (Mv.refl S25.at') [] rfl) rfl rfl rfl rfl (fun _ hz => (r_field FI_26_1 rfl (F22.ev 3 rfl) rfl)) fun _ F26 => ?_
       refine g_take F26 rfl (i := 2) (listed' := #[true, false, true, false, false, false, false]) rfl (by kernel_rfl) (by kernel_rfl) (by kernel_rfl) (fun _ _ _ h => h) (Sd.of (Mv.refl S25.at') [] rfl) rfl rfl rfl rfl (fun _ hz => (r_move rfl (F26.ev 0 rfl))) fun _ F27 => ?_
       refine d_all (rs := [1, 3]) rfl (by kernel_rfl) (by simp) (d_cons (i := 1) (listed' := #[true, true, true, false, false, false, false]) rfl rfl ?_ (d_cons (i := 3) (listed' := #[true, false, true, true, false, false, false]) rfl rfl ?_ d_nil))
       · skip
         refine f_val (v := .slice ua un uc) F27 rfl rfl (r_loadB S25.at' 1 TI_22 rfl rfl (F27.ev 14 rfl) rfl rfl (fun _ => rfl) rfl) rfl fun _ F28 => ?_
         refine ⟨Sd.of (Mv.refl S25.at') [] rfl, ?_⟩
         refine d_one (i := 3) (listed' := #[true, true, true, true, false, false, false]) rfl (by kernel_rfl) rfl rfl ?_
         refine f_call F28 CF_81 rfl rfl rfl rfl (lc (F28.ev 16 rfl) rfl) (spec_l02Key_c (c := (⟨c.code, i2_19, h2_19⟩ : CurD)) (RdA.mv (Nat.succ_pos _) V_v_c_code (T4.trans (S6.trans (S9.trans (T13.trans (S16.trans (S19.trans S25))))))) (by unfold i64ok; (try dsimp only); omega) (by first | assumption | exact w64_ok _ | exact ⟨by omega, by omega⟩ | (unfold i64ok at *; omega)) (by first | assumption | omega | (simp <;> omega)) (At.pick (is := [0]) S25.at' rfl) (V_off (is := [0]))) ?_
         rintro _ w29 ⟨i2_29, h2_29, r_29, rfl, m29, ok_r0_29, q29_0, q29_1, q29_2⟩
         refine ⟨_, rfl, fun _ F30 => ?_⟩
         have S29 : Mv _ _ [bx c_b [.slice c_code_a c_code_n c_code_c, .int .i64 ((i2_29 : Nat) : Int), .int .i64 h2_29] 108, bx b9 [.slice r0_a_6 r0_n_6 r0_c_6, .slice ua un uc] 26, bx b1 [.slice none 0 0, .slice none 0 0] 26] _ := At.frame S25.at' [0] rfl m29
         clear m29
         refine ⟨Sd.of S29 [] rfl, ?_⟩
         refine d_one (i := 4) (listed' := #[true, true, true, true, true, false, false]) rfl (by kernel_rfl) rfl rfl ?_
         refine f_call F30 CF_32 rfl rfl rfl rfl (lc (F30.ev 15 rfl) (lc (F30.ev 17 rfl) rfl)) (spec_AddSpan_c (list := W) (span := r_29) (Rd.mv (Nat.succ_pos _) W16_0 (S19.trans (S25.trans S29))) ok_r0_29 (by first | assumption | omega | (simp <;> omega))) ?_
         rintro _ w31 ⟨r0_a_31, r0_n_31, r0_c_31, rfl, m31, v31_0⟩
         refine ⟨_, rfl, fun _ F32 => ?_⟩
         have S31 := At.frame0 S29.at' m31
         have V31_0 := Rd.got0 S29.at' ((T4.trans (S6.trans (S9.trans (T13.trans (S16.trans (S19.trans (S25.trans S29))))))).kp.size) v31_0 S31
         obtain ⟨ln31_0, le31_0, mx31_0, ni31_0⟩ := Rd.inv V31_0
         clear m31 v31_0
         refine ⟨Sd.of (S29.trans S31) [] rfl, ?_⟩
         refine g_take F32 rfl (i := 5) (listed' := #[true, true, true, true, true, true, false]) rfl (by kernel_rfl) (by kernel_rfl) (by kernel_rfl) (fun _ _ _ h => h) (Sd.of (S29.trans S31) [] rfl) rfl rfl rfl rfl (fun _ hz => (r_field FI_26_1 rfl (F32.ev 3 rfl) rfl)) fun _ F33 => ?_
         refine d_one (i := 6) (listed' := #[true, true, true, true, true, true, true]) rfl (by kernel_rfl) rfl rfl ?_
         refine s_store S31.at' 1 TI_22 rfl rfl rfl rfl rfl (F33.ev 19 rfl) (F33.ev 18 rfl) rfl rfl rfl rfl rfl fun w34 S34 => ?_
         refine ⟨Sd.of (S29.trans (S31.trans S34)) [] rfl, ?_⟩
         refine wpAnyH_done (by kernel_rfl) (x_normal ?_) _
         exact ⟨i2_29, h2_29, r_29, r0_a_31, r0_n_31, r0_c_31, F33.cut rfl, ((S25.trans (S29.trans (S31.trans S34))).pick [1, 0, 2] rfl), (Rd.mv (Nat.succ_pos _) (Rd.mv (Nat.succ_pos _) V31_0 S34) (Mv.pick (Mv.refl S34.at') [1, 0, 2] rfl)), q29_0, q29_1, q29_2⟩
       · skip
         refine f_call F27 CF_81 rfl rfl rfl rfl (lc (F27.ev 16 rfl) rfl) (spec_l02Key_c (c := (⟨c.code, i2_19, h2_19⟩ : CurD)) (RdA.mv (Nat.succ_pos _) V_v_c_code (T4.trans (S6.trans (S9.trans (T13.trans (S16.trans (S19.trans S25))))))) (by unfold i64ok; (try dsimp only); omega) (by first | assumption | exact w64_ok _ | exact ⟨by omega, by omega⟩ | (unfold i64ok at *; omega)) (by first | assumption | omega | (simp <;> omega)) (At.pick (is := [0]) S25.at' rfl) (V_off (is := [0]))) ?_
         rintro _ w35 ⟨i2_35, h2_35, r_35, rfl, m35, ok_r0_35, q35_0, q35_1, q35_2⟩
         refine ⟨_, rfl, fun _ F36 => ?_⟩
         have S35 : Mv _ _ [bx c_b [.slice c_code_a c_code_n c_code_c, .int .i64 ((i2_35 : Nat) : Int), .int .i64 h2_35] 108, bx b9 [.slice r0_a_6 r0_n_6 r0_c_6, .slice ua un uc] 26, bx b1 [.slice none 0 0, .slice none 0 0] 26] _ := At.frame S25.at' [0] rfl m35
         clear m35
         refine ⟨Sd.of S35 [] rfl, ?_⟩
         refine d_one (i := 1) (listed' := #[true, true, true, true, false, false, false]) rfl (by kernel_rfl) rfl rfl ?_
         refine f_val (v := .slice ua un uc) F36 rfl rfl (r_loadB S35.at' 1 TI_22 rfl rfl (F36.ev 14 rfl) rfl rfl (fun _ => rfl) rfl) rfl fun _ F37 => ?_
         refine ⟨Sd.of S35 [] rfl, ?_⟩
         refine d_one (i := 4) (listed' := #[true, true, true, true, true, false, false]) rfl (by kernel_rfl) rfl rfl ?_
         refine f_call F37 CF_32 rfl rfl rfl rfl (lc (F37.ev 15 rfl) (lc (F37.ev 17 rfl) rfl)) (spec_AddSpan_c (list := W) (span := r_35) (Rd.mv (Nat.succ_pos _) W16_0 (S19.trans (S25.trans S35))) ok_r0_35 (by first | assumption | omega | (simp <;> omega))) ?_
         rintro _ w38 ⟨r0_a_38, r0_n_38, r0_c_38, rfl, m38, v38_0⟩
         refine ⟨_, rfl, fun _ F39 => ?_⟩
         have S38 := At.frame0 S35.at' m38
         have V38_0 := Rd.got0 S35.at' ((T4.trans (S6.trans (S9.trans (T13.trans (S16.trans (S19.trans (S25.trans S35))))))).kp.size) v38_0 S38
         obtain ⟨ln38_0, le38_0, mx38_0, ni38_0⟩ := Rd.inv V38_0
         clear m38 v38_0
         refine ⟨Sd.of (S35.trans S38) [] rfl, ?_⟩
         refine g_take F39 rfl (i := 5) (listed' := #[true, true, true, true, true, true, false]) rfl (by kernel_rfl) (by kernel_rfl) (by kernel_rfl) (fun _ _ _ h => h) (Sd.of (S35.trans S38) [] rfl) rfl rfl rfl rfl (fun _ hz => (r_field FI_26_1 rfl (F39.ev 3 rfl) rfl)) fun _ F40 => ?_
         refine d_one (i := 6) (listed' := #[true, true, true, true, true, true, true]) rfl (by kernel_rfl) rfl rfl ?_
         refine s_store S38.at' 1 TI_22 rfl rfl rfl rfl rfl (F40.ev 19 rfl) (F40.ev 18 rfl) rfl rfl rfl rfl rfl fun w41 S41 => ?_
         refine ⟨Sd.of (S35.trans (S38.trans S41)) [] rfl, ?_⟩
         refine wpAnyH_done (by kernel_rfl) (x_normal ?_) _
         exact ⟨i2_35, h2_35, r_35, r0_a_38, r0_n_38, r0_c_38, F40.cut rfl, ((S25.trans (S35.trans (S38.trans S41))).pick [1, 0, 2] rfl), (Rd.mv (Nat.succ_pos _) (Rd.mv (Nat.succ_pos _) V38_0 S41) (Mv.pick (Mv.refl S41.at') [1, 0, 2] rfl)), q35_0, q35_1, q35_2⟩
     · rintro a42 w42 ⟨i2_29, h2_29, r_29, r0_a_31, r0_n_31, r0_c_31, F42, S42, V42_0, kp42_0, kp42_1, kp42_2⟩
       obtain ⟨ln42_0, le42_0, mx42_0, ni42_0⟩ := Rd.inv V42_0
       refine x_block_normal (x_normal (wp_region_lit (l_op (f_mv F42 rfl rfl rfl rfl rfl fun _ F43 => ?_))))
       refine l_op (f_val F43 rfl rfl (r_add (z := ((k + 1 : Nat) : Int)) rfl (F43.ev 12 rfl) rfl (by first | rfl | omega) ⟨by first | omega | (unfold i64ok at *; omega), by first | omega | (unfold i64ok at *; omega)⟩) rfl fun _ F44 => ?_)
       refine l_op (f_as F44 rfl rfl rfl rfl rfl fun _ F45 => ?_)
       have F46 : Fr 21 [(4, .int .i64 ((k + 1 : Nat) : Int)), (0, .pointer (some ⟨c_b, 0, none⟩)), (2, .pointer (some ⟨b1, 0, none⟩)), (3, .pointer (some ⟨b9, 0, none⟩))] _ := F45.cut rfl
       clear F42 F43 F44 F45
       refine s_end ?_
       refine x_normal ⟨k + 1, by omega, i2_29, h2_29, putL W r_29, r0_a_31, r0_n_31, r0_c_31, F46.cut rfl, ((S16.trans (S19.trans S42)).pick [1, 0, 2] rfl), (Rd.mv (Nat.succ_pos _) V42_0 (Mv.pick (Mv.refl S42.at') [1, 0, 2] rfl)), by omega, by assumption, Nat.le_trans (putL_length ..) (by omega), by omega⟩
   · skip
     refine wp_exit (x_then_exit (x_then_exit (x_block_here (x_normal (wp_seq (wp_region_lit (l_op (f_val (v := .agg #[.slice r0_a_6 r0_n_6 r0_c_6, .slice ua un uc]) F22 rfl rfl (r_loadB S19.at' 1 TI_26 rfl rfl (F22.ev 3 rfl) rfl rfl (fun h => nomatch h) rfl) rfl fun _ F47 => ?_))))))))
     refine l_op (s_store S19.at' 2 TI_26 rfl rfl rfl rfl rfl (F47.ev 2 rfl) (F47.ev 20 rfl) rfl rfl rfl rfl rfl fun w48 S48 => ?_)
     have F49 : Fr 21 [(20, .agg #[.slice r0_a_6 r0_n_6 r0_c_6, .slice ua un uc]), (2, .pointer (some ⟨b1, 0, none⟩))] _ := F47.cut rfl
     clear F22 F47
     have T50 : Mv _ _ [bx b1 [.slice r0_a_6 r0_n_6 r0_c_6, .slice ua un uc] 26, bx c_b [.slice c_code_a c_code_n c_code_c, .int .i64 ((i2_19 : Nat) : Int), .int .i64 h2_19] 108, bx b9 [.slice r0_a_6 r0_n_6 r0_c_6, .slice ua un uc] 26] _ := S48
     refine s_end (x_normal (wp_ret ?_))
     refine x_done (v := .agg #[.slice r0_a_6 r0_n_6 r0_c_6, .slice ua un uc]) F49 (results_1 Try.results120 (.cell (F49.ev 2 rfl) (run_loadVar' TI_26 _ [.slice r0_a_6 r0_n_6 r0_c_6, .slice ua un uc] rfl (fun h => nomatch h) (At.cells T50.at' 0 rfl 0 [.slice r0_a_6 r0_n_6 r0_c_6, .slice ua un uc] rfl)))) ?_
     exact ⟨i2_19, h2_19, (⟨l_6, W⟩ : TouchD), r0_a_6, r0_n_6, r0_c_6, ua, un, uc, rfl, (Mv.pick (T4.trans (S6.trans (S9.trans (T13.trans (S16.trans (S19.trans T50)))))) [1] rfl), (Rd.mv (Nat.succ_pos _) (Rd.mv (Nat.succ_pos _) V6_0 (S9.trans (T13.trans (S16.trans (S19.trans T50))))) (Mv.pick (Mv.refl T50.at') [1] rfl)), (Rd.mv (Nat.succ_pos _) (Rd.mv (Nat.succ_pos _) W16_0 (S19.trans T50)) (Mv.pick (Mv.refl T50.at') [1] rfl)), by first | assumption | exact w64_ok _ | omega | (unfold i64ok; omega), by first | assumption | exact w64_ok _ | omega | (unfold i64ok; omega), ⟨by dsimp only; omega, by dsimp only; omega⟩⟩
theorem spec_l03Two_c {w : World} {H : Nat → Prop} {code : List Nat} {code_a : Option Addr} {code_n code_c : Nat} (v_code : RdA 1 encB okB H w (.slice code_a code_n code_c) code) (p0 : code_n ≤ 1048576) :
    Calls Try.prog 73 #[.slice code_a code_n code_c] w fun e w' => ∃ (d : TouchD), ∃ (d2 : TouchD), ∃ (r0_reads_a : Option Addr), ∃ (r0_reads_n : Nat), ∃ (r0_reads_c : Nat), ∃ (r0_writes_a : Option Addr), ∃ (r0_writes_n : Nat), ∃ (r0_writes_c : Nat), ∃ (r1_reads_a : Option Addr), ∃ (r1_reads_n : Nat), ∃ (r1_reads_c : Nat), ∃ (r1_writes_a : Option Addr), ∃ (r1_writes_n : Nat), ∃ (r1_writes_c : Nat), e = .returned (.tuple #[.agg #[.slice r0_reads_a r0_reads_n r0_reads_c, .slice r0_writes_a r0_writes_n r0_writes_c], .agg #[.slice r1_reads_a r1_reads_n r1_reads_c, .slice r1_writes_a r1_writes_n r1_writes_c]]) ∧ Mv [] w [] w' ∧ Rd 1 encS okS (Fsh H w) w' (.slice r0_reads_a r0_reads_n r0_reads_c) d.reads ∧ Rd 1 encS okS (Fsh H w) w' (.slice r0_writes_a r0_writes_n r0_writes_c) d.writes ∧ Rd 1 encS okS (Fsh H w) w' (.slice r1_reads_a r1_reads_n r1_reads_c) d2.reads ∧ Rd 1 encS okS (Fsh H w) w' (.slice r1_writes_a r1_writes_n r1_writes_c) d2.writes ∧ (d.reads.length ≤ 100 ∧ d.writes.length ≤ 100) ∧ (d2.reads.length ≤ 100 ∧ d2.writes.length ≤ 100) := by
 have V_v_code : RdA 1 encB okB (V H w []) w (.slice code_a code_n code_c) code := RdA.start v_code (fun _ _ => fps_nil _)
 obtain ⟨ln_code, le_code, mx_code, ni_code⟩ := RdA.inv v_code
 refine calls_enter 17 Try.func73 rfl Try.ntmps73 (Nat.le_of_ble_eq_true rfl) (fun _ F0i => ?_)
 have F0 : Fr 17 [(0, .slice code_a code_n code_c)] _ := F0i
 clear F0i
 refine wp_seq (wp_region_lit (l_op (f_alloc F0 (At.nil w) ZI_26 rfl rfl rfl rfl rfl fun b1 _ w1 F2 S1 => ?_)))
 refine l_op (f_alloc F2 S1.at' ZI_26 rfl rfl rfl rfl rfl fun b3 _ w3 F4 S3 => ?_)
 have F5 : Fr 17 [(3, .pointer (some ⟨b3, 0, none⟩)), (2, .pointer (some ⟨b1, 0, none⟩)), (0, .slice code_a code_n code_c)] _ := F4.cut rfl
 clear F0 F2 F4
 have T6 : Mv _ _ [bx b3 [.slice none 0 0, .slice none 0 0] 26, bx b1 [.slice none 0 0, .slice none 0 0] 26] _ := S3
 refine s_end (x_normal (wp_seq (wp_region_lit (l_op (f_mv F5 rfl rfl rfl rfl rfl fun _ F7 => ?_)))))
 refine l_op (f_call F7 CF_75 rfl rfl rfl rfl (lc (F7.ev 6 rfl) rfl) (spec_l01New_c (code := code) (RdA.mv (Nat.succ_pos _) V_v_code (S1.trans T6)) (by first | assumption | omega | (simp <;> omega))) ?_)
 rintro _ w8 ⟨h2_8, r0_b_8, rfl, m8, q8_0⟩
 refine ⟨_, rfl, fun _ F9 => ?_⟩
 have S8 : Mv _ _ [bx r0_b_8 [.slice code_a code_n code_c, .int .i64 ((0 : Nat) : Int), .int .i64 h2_8] 108, bx b3 [.slice none 0 0, .slice none 0 0] 26, bx b1 [.slice none 0 0, .slice none 0 0] 26] _ := At.frame T6.at' [] rfl m8
 clear m8
 refine l_op (f_as F9 rfl rfl rfl rfl rfl fun _ F10 => ?_)
 have F11 : Fr 17 [(4, .pointer (some ⟨r0_b_8, 0, none⟩)), (3, .pointer (some ⟨b3, 0, none⟩)), (2, .pointer (some ⟨b1, 0, none⟩))] _ := F10.cut rfl
 clear F5 F7 F9 F10
 refine s_end (x_normal (wp_seq (wp_region_lit (l_op (f_mv F11 rfl rfl rfl rfl rfl fun _ F12 => ?_)))))
 refine l_op (f_call F12 CF_120 rfl rfl rfl rfl (lc (F12.ev 8 rfl) rfl) (spec_l03Touch_c (c := (⟨code, 0, h2_8⟩ : CurD)) (RdA.mv (Nat.succ_pos _) V_v_code (S1.trans (T6.trans S8))) (by unfold i64ok; (try dsimp only); omega) (by first | assumption | exact w64_ok _ | exact ⟨by omega, by omega⟩ | (unfold i64ok at *; omega)) (by first | assumption | omega | (simp <;> omega)) (At.pick (is := [0]) S8.at' rfl) (V_off (is := [0]))) ?_)
 rintro _ w13 ⟨i2_13, h2_13, d_13, r0_reads_a_13, r0_reads_n_13, r0_reads_c_13, r0_writes_a_13, r0_writes_n_13, r0_writes_c_13, rfl, m13, v13_0, v13_1, q13_0, q13_1, q13_2⟩
 refine ⟨_, rfl, fun _ F14 => ?_⟩
 have S13 : Mv _ _ [bx r0_b_8 [.slice code_a code_n code_c, .int .i64 ((i2_13 : Nat) : Int), .int .i64 h2_13] 108, bx b3 [.slice none 0 0, .slice none 0 0] 26, bx b1 [.slice none 0 0, .slice none 0 0] 26] _ := At.frame S8.at' [0] rfl m13
 have V13_0 : Rd 1 encS okS (V H w [bx r0_b_8 [.slice code_a code_n code_c, .int .i64 ((i2_13 : Nat) : Int), .int .i64 h2_13] 108, bx b3 [.slice none 0 0, .slice none 0 0] 26, bx b1 [.slice none 0 0, .slice none 0 0] 26]) w13 (.slice r0_reads_a_13 r0_reads_n_13 r0_reads_c_13) d_13.reads := Rd.gotP (New := [bx r0_b_8 [.slice code_a code_n code_c, .int .i64 ((i2_13 : Nat) : Int), .int .i64 h2_13] 108]) (is := [0]) S8.at' ((S1.trans (T6.trans S8)).kp.size) (fresh_nil (S1.trans (T6.trans S8))) v13_0
 obtain ⟨ln13_0, le13_0, mx13_0, ni13_0⟩ := Rd.inv V13_0
 have V13_1 : Rd 1 encS okS (V H w [bx r0_b_8 [.slice code_a code_n code_c, .int .i64 ((i2_13 : Nat) : Int), .int .i64 h2_13] 108, bx b3 [.slice none 0 0, .slice none 0 0] 26, bx b1 [.slice none 0 0, .slice none 0 0] 26]) w13 (.slice r0_writes_a_13 r0_writes_n_13 r0_writes_c_13) d_13.writes := Rd.gotP (New := [bx r0_b_8 [.slice code_a code_n code_c, .int .i64 ((i2_13 : Nat) : Int), .int .i64 h2_13] 108]) (is := [0]) S8.at' ((S1.trans (T6.trans S8)).kp.size) (fresh_nil (S1.trans (T6.trans S8))) v13_1
 obtain ⟨ln13_1, le13_1, mx13_1, ni13_1⟩ := Rd.inv V13_1
 clear m13 v13_0 v13_1
 refine l_op (f_alloc F14 S13.at' ZI_26 rfl rfl rfl rfl rfl fun b15 _ w15 F16 S15 => ?_)
 refine l_op (s_store S15.at' 0 TI_26 rfl rfl rfl rfl rfl (F16.ev 5 rfl) (F16.ev 9 rfl) rfl rfl rfl rfl rfl fun w17 S17 => ?_)
 have F18 : Fr 17 [(5, .pointer (some ⟨b15, 0, none⟩)), (9, .agg #[.slice r0_reads_a_13 r0_reads_n_13 r0_reads_c_13, .slice r0_writes_a_13 r0_writes_n_13 r0_writes_c_13]), (4, .pointer (some ⟨r0_b_8, 0, none⟩)), (3, .pointer (some ⟨b3, 0, none⟩)), (2, .pointer (some ⟨b1, 0, none⟩))] _ := F16.cut rfl
 clear F11 F12 F14 F16
 have T19 : Mv _ _ [bx b15 [.slice r0_reads_a_13 r0_reads_n_13 r0_reads_c_13, .slice r0_writes_a_13 r0_writes_n_13 r0_writes_c_13] 26, bx r0_b_8 [.slice code_a code_n code_c, .int .i64 ((i2_13 : Nat) : Int), .int .i64 h2_13] 108, bx b3 [.slice none 0 0, .slice none 0 0] 26, bx b1 [.slice none 0 0, .slice none 0 0] 26] _ := S17
 refine s_end (x_normal (wp_seq (wp_seq (wp_region_lit (l_op (f_mv F18 rfl rfl rfl rfl rfl fun _ F20 => ?_))))))
 refine l_op (f_call F20 CF_115 rfl rfl rfl rfl (lc (F20.ev 10 rfl) (lc rfl rfl)) (spec_l01Once_c (c := (⟨code, i2_13, h2_13⟩ : CurD)) (n := 4) (RdA.mv (Nat.succ_pos _) V_v_code (S1.trans (T6.trans (S8.trans (S13.trans (S15.trans T19)))))) (by unfold i64ok; (try dsimp only); omega) (by first | assumption | exact w64_ok _ | exact ⟨by omega, by omega⟩ | (unfold i64ok at *; omega)) (by first | assumption | exact ⟨by omega, by omega⟩ | (unfold i64ok at *; omega)) (by first | assumption | omega | (simp <;> omega)) (At.pick (is := [1]) T19.at' rfl) (V_off (is := [1]))) ?_)
 rintro _ w21 ⟨i2_21, h2_21, r_21, rfl, m21, q21_0, q21_1⟩
 refine ⟨_, rfl, fun _ F22 => ?_⟩
 have S21 : Mv _ _ [bx r0_b_8 [.slice code_a code_n code_c, .int .i64 ((i2_21 : Nat) : Int), .int .i64 h2_21] 108, bx b15 [.slice r0_reads_a_13 r0_reads_n_13 r0_reads_c_13, .slice r0_writes_a_13 r0_writes_n_13 r0_writes_c_13] 26, bx b3 [.slice none 0 0, .slice none 0 0] 26, bx b1 [.slice none 0 0, .slice none 0 0] 26] _ := At.frame T19.at' [1] rfl m21
 clear m21
 have F23 : Fr 17 [(11, .bool r_21), (5, .pointer (some ⟨b15, 0, none⟩)), (4, .pointer (some ⟨r0_b_8, 0, none⟩)), (3, .pointer (some ⟨b3, 0, none⟩)), (2, .pointer (some ⟨b1, 0, none⟩))] _ := F22.cut rfl
 clear F18 F20 F22
 refine s_end (x_normal (x_condb (b := r_21) (F23.ev 11 rfl) (fun h24 => ?_) (fun h24 => ?_)))
 · skip
   refine wp_seq ?_
   refine x_draw (fun aZ wZ => Fr 17 [(2, .pointer (some ⟨b1, 0, none⟩)), (3, .pointer (some ⟨b3, 0, none⟩))] aZ ∧ Mv [bx r0_b_8 [.slice code_a code_n code_c, .int .i64 ((i2_21 : Nat) : Int), .int .i64 h2_21] 108, bx b15 [.slice r0_reads_a_13 r0_reads_n_13 r0_reads_c_13, .slice r0_writes_a_13 r0_writes_n_13 r0_writes_c_13] 26, bx b3 [.slice none 0 0, .slice none 0 0] 26, bx b1 [.slice none 0 0, .slice none 0 0] 26] w21 [bx r0_b_8 [.slice code_a code_n code_c, .int .i64 ((i2_21 : Nat) : Int), .int .i64 h2_21] 108, bx b15 [.slice r0_reads_a_13 r0_reads_n_13 r0_reads_c_13, .slice r0_writes_a_13 r0_writes_n_13 r0_writes_c_13] 26, bx b3 [.slice r0_reads_a_13 r0_reads_n_13 r0_reads_c_13, .slice r0_writes_a_13 r0_writes_n_13 r0_writes_c_13] 26, bx b1 [.slice r0_reads_a_13 r0_reads_n_13 r0_reads_c_13, .slice r0_writes_a_13 r0_writes_n_13 r0_writes_c_13] 26] wZ) [bx b15 [.slice r0_reads_a_13 r0_reads_n_13 r0_reads_c_13, .slice r0_writes_a_13 r0_writes_n_13 r0_writes_c_13] 26] mixed S21.at' (listed := #[false, false, false, false]) rfl (fun w26 S26 => ?_) [1] rfl ?_
   · skip
     refine g_take (v := .agg #[.slice r0_reads_a_13 r0_reads_n_13 r0_reads_c_13, .slice r0_writes_a_13 r0_writes_n_13 r0_writes_c_13]) F23 rfl (i := 0) (listed' := #[true, false, false, false]) rfl (by kernel_rfl) (by kernel_rfl) (by kernel_rfl) (fun _ _ _ h => h) (Sd.of (Mv.refl S26.at') [1] rfl) rfl rfl rfl rfl (fun _ hz => (r_loadX (hz.bx 0 rfl) TI_26 rfl (F23.ev 5 rfl) rfl rfl (fun h => nomatch h) rfl)) fun _ F27 => ?_
     refine g_take (v := .agg #[.slice r0_reads_a_13 r0_reads_n_13 r0_reads_c_13, .slice r0_writes_a_13 r0_writes_n_13 r0_writes_c_13]) F27 rfl (i := 1) (listed' := #[true, true, false, false]) rfl (by kernel_rfl) (by kernel_rfl) (by kernel_rfl) (fun _ _ _ h => h) (Sd.of (Mv.refl S26.at') [1] rfl) rfl rfl rfl rfl (fun _ hz => (r_loadX (hz.bx 0 rfl) TI_26 rfl (F27.ev 5 rfl) rfl rfl (fun h => nomatch h) rfl)) fun _ F28 => ?_
     refine d_one (i := 2) (listed' := #[true, true, true, false]) rfl (by kernel_rfl) rfl rfl ?_
     refine s_store S26.at' 3 TI_26 rfl rfl rfl rfl rfl (F28.ev 2 rfl) (F28.ev 12 rfl) rfl rfl rfl rfl rfl fun w29 S29 => ?_
     refine ⟨Sd.of S29 [2] rfl, ?_⟩
     refine d_one (i := 3) (listed' := #[true, true, true, true]) rfl (by kernel_rfl) rfl rfl ?_
     refine s_store S29.at' 3 TI_26 rfl rfl rfl rfl rfl (F28.ev 3 rfl) (F28.ev 13 rfl) rfl rfl rfl rfl rfl fun w30 S30 => ?_
     refine ⟨Sd.of (S29.trans S30) [3] rfl, ?_⟩
     refine wpAnyH_done (by kernel_rfl) (x_normal ?_) _
     exact ⟨F28.cut rfl, ((S26.trans (S29.trans S30)).pick [2, 3, 0, 1] rfl)⟩
   · rintro a31 w31 ⟨F31, S31⟩
     refine x_normal (wp_ret (x_then_ret ?_))
     refine x_done (v := .tuple #[.agg #[.slice r0_reads_a_13 r0_reads_n_13 r0_reads_c_13, .slice r0_writes_a_13 r0_writes_n_13 r0_writes_c_13], .agg #[.slice r0_reads_a_13 r0_reads_n_13 r0_reads_c_13, .slice r0_writes_a_13 r0_writes_n_13 r0_writes_c_13]]) F31 (results_2 Try.results73 (.cell (F31.ev 2 rfl) (run_loadVar' TI_26 _ [.slice r0_reads_a_13 r0_reads_n_13 r0_reads_c_13, .slice r0_writes_a_13 r0_writes_n_13 r0_writes_c_13] rfl (fun h => nomatch h) (At.cells S31.at' 3 rfl 0 [.slice r0_reads_a_13 r0_reads_n_13 r0_reads_c_13, .slice r0_writes_a_13 r0_writes_n_13 r0_writes_c_13] rfl))) (.cell (F31.ev 3 rfl) (run_loadVar' TI_26 _ [.slice r0_reads_a_13 r0_reads_n_13 r0_reads_c_13, .slice r0_writes_a_13 r0_writes_n_13 r0_writes_c_13] rfl (fun h => nomatch h) (At.cells S31.at' 2 rfl 0 [.slice r0_reads_a_13 r0_reads_n_13 r0_reads_c_13, .slice r0_writes_a_13 r0_writes_n_13 r0_writes_c_13] rfl)))) ?_
     exact ⟨d_13, d_13, r0_reads_a_13, r0_reads_n_13, r0_reads_c_13, r0_writes_a_13, r0_writes_n_13, r0_writes_c_13, r0_reads_a_13, r0_reads_n_13, r0_reads_c_13, r0_writes_a_13, r0_writes_n_13, r0_writes_c_13, rfl, (Mv.pick (S1.trans (T6.trans (S8.trans (S13.trans (S15.trans (T19.trans (S21.trans S31))))))) [] rfl), (Rd.give (Rd.mv (Nat.succ_pos _) V13_0 (S15.trans (T19.trans (S21.trans S31))))), (Rd.give (Rd.mv (Nat.succ_pos _) V13_1 (S15.trans (T19.trans (S21.trans S31))))), (Rd.give (Rd.mv (Nat.succ_pos _) V13_0 (S15.trans (T19.trans (S21.trans S31))))), (Rd.give (Rd.mv (Nat.succ_pos _) V13_1 (S15.trans (T19.trans (S21.trans S31))))), by first | assumption | exact w64_ok _ | omega | (unfold i64ok; omega), by first | assumption | exact w64_ok _ | omega | (unfold i64ok; omega)⟩
 · skip
   refine wp_skip (x_normal (wp_seq ?_))
   refine x_draw (fun aZ wZ => ∃ (i2_36 : Nat), ∃ (h2_36 : Int), ∃ (d_36 : TouchD), ∃ (r0_reads_a_36 : Option Addr), ∃ (r0_reads_n_36 : Nat), ∃ (r0_reads_c_36 : Nat), ∃ (r0_writes_a_36 : Option Addr), ∃ (r0_writes_n_36 : Nat), ∃ (r0_writes_c_36 : Nat), Fr 17 [(2, .pointer (some ⟨b1, 0, none⟩)), (3, .pointer (some ⟨b3, 0, none⟩))] aZ ∧ Mv [bx r0_b_8 [.slice code_a code_n code_c, .int .i64 ((i2_21 : Nat) : Int), .int .i64 h2_21] 108, bx b15 [.slice r0_reads_a_13 r0_reads_n_13 r0_reads_c_13, .slice r0_writes_a_13 r0_writes_n_13 r0_writes_c_13] 26, bx b3 [.slice none 0 0, .slice none 0 0] 26, bx b1 [.slice none 0 0, .slice none 0 0] 26] w21 [bx r0_b_8 [.slice code_a code_n code_c, .int .i64 ((i2_36 : Nat) : Int), .int .i64 h2_36] 108, bx b15 [.slice r0_reads_a_13 r0_reads_n_13 r0_reads_c_13, .slice r0_writes_a_13 r0_writes_n_13 r0_writes_c_13] 26, bx b3 [.slice r0_reads_a_36 r0_reads_n_36 r0_reads_c_36, .slice r0_writes_a_36 r0_writes_n_36 r0_writes_c_36] 26, bx b1 [.slice r0_reads_a_13 r0_reads_n_13 r0_reads_c_13, .slice r0_writes_a_13 r0_writes_n_13 r0_writes_c_13] 26] wZ ∧ Rd 1 encS okS (V H w [bx r0_b_8 [.slice code_a code_n code_c, .int .i64 ((i2_36 : Nat) : Int), .int .i64 h2_36] 108, bx b15 [.slice r0_reads_a_13 r0_reads_n_13 r0_reads_c_13, .slice r0_writes_a_13 r0_writes_n_13 r0_writes_c_13] 26, bx b3 [.slice r0_reads_a_36 r0_reads_n_36 r0_reads_c_36, .slice r0_writes_a_36 r0_writes_n_36 r0_writes_c_36] 26, bx b1 [.slice r0_reads_a_13 r0_reads_n_13 r0_reads_c_13, .slice r0_writes_a_13 r0_writes_n_13 r0_writes_c_13] 26]) wZ (.slice r0_reads_a_36 r0_reads_n_36 r0_reads_c_36) d_36.reads ∧ Rd 1 encS okS (V H w [bx r0_b_8 [.slice code_a code_n code_c, .int .i64 ((i2_36 : Nat) : Int), .int .i64 h2_36] 108, bx b15 [.slice r0_reads_a_13 r0_reads_n_13 r0_reads_c_13, .slice r0_writes_a_13 r0_writes_n_13 r0_writes_c_13] 26, bx b3 [.slice r0_reads_a_36 r0_reads_n_36 r0_reads_c_36, .slice r0_writes_a_36 r0_writes_n_36 r0_writes_c_36] 26, bx b1 [.slice r0_reads_a_13 r0_reads_n_13 r0_reads_c_13, .slice r0_writes_a_13 r0_writes_n_13 r0_writes_c_13] 26]) wZ (.slice r0_writes_a_36 r0_writes_n_36 r0_writes_c_36) d_36.writes ∧ (i2_36 ≤ code_n) ∧ (i64ok h2_36) ∧ ((d_36.reads.length ≤ 100 ∧ d_36.writes.length ≤ 100))) [bx b15 [.slice r0_reads_a_13 r0_reads_n_13 r0_reads_c_13, .slice r0_writes_a_13 r0_writes_n_13 r0_writes_c_13] 26] mixed S21.at' (listed := #[false, false, false, false, false]) rfl (fun w33 S33 => ?_) [1] rfl ?_
   · skip
     refine g_take (v := .agg #[.slice r0_reads_a_13 r0_reads_n_13 r0_reads_c_13, .slice r0_writes_a_13 r0_writes_n_13 r0_writes_c_13]) F23 rfl (i := 0) (listed' := #[true, false, false, false, false]) rfl (by kernel_rfl) (by kernel_rfl) (by kernel_rfl) (fun _ _ _ h => h) (Sd.of (Mv.refl S33.at') [1] rfl) rfl rfl rfl rfl (fun _ hz => (r_loadX (hz.bx 0 rfl) TI_26 rfl (F23.ev 5 rfl) rfl rfl (fun h => nomatch h) rfl)) fun _ F34 => ?_
     refine g_take F34 rfl (i := 1) (listed' := #[true, true, false, false, false]) rfl (by kernel_rfl) (by kernel_rfl) (by kernel_rfl) (fun _ _ _ h => h) (Sd.of (Mv.refl S33.at') [1] rfl) rfl rfl rfl rfl (fun _ hz => (r_move rfl (F34.ev 4 rfl))) fun _ F35 => ?_
     refine d_one (i := 2) (listed' := #[true, true, true, false, false]) rfl (by kernel_rfl) rfl rfl ?_
     refine f_call F35 CF_120 rfl rfl rfl rfl (lc (F35.ev 15 rfl) rfl) (spec_l03Touch_c (c := (⟨code, i2_21, h2_21⟩ : CurD)) (RdA.mv (Nat.succ_pos _) V_v_code (S1.trans (T6.trans (S8.trans (S13.trans (S15.trans (T19.trans (S21.trans S33)))))))) (by unfold i64ok; (try dsimp only); omega) (by first | assumption | exact w64_ok _ | exact ⟨by omega, by omega⟩ | (unfold i64ok at *; omega)) (by first | assumption | omega | (simp <;> omega)) (At.pick (is := [0]) S33.at' rfl) (V_off (is := [0]))) ?_
     rintro _ w36 ⟨i2_36, h2_36, d_36, r0_reads_a_36, r0_reads_n_36, r0_reads_c_36, r0_writes_a_36, r0_writes_n_36, r0_writes_c_36, rfl, m36, v36_0, v36_1, q36_0, q36_1, q36_2⟩
     refine ⟨_, rfl, fun _ F37 => ?_⟩
     have S36 : Mv _ _ [bx r0_b_8 [.slice code_a code_n code_c, .int .i64 ((i2_36 : Nat) : Int), .int .i64 h2_36] 108, bx b15 [.slice r0_reads_a_13 r0_reads_n_13 r0_reads_c_13, .slice r0_writes_a_13 r0_writes_n_13 r0_writes_c_13] 26, bx b3 [.slice none 0 0, .slice none 0 0] 26, bx b1 [.slice none 0 0, .slice none 0 0] 26] _ := At.frame S33.at' [0] rfl m36
     have V36_0 : Rd 1 encS okS (V H w [bx r0_b_8 [.slice code_a code_n code_c, .int .i64 ((i2_36 : Nat) : Int), .int .i64 h2_36] 108, bx b15 [.slice r0_reads_a_13 r0_reads_n_13 r0_reads_c_13, .slice r0_writes_a_13 r0_writes_n_13 r0_writes_c_13] 26, bx b3 [.slice none 0 0, .slice none 0 0] 26, bx b1 [.slice none 0 0, .slice none 0 0] 26]) w36 (.slice r0_reads_a_36 r0_reads_n_36 r0_reads_c_36) d_36.reads := Rd.gotP (New := [bx r0_b_8 [.slice code_a code_n code_c, .int .i64 ((i2_36 : Nat) : Int), .int .i64 h2_36] 108]) (is := [0]) S33.at' ((S1.trans (T6.trans (S8.trans (S13.trans (S15.trans (T19.trans (S21.trans S33))))))).kp.size) (fresh_nil (S1.trans (T6.trans (S8.trans (S13.trans (S15.trans (T19.trans (S21.trans S33)))))))) v36_0
     obtain ⟨ln36_0, le36_0, mx36_0, ni36_0⟩ := Rd.inv V36_0
     have V36_1 : Rd 1 encS okS (V H w [bx r0_b_8 [.slice code_a code_n code_c, .int .i64 ((i2_36 : Nat) : Int), .int .i64 h2_36] 108, bx b15 [.slice r0_reads_a_13 r0_reads_n_13 r0_reads_c_13, .slice r0_writes_a_13 r0_writes_n_13 r0_writes_c_13] 26, bx b3 [.slice none 0 0, .slice none 0 0] 26, bx b1 [.slice none 0 0, .slice none 0 0] 26]) w36 (.slice r0_writes_a_36 r0_writes_n_36 r0_writes_c_36) d_36.writes := Rd.gotP (New := [bx r0_b_8 [.slice code_a code_n code_c, .int .i64 ((i2_36 : Nat) : Int), .int .i64 h2_36] 108]) (is := [0]) S33.at' ((S1.trans (T6.trans (S8.trans (S13.trans (S15.trans (T19.trans (S21.trans S33))))))).kp.size) (fresh_nil (S1.trans (T6.trans (S8.trans (S13.trans (S15.trans (T19.trans (S21.trans S33)))))))) v36_1
     obtain ⟨ln36_1, le36_1, mx36_1, ni36_1⟩ := Rd.inv V36_1
     clear m36 v36_0 v36_1
     refine ⟨Sd.of S36 [1] rfl, ?_⟩
     refine d_one (i := 3) (listed' := #[true, true, true, true, false]) rfl (by kernel_rfl) rfl rfl ?_
     refine s_store S36.at' 3 TI_26 rfl rfl rfl rfl rfl (F37.ev 2 rfl) (F37.ev 14 rfl) rfl rfl rfl rfl rfl fun w38 S38 => ?_
     refine ⟨Sd.of (S36.trans S38) [2] rfl, ?_⟩
     refine d_one (i := 4) (listed' := #[true, true, true, true, true]) rfl (by kernel_rfl) rfl rfl ?_
     refine s_store S38.at' 3 TI_26 rfl rfl rfl rfl rfl (F37.ev 3 rfl) (F37.ev 16 rfl) rfl rfl rfl rfl rfl fun w39 S39 => ?_
     refine ⟨Sd.of (S36.trans (S38.trans S39)) [3] rfl, ?_⟩
     refine wpAnyH_done (by kernel_rfl) (x_normal ?_) _
     exact ⟨i2_36, h2_36, d_36, r0_reads_a_36, r0_reads_n_36, r0_reads_c_36, r0_writes_a_36, r0_writes_n_36, r0_writes_c_36, F37.cut rfl, ((S33.trans (S36.trans (S38.trans S39))).pick [2, 3, 0, 1] rfl), (Rd.mv (Nat.succ_pos _) (Rd.mv (Nat.succ_pos _) V36_0 (S38.trans S39)) (Mv.pick (Mv.refl S39.at') [2, 3, 0, 1] rfl)), (Rd.mv (Nat.succ_pos _) (Rd.mv (Nat.succ_pos _) V36_1 (S38.trans S39)) (Mv.pick (Mv.refl S39.at') [2, 3, 0, 1] rfl)), q36_0, q36_1, q36_2⟩
   · rintro a40 w40 ⟨i2_36, h2_36, d_36, r0_reads_a_36, r0_reads_n_36, r0_reads_c_36, r0_writes_a_36, r0_writes_n_36, r0_writes_c_36, F40, S40, V40_0, V40_1, kp40_0, kp40_1, kp40_2⟩
     obtain ⟨ln40_0, le40_0, mx40_0, ni40_0⟩ := Rd.inv V40_0
     obtain ⟨ln40_1, le40_1, mx40_1, ni40_1⟩ := Rd.inv V40_1
     refine x_normal (wp_ret ?_)
     refine x_done (v := .tuple #[.agg #[.slice r0_reads_a_13 r0_reads_n_13 r0_reads_c_13, .slice r0_writes_a_13 r0_writes_n_13 r0_writes_c_13], .agg #[.slice r0_reads_a_36 r0_reads_n_36 r0_reads_c_36, .slice r0_writes_a_36 r0_writes_n_36 r0_writes_c_36]]) F40 (results_2 Try.results73 (.cell (F40.ev 2 rfl) (run_loadVar' TI_26 _ [.slice r0_reads_a_13 r0_reads_n_13 r0_reads_c_13, .slice r0_writes_a_13 r0_writes_n_13 r0_writes_c_13] rfl (fun h => nomatch h) (At.cells S40.at' 3 rfl 0 [.slice r0_reads_a_13 r0_reads_n_13 r0_reads_c_13, .slice r0_writes_a_13 r0_writes_n_13 r0_writes_c_13] rfl))) (.cell (F40.ev 3 rfl) (run_loadVar' TI_26 _ [.slice r0_reads_a_36 r0_reads_n_36 r0_reads_c_36, .slice r0_writes_a_36 r0_writes_n_36 r0_writes_c_36] rfl (fun h => nomatch h) (At.cells S40.at' 2 rfl 0 [.slice r0_reads_a_36 r0_reads_n_36 r0_reads_c_36, .slice r0_writes_a_36 r0_writes_n_36 r0_writes_c_36] rfl)))) ?_
     exact ⟨d_13, d_36, r0_reads_a_13, r0_reads_n_13, r0_reads_c_13, r0_writes_a_13, r0_writes_n_13, r0_writes_c_13, r0_reads_a_36, r0_reads_n_36, r0_reads_c_36, r0_writes_a_36, r0_writes_n_36, r0_writes_c_36, rfl, (Mv.pick (S1.trans (T6.trans (S8.trans (S13.trans (S15.trans (T19.trans (S21.trans S40))))))) [] rfl), (Rd.give (Rd.mv (Nat.succ_pos _) V13_0 (S15.trans (T19.trans (S21.trans S40))))), (Rd.give (Rd.mv (Nat.succ_pos _) V13_1 (S15.trans (T19.trans (S21.trans S40))))), (Rd.give V40_0), (Rd.give V40_1), by first | assumption | exact w64_ok _ | omega | (unfold i64ok; omega), by first | assumption | exact w64_ok _ | omega | (unfold i64ok; omega)⟩
end Go.Proofs.Ytbbkihijhdpliaa
