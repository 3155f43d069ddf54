/-
  Walks: drawn access sets and machines.
-/
import Derived.Test.YtbbkihijhdpliaaGenU
import Derived.Test.YtbbkihijhdpliaaGenR
namespace Go.Proofs.Ytbbkihijhdpliaa
open Go.ChangeShapes Go.WideShapes Go.ChangeAt Go.RowKit
set_option maxRecDepth 100000
set_option maxHeartbeats 1000000
theorem spec_l02Store_c {w : World} {H : Nat → Prop} {c : CurD} {c_code_a : Option Addr} {c_code_n c_code_c : Nat} {c_b : Nat} (v_c_code : RdA 1 encB okB H w (.slice c_code_a c_code_n c_code_c) c.code) (h_c_pos : i64ok (c.pos : Int)) (h_c_h : i64ok c.h) (p0 : c.pos ≤ c_code_n) (hA : At w [bx c_b [.slice c_code_a c_code_n c_code_c, .int .i64 ((c.pos : Nat) : Int), .int .i64 c.h] 108]) (hD : ∀ b, H b → ¬ fps [bx c_b [.slice c_code_a c_code_n c_code_c, .int .i64 ((c.pos : Nat) : Int), .int .i64 c.h] 108] b) :
    Calls Try.prog 136 #[.pointer (some ⟨c_b, 0, none⟩)] w fun e w' => ∃ (i2 : Nat), ∃ (h2 : Int), ∃ (l : List CellD), ∃ (r0_a : Option Addr), ∃ (r0_n : Nat), ∃ (r0_c : Nat), e = .returned (.slice r0_a r0_n r0_c) ∧ Mv [bx c_b [.slice c_code_a c_code_n c_code_c, .int .i64 ((c.pos : Nat) : Int), .int .i64 c.h] 108] w [ow 98 2 encC okC (.slice r0_a r0_n r0_c) l, bx c_b [.slice c_code_a c_code_n c_code_c, .int .i64 ((i2 : Nat) : Int), .int .i64 h2] 108] w' ∧ i2 ≤ c_code_n ∧ i64ok h2 ∧ l.length ≤ 8 := by
 have V_v_c_code : RdA 1 encB okB (V H w [bx c_b [.slice c_code_a c_code_n c_code_c, .int .i64 ((c.pos : Nat) : Int), .int .i64 c.h] 108]) w (.slice c_code_a c_code_n c_code_c) c.code := RdA.start v_c_code hD
 obtain ⟨ln_c_code, le_c_code, mx_c_code, ni_c_code⟩ := RdA.inv v_c_code
 refine calls_enter 19 Try.func136 rfl Try.ntmps136 (Nat.le_of_ble_eq_true rfl) (fun _ F0i => ?_)
 have F0 : Fr 19 [(0, .pointer (some ⟨c_b, 0, none⟩))] _ := F0i
 clear F0i
 refine wp_seq (wp_region_lit (l_op (f_val F0 rfl rfl (r_assign rfl rfl) rfl fun _ F1 => ?_)))
 have F2 : Fr 19 [(2, .slice none 0 0), (0, .pointer (some ⟨c_b, 0, none⟩))] _ := F1.cut rfl
 clear F0 F1
 refine s_end (x_normal (wp_seq (wp_region_lit (l_op (f_buildSl (ok := okC) (vs := []) F2 hA (([] : List CellD)) ET_46 rfl rfl rfl rfl rfl rfl rfl rfl rfl (by simp) fun b3 _ w3 F4 S3 => ?_)))))
 refine l_op (f_as F4 rfl rfl rfl rfl rfl fun _ F5 => ?_)
 have F6 : Fr 19 [(3, .slice (some ⟨b3, 0, none⟩) 0 0), (0, .pointer (some ⟨c_b, 0, none⟩))] _ := F5.cut rfl
 clear F2 F4 F5
 have T7 : Mv _ _ [ow 98 2 encC okC (.slice (some ⟨b3, 0, none⟩) 0 0) ([] : List CellD), bx c_b [.slice c_code_a c_code_n c_code_c, .int .i64 ((c.pos : Nat) : Int), .int .i64 c.h] 108] _ := S3
 refine s_end (x_normal (wp_seq (wp_seq (wp_region_lit (l_op (f_val F6 rfl rfl (r_assign rfl rfl) rfl fun _ F8 => ?_))))))
 have F9 : Fr 19 [(4, .int .i64 0), (3, .slice (some ⟨b3, 0, none⟩) 0 0), (0, .pointer (some ⟨c_b, 0, none⟩))] _ := F8.cut rfl
 clear F6 F8
 refine s_end (x_normal (wp_block ?_))
 refine x_loop (fun (k : Nat) aZ wZ => ∃ (pp : Nat), ∃ (hh : Int), ∃ (O : List CellD), ∃ (oa : Option Addr), ∃ (on : Nat), ∃ (oc : Nat), Fr 19 [(4, .int .i64 ((k : Nat) : Int)), (3, .slice oa on oc), (0, .pointer (some ⟨c_b, 0, none⟩))] aZ ∧ Mv [ow 98 2 encC okC (.slice (some ⟨b3, 0, none⟩) 0 0) ([] : List CellD), bx c_b [.slice c_code_a c_code_n c_code_c, .int .i64 ((c.pos : Nat) : Int), .int .i64 c.h] 108] w3 [ow 98 2 encC okC (.slice oa on oc) O, bx c_b [.slice c_code_a c_code_n c_code_c, .int .i64 ((pp : Nat) : Int), .int .i64 hh] 108] wZ ∧ (pp ≤ c_code_n) ∧ (i64ok hh) ∧ (O.length ≤ k) ∧ (k ≤ 8) ∧ (on = O.length)) (fun (k : Nat) => 8 - k) (0) ?_ ?_
 · exact ⟨c.pos, c.h, ([] : List CellD), (some ⟨b3, 0, none⟩), 0, 0, F9.cut rfl, (Mv.refl T7.at'), by omega, by assumption, Nat.le_refl _, by omega, rfl⟩
 · rintro k a10 w10 ⟨pp, hh, O, oa, on, oc, F10, S10, hk_0, hk_1, hk_2, hk_3, hk_4⟩
   refine wp_seq (wp_seq (wp_region_lit (l_op (f_mv F10 rfl rfl rfl rfl rfl fun _ F11 => ?_))))
   refine l_op (f_mv F11 rfl rfl rfl rfl rfl fun _ F12 => ?_)
   refine l_op (f_call F12 CF_80 rfl rfl rfl rfl (lc (F12.ev 7 rfl) (lc rfl rfl)) (spec_l01Below_c (c := (⟨c.code, pp, hh⟩ : CurD)) (n := 8) (RdA.mv (Nat.succ_pos _) V_v_c_code (T7.trans S10)) (by unfold i64ok; (try dsimp only); omega) (by first | assumption | exact w64_ok _ | exact ⟨by omega, by omega⟩ | (unfold i64ok at *; omega)) (by first | assumption | exact ⟨by omega, by omega⟩ | (unfold i64ok at *; omega)) (by first | assumption | omega | (simp <;> omega)) (At.pick (is := [1]) S10.at' rfl) (V_off (is := [1]))) ?_)
   rintro _ w13 ⟨i2_13, h2_13, r_13, rfl, m13, q13_0, q13_1, q13_2, q13_3⟩
   refine ⟨_, rfl, fun _ F14 => ?_⟩
   have S13 : Mv _ _ [bx c_b [.slice c_code_a c_code_n c_code_c, .int .i64 ((i2_13 : Nat) : Int), .int .i64 h2_13] 108, ow 98 2 encC okC (.slice oa on oc) O] _ := At.frame S10.at' [1] rfl m13
   clear m13
   refine l_op (f_val F14 rfl rfl (r_cmp (b := decide (k < r_13)) (.inr (.inr (.inl rfl))) rfl (F14.ev 6 rfl) (F14.ev 8 rfl) (dec_of (by omega))) rfl fun _ F15 => ?_)
   have F16 : Fr 19 [(9, .bool (decide (k < r_13))), (4, .int .i64 ((k : Nat) : Int)), (3, .slice oa on oc), (0, .pointer (some ⟨c_b, 0, none⟩))] _ := F15.cut rfl
   clear F10 F11 F12 F14 F15
   refine s_end (x_normal (x_cond (p := k < r_13) (F16.ev 9 rfl) (fun h17 => ?_) (fun h17 => ?_)))
   · skip
     refine wp_skip (x_normal (wp_seq (wp_block (wp_region_lit (l_op (f_mv F16 rfl rfl rfl rfl rfl fun _ F18 => ?_))))))
     refine l_op (f_mv F18 rfl rfl rfl rfl rfl fun _ F19 => ?_)
     refine l_op (f_call F19 CF_81 rfl rfl rfl rfl (lc (F19.ev 13 rfl) rfl) (spec_l02Key_c (c := (⟨c.code, i2_13, h2_13⟩ : CurD)) (RdA.mv (Nat.succ_pos _) V_v_c_code (T7.trans (S10.trans S13))) (by unfold i64ok; (try dsimp only); omega) (by first | assumption | exact w64_ok _ | exact ⟨by omega, by omega⟩ | (unfold i64ok at *; omega)) (by first | assumption | omega | (simp <;> omega)) (At.pick (is := [0]) S13.at' rfl) (V_off (is := [0]))) ?_)
     rintro _ w20 ⟨i2_20, h2_20, r_20, rfl, m20, ok_r0_20, q20_0, q20_1, q20_2⟩
     refine ⟨_, rfl, fun _ F21 => ?_⟩
     have S20 : Mv _ _ [bx c_b [.slice c_code_a c_code_n c_code_c, .int .i64 ((i2_20 : Nat) : Int), .int .i64 h2_20] 108, ow 98 2 encC okC (.slice oa on oc) O] _ := At.frame S13.at' [0] rfl m20
     clear m20
     refine l_op (f_mv F21 rfl rfl rfl rfl rfl fun _ F22 => ?_)
     refine l_op (f_call F22 CF_103 rfl rfl rfl rfl (lc (F22.ev 15 rfl) rfl) (spec_l02Val_c (c := (⟨c.code, i2_20, h2_20⟩ : CurD)) (RdA.mv (Nat.succ_pos _) V_v_c_code (T7.trans (S10.trans (S13.trans S20)))) (by unfold i64ok; (try dsimp only); omega) (by first | assumption | exact w64_ok _ | exact ⟨by omega, by omega⟩ | (unfold i64ok at *; omega)) (by first | assumption | omega | (simp <;> omega)) (At.pick (is := [0]) S20.at' rfl) (V_off (is := [0]))) ?_)
     rintro _ w23 ⟨i2_23, h2_23, r_23, rfl, m23, ok_r0_23, q23_0, q23_1, q23_2⟩
     refine ⟨_, rfl, fun _ F24 => ?_⟩
     have S23 : Mv _ _ [bx c_b [.slice c_code_a c_code_n c_code_c, .int .i64 ((i2_23 : Nat) : Int), .int .i64 h2_23] 108, ow 98 2 encC okC (.slice oa on oc) O] _ := At.frame S20.at' [0] rfl m23
     clear m23
     refine l_op (f_call F24 CF_140 rfl rfl rfl rfl (lc (F24.ev 12 rfl) (lc (F24.ev 14 rfl) (lc (F24.ev 16 rfl) rfl))) (spec_PutKey_c (H := fun _ => True) (s := O) (key := r_20) (val := r_23) (At.rd S23.at' ET_46.hk 1 rfl) ok_r0_20 ok_r0_23 (by first | assumption | omega | (simp <;> omega))) ?_)
     rintro _ w25 ⟨r0_a_25, r0_n_25, r0_c_25, rfl, m25⟩
     refine ⟨_, rfl, fun _ F26 => ?_⟩
     have S25 : Mv _ _ [ow 98 2 encC okC (.slice r0_a_25 r0_n_25 r0_c_25) (putKey O r_20 r_23), bx c_b [.slice c_code_a c_code_n c_code_c, .int .i64 ((i2_23 : Nat) : Int), .int .i64 h2_23] 108, ow 98 2 encC okC (.slice oa on oc) O] _ := At.frame S23.at' [] rfl m25
     obtain ⟨lo25_0, lp25_0, lq25_0⟩ := At.ownInv S25.at' ET_46.hk 0 rfl
     clear m25
     refine l_op (f_as F26 rfl rfl rfl rfl rfl fun _ F27 => ?_)
     have F28 : Fr 19 [(3, .slice r0_a_25 r0_n_25 r0_c_25), (4, .int .i64 ((k : Nat) : Int)), (0, .pointer (some ⟨c_b, 0, none⟩))] _ := F27.cut rfl
     clear F16 F18 F19 F21 F22 F24 F26 F27
     refine s_end (x_block_normal (x_normal (wp_region_lit (l_op (f_mv F28 rfl rfl rfl rfl rfl fun _ F29 => ?_)))))
     refine l_op (f_val F29 rfl rfl (r_add (z := ((k + 1 : Nat) : Int)) rfl (F29.ev 10 rfl) rfl (by first | rfl | omega) ⟨by first | omega | (unfold i64ok at *; omega), by first | omega | (unfold i64ok at *; omega)⟩) rfl fun _ F30 => ?_)
     refine l_op (f_as F30 rfl rfl rfl rfl rfl fun _ F31 => ?_)
     have F32 : Fr 19 [(4, .int .i64 ((k + 1 : Nat) : Int)), (3, .slice r0_a_25 r0_n_25 r0_c_25), (0, .pointer (some ⟨c_b, 0, none⟩))] _ := F31.cut rfl
     clear F28 F29 F30 F31
     refine s_end ?_
     refine x_normal ⟨k + 1, by omega, i2_23, h2_23, putKey O r_20 r_23, r0_a_25, r0_n_25, r0_c_25, F32.cut rfl, ((S10.trans (S13.trans (S20.trans (S23.trans S25)))).pick [0, 1] rfl), by omega, by assumption, Nat.le_trans (putKey_length ..) (by omega), by omega, by assumption⟩
   · skip
     refine wp_exit (x_then_exit (x_then_exit (x_block_here (x_normal (wp_seq (wp_region_lit (l_op (f_mv F16 rfl rfl rfl rfl rfl fun _ F33 => ?_))))))))
     refine l_op (f_as F33 rfl rfl rfl rfl rfl fun _ F34 => ?_)
     have F35 : Fr 19 [(2, .slice oa on oc)] _ := F34.cut rfl
     clear F16 F33 F34
     refine s_end (x_normal (wp_ret ?_))
     refine x_done (v := .slice oa on oc) F35 (results_1 Try.results136 (.tmp (F35.ev 2 rfl))) ?_
     exact ⟨i2_13, h2_13, O, oa, on, oc, rfl, (Mv.pick (T7.trans (S10.trans S13)) [1, 0] rfl), by first | assumption | exact w64_ok _ | omega | (unfold i64ok; omega), by first | assumption | exact w64_ok _ | omega | (unfold i64ok; omega), by omega⟩
theorem spec_l02Any_c {w : World} {H : Nat → Prop} {c : CurD} {c_code_a : Option Addr} {c_code_n c_code_c : Nat} {c_b : Nat} (v_c_code : RdA 1 encB okB H w (.slice c_code_a c_code_n c_code_c) c.code) (h_c_pos : i64ok (c.pos : Int)) (h_c_h : i64ok c.h) (p0 : c.pos ≤ c_code_n) (hA : At w [bx c_b [.slice c_code_a c_code_n c_code_c, .int .i64 ((c.pos : Nat) : Int), .int .i64 c.h] 108]) (hD : ∀ b, H b → ¬ fps [bx c_b [.slice c_code_a c_code_n c_code_c, .int .i64 ((c.pos : Nat) : Int), .int .i64 c.h] 108] b) :
    Calls Try.prog 114 #[.pointer (some ⟨c_b, 0, none⟩)] w fun e w' => ∃ (i2 : Nat), ∃ (h2 : Int), ∃ (l : List CellD), ∃ (r0_a : Option Addr), ∃ (r0_n : Nat), ∃ (r0_c : Nat), e = .returned (.slice r0_a r0_n r0_c) ∧ Mv [bx c_b [.slice c_code_a c_code_n c_code_c, .int .i64 ((c.pos : Nat) : Int), .int .i64 c.h] 108] w [ow 98 2 encC okC (.slice r0_a r0_n r0_c) l, bx c_b [.slice c_code_a c_code_n c_code_c, .int .i64 ((i2 : Nat) : Int), .int .i64 h2] 108] w' ∧ i2 ≤ c_code_n ∧ i64ok h2 ∧ l.length ≤ 9 := by
 have V_v_c_code : RdA 1 encB okB (V H w [bx c_b [.slice c_code_a c_code_n c_code_c, .int .i64 ((c.pos : Nat) : Int), .int .i64 c.h] 108]) w (.slice c_code_a c_code_n c_code_c) c.code := RdA.start v_c_code hD
 obtain ⟨ln_c_code, le_c_code, mx_c_code, ni_c_code⟩ := RdA.inv v_c_code
 refine calls_enter 17 Try.func114 rfl Try.ntmps114 (Nat.le_of_ble_eq_true rfl) (fun _ F0i => ?_)
 have F0 : Fr 17 [(0, .pointer (some ⟨c_b, 0, none⟩))] _ := F0i
 clear F0i
 refine wp_seq (wp_region_lit (l_op (f_val F0 rfl rfl (r_assign rfl rfl) rfl fun _ F1 => ?_)))
 have F2 : Fr 17 [(2, .slice none 0 0), (0, .pointer (some ⟨c_b, 0, none⟩))] _ := F1.cut rfl
 clear F0 F1
 refine s_end (x_normal (wp_seq (wp_region_lit (l_op (f_mv F2 rfl rfl rfl rfl rfl fun _ F3 => ?_)))))
 refine l_op (f_call F3 CF_136 rfl rfl rfl rfl (lc (F3.ev 4 rfl) rfl) (spec_l02Store_c (c := c) V_v_c_code (by unfold i64ok; (try dsimp only); omega) (by first | assumption | exact w64_ok _ | exact ⟨by omega, by omega⟩ | (unfold i64ok at *; omega)) (by first | assumption | omega | (simp <;> omega)) (At.pick (is := [0]) hA rfl) (V_off (is := [0]))) ?_)
 rintro _ w4 ⟨i2_4, h2_4, l_4, r0_a_4, r0_n_4, r0_c_4, rfl, m4, q4_0, q4_1, q4_2⟩
 refine ⟨_, rfl, fun _ F5 => ?_⟩
 have S4 : Mv _ _ [ow 98 2 encC okC (.slice r0_a_4 r0_n_4 r0_c_4) l_4, bx c_b [.slice c_code_a c_code_n c_code_c, .int .i64 ((i2_4 : Nat) : Int), .int .i64 h2_4] 108] _ := At.frame hA [0] rfl m4
 obtain ⟨lo4_0, lp4_0, lq4_0⟩ := At.ownInv S4.at' ET_46.hk 0 rfl
 clear m4
 refine l_op (f_as F5 rfl rfl rfl rfl rfl fun _ F6 => ?_)
 have F7 : Fr 17 [(3, .slice r0_a_4 r0_n_4 r0_c_4), (0, .pointer (some ⟨c_b, 0, none⟩))] _ := F6.cut rfl
 clear F2 F3 F5 F6
 refine s_end (x_normal (wp_seq (wp_seq (wp_region_lit (l_op (f_mv F7 rfl rfl rfl rfl rfl fun _ F8 => ?_))))))
 refine l_op (f_call F8 CF_115 rfl rfl rfl rfl (lc (F8.ev 6 rfl) (lc rfl rfl)) (spec_l01Once_c (c := (⟨c.code, i2_4, h2_4⟩ : CurD)) (n := 8) (RdA.mv (Nat.succ_pos _) V_v_c_code S4) (by unfold i64ok; (try dsimp only); omega) (by first | assumption | exact w64_ok _ | exact ⟨by omega, by omega⟩ | (unfold i64ok at *; omega)) (by first | assumption | exact ⟨by omega, by omega⟩ | (unfold i64ok at *; omega)) (by first | assumption | omega | (simp <;> omega)) (At.pick (is := [1]) S4.at' rfl) (V_off (is := [1]))) ?_)
 rintro _ w9 ⟨i2_9, h2_9, r_9, rfl, m9, q9_0, q9_1⟩
 refine ⟨_, rfl, fun _ F10 => ?_⟩
 have S9 : Mv _ _ [bx c_b [.slice c_code_a c_code_n c_code_c, .int .i64 ((i2_9 : Nat) : Int), .int .i64 h2_9] 108, ow 98 2 encC okC (.slice r0_a_4 r0_n_4 r0_c_4) l_4] _ := At.frame S4.at' [1] rfl m9
 clear m9
 have F11 : Fr 17 [(7, .bool r_9), (3, .slice r0_a_4 r0_n_4 r0_c_4), (0, .pointer (some ⟨c_b, 0, none⟩))] _ := F10.cut rfl
 clear F7 F8 F10
 refine s_end (x_normal (x_condb (b := r_9) (F11.ev 7 rfl) (fun h12 => ?_) (fun h12 => ?_)))
 · skip
   refine wp_region_lit (l_op (f_mv F11 rfl rfl rfl rfl rfl fun _ F13 => ?_))
   refine l_op (f_mv F13 rfl rfl rfl rfl rfl fun _ F14 => ?_)
   refine l_op (f_call F14 CF_102 rfl rfl rfl rfl (lc (F14.ev 9 rfl) rfl) (spec_l02AnyKey_c (c := (⟨c.code, i2_9, h2_9⟩ : CurD)) (RdA.mv (Nat.succ_pos _) V_v_c_code (S4.trans S9)) (by unfold i64ok; (try dsimp only); omega) (by first | assumption | exact w64_ok _ | exact ⟨by omega, by omega⟩ | (unfold i64ok at *; omega)) (by first | assumption | omega | (simp <;> omega)) (At.pick (is := [0]) S9.at' rfl) (V_off (is := [0]))) ?_)
   rintro _ w15 ⟨i2_15, h2_15, r_15, rfl, m15, ok_r0_15, q15_0, q15_1⟩
   refine ⟨_, rfl, fun _ F16 => ?_⟩
   have S15 : Mv _ _ [bx c_b [.slice c_code_a c_code_n c_code_c, .int .i64 ((i2_15 : Nat) : Int), .int .i64 h2_15] 108, ow 98 2 encC okC (.slice r0_a_4 r0_n_4 r0_c_4) l_4] _ := At.frame S9.at' [0] rfl m15
   clear m15
   refine l_op (f_mv F16 rfl rfl rfl rfl rfl fun _ F17 => ?_)
   refine l_op (f_call F17 CF_103 rfl rfl rfl rfl (lc (F17.ev 11 rfl) rfl) (spec_l02Val_c (c := (⟨c.code, i2_15, h2_15⟩ : CurD)) (RdA.mv (Nat.succ_pos _) V_v_c_code (S4.trans (S9.trans S15))) (by unfold i64ok; (try dsimp only); omega) (by first | assumption | exact w64_ok _ | exact ⟨by omega, by omega⟩ | (unfold i64ok at *; omega)) (by first | assumption | omega | (simp <;> omega)) (At.pick (is := [0]) S15.at' rfl) (V_off (is := [0]))) ?_)
   rintro _ w18 ⟨i2_18, h2_18, r_18, rfl, m18, ok_r0_18, q18_0, q18_1, q18_2⟩
   refine ⟨_, rfl, fun _ F19 => ?_⟩
   have S18 : Mv _ _ [bx c_b [.slice c_code_a c_code_n c_code_c, .int .i64 ((i2_18 : Nat) : Int), .int .i64 h2_18] 108, ow 98 2 encC okC (.slice r0_a_4 r0_n_4 r0_c_4) l_4] _ := At.frame S15.at' [0] rfl m18
   clear m18
   refine l_op (f_val (v := .agg #[.string r_15, .string r_18]) F19 rfl rfl (r_build BI_98 rfl (lc (pr2 (F19.ev 10 rfl)) (lc (pr2 (F19.ev 12 rfl)) rfl)) rfl) rfl fun _ F20 => ?_)
   refine l_op (f_buildSl (ok := okC) (vs := [.agg #[.string r_15, .string r_18]]) F20 S18.at' ([(⟨r_15, r_18⟩ : CellD)]) ET_46 rfl rfl rfl rfl rfl rfl (lc (pr2 (F20.ev 13 rfl)) rfl) rfl rfl (fun x hx => (List.mem_singleton.1 hx) ▸ ⟨ok_r0_15, ok_r0_18⟩) fun b21 _ w21 F22 S21 => ?_)
   refine l_op (f_app (news := [(⟨r_15, r_18⟩ : CellD)]) F22 S21.at' 2 ET_46 rfl rfl rfl rfl rfl rfl (F22.ev 8 rfl) (F22.ev 14 rfl) ((At.rd S21.at' ET_46.hk 0 rfl)).1 (by first | omega | (simp only [List.length_cons, List.length_nil]; omega)) fun A23 N23 C23 _ w23 F24 S23 l23 => ?_)
   have S25 := At.drop S23.at' 1
   refine l_op (f_as F24 rfl rfl rfl rfl rfl fun _ F26 => ?_)
   have F27 : Fr 17 [(3, .slice A23 N23 C23)] _ := F26.cut rfl
   clear F11 F13 F14 F16 F17 F19 F20 F22 F24 F26
   have T28 : Mv _ _ [ow 98 2 encC okC (.slice A23 N23 C23) (l_4 ++ ([(⟨r_15, r_18⟩ : CellD)])), bx c_b [.slice c_code_a c_code_n c_code_c, .int .i64 ((i2_18 : Nat) : Int), .int .i64 h2_18] 108] _ := S25
   refine s_end (x_normal (wp_seq (wp_region_lit (l_op (f_mv F27 rfl rfl rfl rfl rfl fun _ F29 => ?_)))))
   refine l_op (f_as F29 rfl rfl rfl rfl rfl fun _ F30 => ?_)
   have F31 : Fr 17 [(2, .slice A23 N23 C23)] _ := F30.cut rfl
   clear F27 F29 F30
   refine s_end (x_normal (wp_ret ?_))
   refine x_done (v := .slice A23 N23 C23) F31 (results_1 Try.results114 (.tmp (F31.ev 2 rfl))) ?_
   exact ⟨i2_18, h2_18, l_4 ++ ([(⟨r_15, r_18⟩ : CellD)]), A23, N23, C23, rfl, (Mv.pick (S4.trans (S9.trans (S15.trans (S18.trans (S21.trans (S23.trans T28)))))) [0, 1] rfl), by first | assumption | exact w64_ok _ | omega | (unfold i64ok; omega), by first | assumption | exact w64_ok _ | omega | (unfold i64ok; omega), by first | omega | (simp only [List.length_append, List.length_cons, List.length_nil]; omega)⟩
 · skip
   refine wp_skip (x_normal (wp_seq (wp_region_lit (l_op (f_mv F11 rfl rfl rfl rfl rfl fun _ F32 => ?_)))))
   refine l_op (f_as F32 rfl rfl rfl rfl rfl fun _ F33 => ?_)
   have F34 : Fr 17 [(2, .slice r0_a_4 r0_n_4 r0_c_4)] _ := F33.cut rfl
   clear F11 F32 F33
   refine s_end (x_normal (wp_ret ?_))
   refine x_done (v := .slice r0_a_4 r0_n_4 r0_c_4) F34 (results_1 Try.results114 (.tmp (F34.ev 2 rfl))) ?_
   exact ⟨i2_9, h2_9, l_4, r0_a_4, r0_n_4, r0_c_4, rfl, (Mv.pick (S4.trans S9) [1, 0] rfl), by first | assumption | exact w64_ok _ | omega | (unfold i64ok; omega), by first | assumption | exact w64_ok _ | omega | (unfold i64ok; omega), by first | omega | (simp only [List.length_append, List.length_cons, List.length_nil]; omega)⟩
theorem spec_MachOf_c {w : World} {H : Nat → Prop} {s : List CellD} {s_a : Option Addr} {s_n s_c : Nat} (v_s : Rd 2 encC okC H w (.slice s_a s_n s_c) s) (p0 : s_n ≤ 274877906944) :
    Calls Try.prog 109 #[.slice s_a s_n s_c] w fun e w' => ∃ (r0_Sa : Option Addr), ∃ (r0_Sn : Nat), ∃ (r0_Sc : Nat), ∃ (r0_Ra : Option Addr), ∃ (r0_Rn : Nat), ∃ (r0_Rc : Nat), ∃ (r0_Wa : Option Addr), ∃ (r0_Wn : Nat), ∃ (r0_Wc : Nat), e = .returned (.agg #[.slice r0_Sa r0_Sn r0_Sc, .slice r0_Ra r0_Rn r0_Rc, .slice r0_Wa r0_Wn r0_Wc]) ∧ Mv [] w [] w' ∧ Rd 2 encC okC (Fsh H w) w' (.slice r0_Sa r0_Sn r0_Sc) s ∧ Rd 1 encS okS (Fsh H w) w' (.slice r0_Ra r0_Rn r0_Rc) ([]) ∧ Rd 1 encS okS (Fsh H w) w' (.slice r0_Wa r0_Wn r0_Wc) ([]) := by
 have V_v_s : Rd 2 encC okC (V H w []) w (.slice s_a s_n s_c) s := Rd.start v_s (fun _ _ => fps_nil _)
 obtain ⟨ln_s, le_s, mx_s, ni_s⟩ := Rd.inv v_s
 refine calls_enter 7 Try.func109 rfl Try.ntmps109 (Nat.le_of_ble_eq_true rfl) (fun _ F0i => ?_)
 have F0 : Fr 7 [(0, .slice s_a s_n s_c)] _ := F0i
 clear F0i
 refine wp_seq (wp_region_lit (l_op (f_alloc F0 (At.nil w) ZI_48 rfl rfl rfl rfl rfl fun b1 _ w1 F2 S1 => ?_)))
 have F3 : Fr 7 [(2, .pointer (some ⟨b1, 0, none⟩)), (0, .slice s_a s_n s_c)] _ := F2.cut rfl
 clear F0 F2
 have T4 : Mv _ _ [bx b1 [.slice none 0 0, .slice none 0 0, .slice none 0 0] 48] _ := S1
 refine s_end (x_normal (wp_seq (wp_region_lit (l_op (f_buildSl (ok := okC) (vs := []) F3 T4.at' (([] : List CellD)) ET_46 rfl rfl rfl rfl rfl rfl rfl rfl rfl (by simp) fun b5 _ w5 F6 S5 => ?_)))))
 refine l_op (f_mv F6 rfl rfl rfl rfl rfl fun _ F7 => ?_)
 refine l_op (f_app (news := s) F7 S5.at' 0 ET_46 rfl rfl rfl rfl rfl rfl (F7.ev 3 rfl) (F7.ev 4 rfl) ((Rd.mv (Nat.succ_pos _) V_v_s (T4.trans S5))).1 (by simp only [List.length_append, List.length_cons, List.length_nil]; omega) fun A8 N8 C8 _ w8 F9 S8 l8 => ?_)
 refine l_op (f_val (v := .agg #[.slice A8 N8 C8, .slice none 0 0, .slice none 0 0]) F9 rfl rfl (r_build BI_48 rfl (lc (pr2 (F9.ev 5 rfl)) rfl) rfl) rfl fun _ F10 => ?_)
 refine l_op (s_store S8.at' 1 TI_48 rfl rfl rfl rfl rfl (F10.ev 2 rfl) (F10.ev 6 rfl) rfl rfl rfl rfl rfl fun w11 S11 => ?_)
 have F12 : Fr 7 [(6, .agg #[.slice A8 N8 C8, .slice none 0 0, .slice none 0 0]), (2, .pointer (some ⟨b1, 0, none⟩))] _ := F10.cut rfl
 clear F3 F6 F7 F9 F10
 have T13 : Mv _ _ [bx b1 [.slice A8 N8 C8, .slice none 0 0, .slice none 0 0] 48, ow 98 2 encC okC (.slice A8 N8 C8) (([] : List CellD) ++ s)] _ := S11
 refine s_end (x_normal (wp_ret ?_))
 have Z14 : Rd 2 encC okC (V H w [bx b1 [.slice A8 N8 C8, .slice none 0 0, .slice none 0 0] 48]) w11 (.slice A8 N8 C8) (([] : List CellD) ++ s) := At.freeze (T4.trans (S5.trans (S8.trans T13))) ET_46.hk 1 rfl (fun b hb => ((T4.trans (S5.trans (S8.trans T13))).fresh b ⟨_, nth_mem (i := 1) rfl, hb⟩).resolve_left (fps_nil _))
 have S14 := At.drop T13.at' 1
 refine x_done (v := .agg #[.slice A8 N8 C8, .slice none 0 0, .slice none 0 0]) F12 (results_1 Try.results109 (.cell (F12.ev 2 rfl) (run_loadVar' TI_48 _ [.slice A8 N8 C8, .slice none 0 0, .slice none 0 0] rfl (fun h => nomatch h) (At.cells T13.at' 0 rfl 0 [.slice A8 N8 C8, .slice none 0 0, .slice none 0 0] rfl)))) ?_
 exact ⟨A8, N8, C8, none, 0, 0, none, 0, 0, rfl, (Mv.pick (T4.trans (S5.trans (S8.trans (T13.trans S14)))) [] rfl), (Rd.cast (Rd.give Z14) (show (([] : List CellD) ++ s) = s from by rfl)), Rd.nil, Rd.nil⟩
end Go.Proofs.Ytbbkihijhdpliaa
