/-
  Walks: drawn machines.
-/
import Derived.Test.YtbbkihijhdpliaaGenV
namespace Go.Proofs.Ytbbkihijhdpliaa
open Go.ChangeShapes Go.WideShapes Go.ChangeAt Go.RowKit
set_option maxRecDepth 100000
set_option maxHeartbeats 1000000
theorem spec_l04Mach_c {w : World} {H : Nat → Prop} {c : CurD} {c_code_a : Option Addr} {c_code_n c_code_c : Nat} {c_b : Nat} (v_c_code : RdA 1 encB okB H w (.slice c_code_a c_code_n c_code_c) c.code) (h_c_pos : i64ok (c.pos : Int)) (h_c_h : i64ok c.h) (p0 : c.pos ≤ c_code_n) (hA : At w [bx c_b [.slice c_code_a c_code_n c_code_c, .int .i64 ((c.pos : Nat) : Int), .int .i64 c.h] 108]) (hD : ∀ b, H b → ¬ fps [bx c_b [.slice c_code_a c_code_n c_code_c, .int .i64 ((c.pos : Nat) : Int), .int .i64 c.h] 108] b) :
    Calls Try.prog 101 #[.pointer (some ⟨c_b, 0, none⟩)] w fun e w' => ∃ (i2 : Nat), ∃ (h2 : Int), ∃ (d : MachD), ∃ (r0_Sa : Option Addr), ∃ (r0_Sn : Nat), ∃ (r0_Sc : Nat), ∃ (r0_Ra : Option Addr), ∃ (r0_Rn : Nat), ∃ (r0_Rc : Nat), ∃ (r0_Wa : Option Addr), ∃ (r0_Wn : Nat), ∃ (r0_Wc : Nat), e = .returned (.agg #[.slice r0_Sa r0_Sn r0_Sc, .slice r0_Ra r0_Rn r0_Rc, .slice r0_Wa r0_Wn r0_Wc]) ∧ Mv [bx c_b [.slice c_code_a c_code_n c_code_c, .int .i64 ((c.pos : Nat) : Int), .int .i64 c.h] 108] w [bx c_b [.slice c_code_a c_code_n c_code_c, .int .i64 ((i2 : Nat) : Int), .int .i64 h2] 108] w' ∧ Rd 2 encC okC (V (HP H [bx c_b [.slice c_code_a c_code_n c_code_c, .int .i64 ((c.pos : Nat) : Int), .int .i64 c.h] 108]) w [bx c_b [.slice c_code_a c_code_n c_code_c, .int .i64 ((i2 : Nat) : Int), .int .i64 h2] 108]) w' (.slice r0_Sa r0_Sn r0_Sc) d.store ∧ Rd 1 encS okS (V (HP H [bx c_b [.slice c_code_a c_code_n c_code_c, .int .i64 ((c.pos : Nat) : Int), .int .i64 c.h] 108]) w [bx c_b [.slice c_code_a c_code_n c_code_c, .int .i64 ((i2 : Nat) : Int), .int .i64 h2] 108]) w' (.slice r0_Ra r0_Rn r0_Rc) d.touch.reads ∧ Rd 1 encS okS (V (HP H [bx c_b [.slice c_code_a c_code_n c_code_c, .int .i64 ((c.pos : Nat) : Int), .int .i64 c.h] 108]) w [bx c_b [.slice c_code_a c_code_n c_code_c, .int .i64 ((i2 : Nat) : Int), .int .i64 h2] 108]) w' (.slice r0_Wa r0_Wn r0_Wc) d.touch.writes ∧ i2 ≤ c_code_n ∧ i64ok h2 ∧ (d.store.length ≤ 100 ∧ d.touch.reads.length ≤ 100 ∧ d.touch.writes.length ≤ 100) := by
 have V_v_c_code : RdA 1 encB okB (V (HP H [bx c_b [.slice c_code_a c_code_n c_code_c, .int .i64 ((c.pos : Nat) : Int), .int .i64 c.h] 108]) w [bx c_b [.slice c_code_a c_code_n c_code_c, .int .i64 ((c.pos : Nat) : Int), .int .i64 c.h] 108]) w (.slice c_code_a c_code_n c_code_c) c.code := RdA.startP v_c_code hD
 obtain ⟨ln_c_code, le_c_code, mx_c_code, ni_c_code⟩ := RdA.inv v_c_code
 refine calls_enter 39 Try.func101 rfl Try.ntmps101 (Nat.le_of_ble_eq_true rfl) (fun _ F0i => ?_)
 have F0 : Fr 39 [(0, .pointer (some ⟨c_b, 0, none⟩))] _ := F0i
 clear F0i
 refine wp_seq (wp_region_lit (l_op (f_alloc F0 hA ZI_48 rfl rfl rfl rfl rfl fun b1 _ w1 F2 S1 => ?_)))
 have F3 : Fr 39 [(2, .pointer (some ⟨b1, 0, none⟩)), (0, .pointer (some ⟨c_b, 0, none⟩))] _ := F2.cut rfl
 clear F0 F2
 have T4 : Mv _ _ [bx b1 [.slice none 0 0, .slice none 0 0, .slice none 0 0] 48, bx c_b [.slice c_code_a c_code_n c_code_c, .int .i64 ((c.pos : Nat) : Int), .int .i64 c.h] 108] _ := S1
 refine s_end (x_normal (wp_seq (wp_region_lit (l_op (f_mv F3 rfl rfl rfl rfl rfl fun _ F5 => ?_)))))
 refine l_op (f_call F5 CF_136 rfl rfl rfl rfl (lc (F5.ev 5 rfl) rfl) (spec_l02Store_c (c := c) (RdA.mv (Nat.succ_pos _) V_v_c_code T4) (by unfold i64ok; (try dsimp only); omega) (by first | assumption | exact w64_ok _ | exact ⟨by omega, by omega⟩ | (unfold i64ok at *; omega)) (by first | assumption | omega | (simp <;> omega)) (At.pick (is := [1]) T4.at' rfl) (V_off (is := [1]))) ?_)
 rintro _ w6 ⟨i2_6, h2_6, l_6, r0_a_6, r0_n_6, r0_c_6, rfl, m6, q6_0, q6_1, q6_2⟩
 refine ⟨_, rfl, fun _ F7 => ?_⟩
 have S6 : Mv _ _ [ow 98 2 encC okC (.slice r0_a_6 r0_n_6 r0_c_6) l_6, bx c_b [.slice c_code_a c_code_n c_code_c, .int .i64 ((i2_6 : Nat) : Int), .int .i64 h2_6] 108, bx b1 [.slice none 0 0, .slice none 0 0, .slice none 0 0] 48] _ := At.frame T4.at' [1] rfl m6
 obtain ⟨lo6_0, lp6_0, lq6_0⟩ := At.ownInv S6.at' ET_46.hk 0 rfl
 clear m6
 have Z9 : Rd 2 encC okC (V (HP H [bx c_b [.slice c_code_a c_code_n c_code_c, .int .i64 ((c.pos : Nat) : Int), .int .i64 c.h] 108]) w [bx c_b [.slice c_code_a c_code_n c_code_c, .int .i64 ((i2_6 : Nat) : Int), .int .i64 h2_6] 108, bx b1 [.slice none 0 0, .slice none 0 0, .slice none 0 0] 48]) w6 (.slice r0_a_6 r0_n_6 r0_c_6) l_6 := At.freezeP S6.at' ET_46.hk 0 rfl (fresh_hp (T4.trans S6))
 have S9 := At.drop S6.at' 0
 refine l_op (f_call F7 CF_109 rfl rfl rfl rfl (lc (F7.ev 6 rfl) rfl) (spec_MachOf_c (s := l_6) Z9 (by first | assumption | omega | (simp <;> omega))) ?_)
 rintro _ w8 ⟨r0_Sa_8, r0_Sn_8, r0_Sc_8, r0_Ra_8, r0_Rn_8, r0_Rc_8, r0_Wa_8, r0_Wn_8, r0_Wc_8, rfl, m8, v8_0, v8_1, v8_2⟩
 refine ⟨_, rfl, fun _ F10 => ?_⟩
 have S8 := At.frame0 S9.at' m8
 have V8_0 := Rd.got0 S9.at' ((T4.trans (S6.trans S9)).kp.size) v8_0 S8
 obtain ⟨ln8_0, le8_0, mx8_0, ni8_0⟩ := Rd.inv V8_0
 have V8_1 := Rd.got0 S9.at' ((T4.trans (S6.trans S9)).kp.size) v8_1 S8
 obtain ⟨ln8_1, le8_1, mx8_1, ni8_1⟩ := Rd.inv V8_1
 have V8_2 := Rd.got0 S9.at' ((T4.trans (S6.trans S9)).kp.size) v8_2 S8
 obtain ⟨ln8_2, le8_2, mx8_2, ni8_2⟩ := Rd.inv V8_2
 clear m8 v8_0 v8_1 v8_2
 refine l_op (f_alloc F10 S8.at' ZI_48 rfl rfl rfl rfl rfl fun b11 _ w11 F12 S11 => ?_)
 refine l_op (s_store S11.at' 0 TI_48 rfl rfl rfl rfl rfl (F12.ev 3 rfl) (F12.ev 7 rfl) rfl rfl rfl rfl rfl fun w13 S13 => ?_)
 have F14 : Fr 39 [(3, .pointer (some ⟨b11, 0, none⟩)), (7, .agg #[.slice r0_Sa_8 r0_Sn_8 r0_Sc_8, .slice r0_Ra_8 r0_Rn_8 r0_Rc_8, .slice r0_Wa_8 r0_Wn_8 r0_Wc_8]), (2, .pointer (some ⟨b1, 0, none⟩)), (0, .pointer (some ⟨c_b, 0, none⟩))] _ := F12.cut rfl
 clear F3 F5 F7 F10 F12
 have T15 : Mv _ _ [bx b11 [.slice r0_Sa_8 r0_Sn_8 r0_Sc_8, .slice r0_Ra_8 r0_Rn_8 r0_Rc_8, .slice r0_Wa_8 r0_Wn_8 r0_Wc_8] 48, bx c_b [.slice c_code_a c_code_n c_code_c, .int .i64 ((i2_6 : Nat) : Int), .int .i64 h2_6] 108, bx b1 [.slice none 0 0, .slice none 0 0, .slice none 0 0] 48] _ := S13
 refine s_end (x_normal (wp_seq (wp_seq (wp_region_lit (l_op (f_val F14 rfl rfl (r_assign rfl rfl) rfl fun _ F16 => ?_))))))
 have F17 : Fr 39 [(4, .int .i64 0), (3, .pointer (some ⟨b11, 0, none⟩)), (2, .pointer (some ⟨b1, 0, none⟩)), (0, .pointer (some ⟨c_b, 0, none⟩))] _ := F16.cut rfl
 clear F14 F16
 refine s_end (x_normal (wp_block ?_))
 refine x_loop (fun (k : Nat) aZ wZ => ∃ (pp : Nat), ∃ (hh : Int), ∃ (M : MachD), ∃ (sa : Option Addr), ∃ (sn : Nat), ∃ (sc : Nat), ∃ (ra : Option Addr), ∃ (rn : Nat), ∃ (rc : Nat), ∃ (ua : Option Addr), ∃ (un : Nat), ∃ (uc : Nat), Fr 39 [(4, .int .i64 ((k : Nat) : Int)), (3, .pointer (some ⟨b11, 0, none⟩)), (2, .pointer (some ⟨b1, 0, none⟩)), (0, .pointer (some ⟨c_b, 0, none⟩))] aZ ∧ Mv [bx b11 [.slice r0_Sa_8 r0_Sn_8 r0_Sc_8, .slice r0_Ra_8 r0_Rn_8 r0_Rc_8, .slice r0_Wa_8 r0_Wn_8 r0_Wc_8] 48, bx c_b [.slice c_code_a c_code_n c_code_c, .int .i64 ((i2_6 : Nat) : Int), .int .i64 h2_6] 108, bx b1 [.slice none 0 0, .slice none 0 0, .slice none 0 0] 48] w13 [bx b11 [.slice sa sn sc, .slice ra rn rc, .slice ua un uc] 48, bx c_b [.slice c_code_a c_code_n c_code_c, .int .i64 ((pp : Nat) : Int), .int .i64 hh] 108, bx b1 [.slice none 0 0, .slice none 0 0, .slice none 0 0] 48] wZ ∧ Rd 2 encC okC (V (HP H [bx c_b [.slice c_code_a c_code_n c_code_c, .int .i64 ((c.pos : Nat) : Int), .int .i64 c.h] 108]) w [bx b11 [.slice sa sn sc, .slice ra rn rc, .slice ua un uc] 48, bx c_b [.slice c_code_a c_code_n c_code_c, .int .i64 ((pp : Nat) : Int), .int .i64 hh] 108, bx b1 [.slice none 0 0, .slice none 0 0, .slice none 0 0] 48]) wZ (.slice sa sn sc) M.store ∧ Rd 1 encS okS (V (HP H [bx c_b [.slice c_code_a c_code_n c_code_c, .int .i64 ((c.pos : Nat) : Int), .int .i64 c.h] 108]) w [bx b11 [.slice sa sn sc, .slice ra rn rc, .slice ua un uc] 48, bx c_b [.slice c_code_a c_code_n c_code_c, .int .i64 ((pp : Nat) : Int), .int .i64 hh] 108, bx b1 [.slice none 0 0, .slice none 0 0, .slice none 0 0] 48]) wZ (.slice ra rn rc) M.touch.reads ∧ Rd 1 encS okS (V (HP H [bx c_b [.slice c_code_a c_code_n c_code_c, .int .i64 ((c.pos : Nat) : Int), .int .i64 c.h] 108]) w [bx b11 [.slice sa sn sc, .slice ra rn rc, .slice ua un uc] 48, bx c_b [.slice c_code_a c_code_n c_code_c, .int .i64 ((pp : Nat) : Int), .int .i64 hh] 108, bx b1 [.slice none 0 0, .slice none 0 0, .slice none 0 0] 48]) wZ (.slice ua un uc) M.touch.writes ∧ (pp ≤ c_code_n) ∧ (i64ok hh) ∧ (M.store.length ≤ 8 + k ∧ M.touch.reads.length ≤ k ∧ M.touch.writes.length ≤ k) ∧ (k ≤ 4)) (fun (k : Nat) => 4 - k) (0) ?_ ?_
 · exact ⟨i2_6, h2_6, (⟨l_6, (⟨[], []⟩ : TouchD)⟩ : MachD), r0_Sa_8, r0_Sn_8, r0_Sc_8, r0_Ra_8, r0_Rn_8, r0_Rc_8, r0_Wa_8, r0_Wn_8, r0_Wc_8, F17.cut rfl, (Mv.refl T15.at'), (Rd.mv (Nat.succ_pos _) V8_0 (S11.trans T15)), (Rd.mv (Nat.succ_pos _) V8_1 (S11.trans T15)), (Rd.mv (Nat.succ_pos _) V8_2 (S11.trans T15)), by omega, by assumption, ⟨by (try dsimp only); omega, Nat.le_refl _, Nat.le_refl _⟩, by omega⟩
 · rintro k a18 w18 ⟨pp, hh, M, sa, sn, sc, ra, rn, rc, ua, un, uc, F18, S18, W18_0, W18_1, W18_2, hk_0, hk_1, hk_2, hk_3⟩
   obtain ⟨lv18_0, lw18_0, lx18_0, ly18_0⟩ := Rd.inv W18_0
   obtain ⟨lv18_1, lw18_1, lx18_1, ly18_1⟩ := Rd.inv W18_1
   obtain ⟨lv18_2, lw18_2, lx18_2, ly18_2⟩ := Rd.inv W18_2
   refine wp_seq (wp_seq (wp_region_lit (l_op (f_mv F18 rfl rfl rfl rfl rfl fun _ F19 => ?_))))
   refine l_op (f_mv F19 rfl rfl rfl rfl rfl fun _ F20 => ?_)
   refine l_op (f_call F20 CF_80 rfl rfl rfl rfl (lc (F20.ev 9 rfl) (lc rfl rfl)) (spec_l01Below_c (c := (⟨c.code, pp, hh⟩ : CurD)) (n := 4) (RdA.mv (Nat.succ_pos _) V_v_c_code (T4.trans (S6.trans (S9.trans (S8.trans (S11.trans (T15.trans S18))))))) (by unfold i64ok; (try dsimp only); omega) (by first | assumption | exact w64_ok _ | exact ⟨by omega, by omega⟩ | (unfold i64ok at *; omega)) (by first | assumption | exact ⟨by omega, by omega⟩ | (unfold i64ok at *; omega)) (by first | assumption | omega | (simp <;> omega)) (At.pick (is := [1]) S18.at' rfl) (V_off (is := [1]))) ?_)
   rintro _ w21 ⟨i2_21, h2_21, r_21, rfl, m21, q21_0, q21_1, q21_2, q21_3⟩
   refine ⟨_, rfl, fun _ F22 => ?_⟩
   have S21 : Mv _ _ [bx c_b [.slice c_code_a c_code_n c_code_c, .int .i64 ((i2_21 : Nat) : Int), .int .i64 h2_21] 108, bx b11 [.slice sa sn sc, .slice ra rn rc, .slice ua un uc] 48, bx b1 [.slice none 0 0, .slice none 0 0, .slice none 0 0] 48] _ := At.frame S18.at' [1] rfl m21
   clear m21
   refine l_op (f_val F22 rfl rfl (r_cmp (b := decide (k < r_21)) (.inr (.inr (.inl rfl))) rfl (F22.ev 8 rfl) (F22.ev 10 rfl) (dec_of (by omega))) rfl fun _ F23 => ?_)
   have F24 : Fr 39 [(11, .bool (decide (k < r_21))), (4, .int .i64 ((k : Nat) : Int)), (3, .pointer (some ⟨b11, 0, none⟩)), (2, .pointer (some ⟨b1, 0, none⟩)), (0, .pointer (some ⟨c_b, 0, none⟩))] _ := F23.cut rfl
   clear F18 F19 F20 F22 F23
   refine s_end (x_normal (x_cond (p := k < r_21) (F24.ev 11 rfl) (fun h25 => ?_) (fun h25 => ?_)))
   · skip
     refine wp_skip (x_normal (wp_seq (wp_block (wp_seq (wp_region_lit (l_op (f_mv F24 rfl rfl rfl rfl rfl fun _ F26 => ?_)))))))
     refine l_op (f_call F26 CF_80 rfl rfl rfl rfl (lc (F26.ev 14 rfl) (lc rfl rfl)) (spec_l01Below_c (c := (⟨c.code, i2_21, h2_21⟩ : CurD)) (n := 3) (RdA.mv (Nat.succ_pos _) V_v_c_code (T4.trans (S6.trans (S9.trans (S8.trans (S11.trans (T15.trans (S18.trans S21)))))))) (by unfold i64ok; (try dsimp only); omega) (by first | assumption | exact w64_ok _ | exact ⟨by omega, by omega⟩ | (unfold i64ok at *; omega)) (by first | assumption | exact ⟨by omega, by omega⟩ | (unfold i64ok at *; omega)) (by first | assumption | omega | (simp <;> omega)) (At.pick (is := [0]) S21.at' rfl) (V_off (is := [0]))) ?_)
     rintro _ w27 ⟨i2_27, h2_27, r_27, rfl, m27, q27_0, q27_1, q27_2, q27_3⟩
     refine ⟨_, rfl, fun _ F28 => ?_⟩
     have S27 : Mv _ _ [bx c_b [.slice c_code_a c_code_n c_code_c, .int .i64 ((i2_27 : Nat) : Int), .int .i64 h2_27] 108, bx b11 [.slice sa sn sc, .slice ra rn rc, .slice ua un uc] 48, bx b1 [.slice none 0 0, .slice none 0 0, .slice none 0 0] 48] _ := At.frame S21.at' [0] rfl m27
     clear m27
     have F29 : Fr 39 [(15, .int .i64 ((r_27 : Nat) : Int)), (4, .int .i64 ((k : Nat) : Int)), (3, .pointer (some ⟨b11, 0, none⟩)), (2, .pointer (some ⟨b1, 0, none⟩)), (0, .pointer (some ⟨c_b, 0, none⟩))] _ := F28.cut rfl
     clear F24 F26 F28
     refine s_end (x_normal (wp_block (wp_seq (wp_region_lit (l_op (f_val F29 rfl rfl (r_cmp (b := decide (r_27 = 0)) (.inl rfl) rfl (F29.ev 15 rfl) rfl (dec_of (by omega))) rfl fun _ F30 => ?_))))))
     refine l_op (f_as F30 rfl rfl rfl rfl rfl fun _ F31 => ?_)
     have F32 : Fr 39 [(22, .bool (decide (r_27 = 0))), (15, .int .i64 ((r_27 : Nat) : Int)), (4, .int .i64 ((k : Nat) : Int)), (3, .pointer (some ⟨b11, 0, none⟩)), (2, .pointer (some ⟨b1, 0, none⟩)), (0, .pointer (some ⟨c_b, 0, none⟩))] _ := F31.cut rfl
     clear F29 F30 F31
     refine s_end (x_normal (x_cond (p := r_27 = 0) (F32.ev 22 rfl) (fun h33 => ?_) (fun h33 => ?_)))
     · skip
       refine x_draw (fun aZ wZ => ∃ (i2_38 : Nat), ∃ (h2_38 : Int), ∃ (r_38 : ByteArray), ∃ (r0_Sa_40 : Option Addr), ∃ (r0_Sn_40 : Nat), ∃ (r0_Sc_40 : Nat), ∃ (r0_Ra_40 : Option Addr), ∃ (r0_Rn_40 : Nat), ∃ (r0_Rc_40 : Nat), ∃ (r0_Wa_40 : Option Addr), ∃ (r0_Wn_40 : Nat), ∃ (r0_Wc_40 : Nat), Fr 39 [(0, .pointer (some ⟨c_b, 0, none⟩)), (2, .pointer (some ⟨b1, 0, none⟩)), (3, .pointer (some ⟨b11, 0, none⟩)), (4, .int .i64 ((k : Nat) : Int))] aZ ∧ Mv [bx c_b [.slice c_code_a c_code_n c_code_c, .int .i64 ((i2_27 : Nat) : Int), .int .i64 h2_27] 108, bx b11 [.slice sa sn sc, .slice ra rn rc, .slice ua un uc] 48, bx b1 [.slice none 0 0, .slice none 0 0, .slice none 0 0] 48] w27 [bx c_b [.slice c_code_a c_code_n c_code_c, .int .i64 ((i2_38 : Nat) : Int), .int .i64 h2_38] 108, bx b11 [.slice r0_Sa_40 r0_Sn_40 r0_Sc_40, .slice r0_Ra_40 r0_Rn_40 r0_Rc_40, .slice r0_Wa_40 r0_Wn_40 r0_Wc_40] 48, bx b1 [.slice none 0 0, .slice none 0 0, .slice none 0 0] 48] wZ ∧ Rd 2 encC okC (V (HP H [bx c_b [.slice c_code_a c_code_n c_code_c, .int .i64 ((c.pos : Nat) : Int), .int .i64 c.h] 108]) w [bx c_b [.slice c_code_a c_code_n c_code_c, .int .i64 ((i2_38 : Nat) : Int), .int .i64 h2_38] 108, bx b11 [.slice r0_Sa_40 r0_Sn_40 r0_Sc_40, .slice r0_Ra_40 r0_Rn_40 r0_Rc_40, .slice r0_Wa_40 r0_Wn_40 r0_Wc_40] 48, bx b1 [.slice none 0 0, .slice none 0 0, .slice none 0 0] 48]) wZ (.slice r0_Sa_40 r0_Sn_40 r0_Sc_40) (lookM M r_38).store ∧ Rd 1 encS okS (V (HP H [bx c_b [.slice c_code_a c_code_n c_code_c, .int .i64 ((c.pos : Nat) : Int), .int .i64 c.h] 108]) w [bx c_b [.slice c_code_a c_code_n c_code_c, .int .i64 ((i2_38 : Nat) : Int), .int .i64 h2_38] 108, bx b11 [.slice r0_Sa_40 r0_Sn_40 r0_Sc_40, .slice r0_Ra_40 r0_Rn_40 r0_Rc_40, .slice r0_Wa_40 r0_Wn_40 r0_Wc_40] 48, bx b1 [.slice none 0 0, .slice none 0 0, .slice none 0 0] 48]) wZ (.slice r0_Ra_40 r0_Rn_40 r0_Rc_40) (lookM M r_38).touch.reads ∧ Rd 1 encS okS (V (HP H [bx c_b [.slice c_code_a c_code_n c_code_c, .int .i64 ((c.pos : Nat) : Int), .int .i64 c.h] 108]) w [bx c_b [.slice c_code_a c_code_n c_code_c, .int .i64 ((i2_38 : Nat) : Int), .int .i64 h2_38] 108, bx b11 [.slice r0_Sa_40 r0_Sn_40 r0_Sc_40, .slice r0_Ra_40 r0_Rn_40 r0_Rc_40, .slice r0_Wa_40 r0_Wn_40 r0_Wc_40] 48, bx b1 [.slice none 0 0, .slice none 0 0, .slice none 0 0] 48]) wZ (.slice r0_Wa_40 r0_Wn_40 r0_Wc_40) (lookM M r_38).touch.writes ∧ (i2_38 ≤ c_code_n) ∧ (i64ok h2_38) ∧ (r_38.size ≤ 100)) [] mixed S27.at' (listed := #[false, false, false, false, false, false, false, false]) rfl (fun w35 S35 => ?_) [] rfl ?_
       · skip
         refine g_take F32 rfl (i := 1) (listed' := #[false, true, false, false, false, false, false, false]) rfl (by kernel_rfl) (by kernel_rfl) (by kernel_rfl) (fun _ _ _ h => h) (Sd.of (Mv.refl S35.at') [] rfl) rfl rfl rfl rfl (fun _ hz => (r_move rfl (F32.ev 0 rfl))) fun _ F36 => ?_
         refine d_all (rs := [0, 2]) rfl (by kernel_rfl) (by simp) (d_cons (i := 0) (listed' := #[true, true, false, false, false, false, false, false]) rfl rfl ?_ (d_cons (i := 2) (listed' := #[false, true, true, false, false, false, false, false]) rfl rfl ?_ d_nil))
         · skip
           refine f_val (v := .agg #[.slice sa sn sc, .slice ra rn rc, .slice ua un uc]) F36 rfl rfl (r_loadB S35.at' 1 TI_48 rfl rfl (F36.ev 3 rfl) rfl rfl (fun h => nomatch h) rfl) rfl fun _ F37 => ?_
           refine ⟨Sd.of (Mv.refl S35.at') [] rfl, ?_⟩
           refine d_one (i := 2) (listed' := #[true, true, true, false, false, false, false, false]) rfl (by kernel_rfl) rfl rfl ?_
           refine f_call F37 CF_81 rfl rfl rfl rfl (lc (F37.ev 26 rfl) rfl) (spec_l02Key_c (c := (⟨c.code, i2_27, h2_27⟩ : CurD)) (RdA.mv (Nat.succ_pos _) V_v_c_code (T4.trans (S6.trans (S9.trans (S8.trans (S11.trans (T15.trans (S18.trans (S21.trans (S27.trans S35)))))))))) (by unfold i64ok; (try dsimp only); omega) (by first | assumption | exact w64_ok _ | exact ⟨by omega, by omega⟩ | (unfold i64ok at *; omega)) (by first | assumption | omega | (simp <;> omega)) (At.pick (is := [0]) S35.at' rfl) (V_off (is := [0]))) ?_
           rintro _ w38 ⟨i2_38, h2_38, r_38, rfl, m38, ok_r0_38, q38_0, q38_1, q38_2⟩
           refine ⟨_, rfl, fun _ F39 => ?_⟩
           have S38 : Mv _ _ [bx c_b [.slice c_code_a c_code_n c_code_c, .int .i64 ((i2_38 : Nat) : Int), .int .i64 h2_38] 108, bx b11 [.slice sa sn sc, .slice ra rn rc, .slice ua un uc] 48, bx b1 [.slice none 0 0, .slice none 0 0, .slice none 0 0] 48] _ := At.frame S35.at' [0] rfl m38
           clear m38
           refine ⟨Sd.of S38 [] rfl, ?_⟩
           refine d_one (i := 3) (listed' := #[true, true, true, true, false, false, false, false]) rfl (by kernel_rfl) rfl rfl ?_
           refine f_call F39 CF_90 rfl rfl rfl rfl (lc (F39.ev 25 rfl) (lc (F39.ev 27 rfl) rfl)) (spec_l04Look_c (m := M) (key := r_38) (Rd.mv (Nat.succ_pos _) W18_0 (S21.trans (S27.trans (S35.trans S38)))) (Rd.mv (Nat.succ_pos _) W18_1 (S21.trans (S27.trans (S35.trans S38)))) (Rd.mv (Nat.succ_pos _) W18_2 (S21.trans (S27.trans (S35.trans S38)))) ok_r0_38 (by first | assumption | omega | (simp <;> omega))) ?_
           rintro _ w40 ⟨r0_Sa_40, r0_Sn_40, r0_Sc_40, r0_Ra_40, r0_Rn_40, r0_Rc_40, r0_Wa_40, r0_Wn_40, r0_Wc_40, rfl, m40, v40_0, v40_1, v40_2, ok_r1_40⟩
           refine ⟨_, rfl, fun _ F41 => ?_⟩
           have S40 := At.frame0 S38.at' m40
           have V40_0 := Rd.got0 S38.at' ((T4.trans (S6.trans (S9.trans (S8.trans (S11.trans (T15.trans (S18.trans (S21.trans (S27.trans (S35.trans S38)))))))))).kp.size) v40_0 S40
           obtain ⟨ln40_0, le40_0, mx40_0, ni40_0⟩ := Rd.inv V40_0
           have V40_1 := Rd.got0 S38.at' ((T4.trans (S6.trans (S9.trans (S8.trans (S11.trans (T15.trans (S18.trans (S21.trans (S27.trans (S35.trans S38)))))))))).kp.size) v40_1 S40
           obtain ⟨ln40_1, le40_1, mx40_1, ni40_1⟩ := Rd.inv V40_1
           have V40_2 := Rd.got0 S38.at' ((T4.trans (S6.trans (S9.trans (S8.trans (S11.trans (T15.trans (S18.trans (S21.trans (S27.trans (S35.trans S38)))))))))).kp.size) v40_2 S40
           obtain ⟨ln40_2, le40_2, mx40_2, ni40_2⟩ := Rd.inv V40_2
           clear m40 v40_0 v40_1 v40_2
           refine ⟨Sd.of (S38.trans S40) [] rfl, ?_⟩
           refine g_take F41 rfl (i := 4) (listed' := #[true, true, true, true, true, false, false, false]) rfl (by kernel_rfl) (by kernel_rfl) (by kernel_rfl) (fun _ _ _ h => h) (Sd.of (S38.trans S40) [] rfl) rfl rfl rfl rfl (fun _ hz => (r_move rfl (F41.ev 28 rfl))) fun _ F42 => ?_
           refine g_take (v := .agg #[.slice r0_Sa_40 r0_Sn_40 r0_Sc_40, .slice r0_Ra_40 r0_Rn_40 r0_Rc_40, .slice r0_Wa_40 r0_Wn_40 r0_Wc_40]) F42 rfl (i := 5) (listed' := #[true, true, true, true, true, true, false, false]) rfl (by kernel_rfl) (by kernel_rfl) (by kernel_rfl) (fun _ _ _ h => h) (Sd.of (S38.trans S40) [] rfl) rfl rfl rfl rfl (fun _ hz => (r_extract rfl (F42.ev 24 rfl) rfl)) fun _ F43 => ?_
           refine g_take (v := .string (getKey M.store r_38)) F43 rfl (i := 6) (listed' := #[true, true, true, true, true, true, true, false]) rfl (by kernel_rfl) (by kernel_rfl) (by kernel_rfl) (fun _ _ _ h => h) (Sd.of (S38.trans S40) [] rfl) rfl rfl rfl rfl (fun _ hz => (r_extract rfl (F43.ev 24 rfl) rfl)) fun _ F44 => ?_
           refine d_one (i := 7) (listed' := #[true, true, true, true, true, true, true, true]) rfl (by kernel_rfl) rfl rfl ?_
           refine s_store S40.at' 1 TI_48 rfl rfl rfl rfl rfl (F44.ev 3 rfl) (F44.ev 29 rfl) rfl rfl rfl rfl rfl fun w45 S45 => ?_
           refine ⟨Sd.of (S38.trans (S40.trans S45)) [] rfl, ?_⟩
           refine wpAnyH_done (by kernel_rfl) (x_normal ?_) _
           exact ⟨i2_38, h2_38, r_38, r0_Sa_40, r0_Sn_40, r0_Sc_40, r0_Ra_40, r0_Rn_40, r0_Rc_40, r0_Wa_40, r0_Wn_40, r0_Wc_40, F44.cut rfl, ((S35.trans (S38.trans (S40.trans S45))).pick [1, 0, 2] rfl), (Rd.mv (Nat.succ_pos _) (Rd.mv (Nat.succ_pos _) V40_0 S45) (Mv.pick (Mv.refl S45.at') [1, 0, 2] rfl)), (Rd.mv (Nat.succ_pos _) (Rd.mv (Nat.succ_pos _) V40_1 S45) (Mv.pick (Mv.refl S45.at') [1, 0, 2] rfl)), (Rd.mv (Nat.succ_pos _) (Rd.mv (Nat.succ_pos _) V40_2 S45) (Mv.pick (Mv.refl S45.at') [1, 0, 2] rfl)), q38_0, q38_1, q38_2⟩
         · skip
           refine f_call F36 CF_81 rfl rfl rfl rfl (lc (F36.ev 26 rfl) rfl) (spec_l02Key_c (c := (⟨c.code, i2_27, h2_27⟩ : CurD)) (RdA.mv (Nat.succ_pos _) V_v_c_code (T4.trans (S6.trans (S9.trans (S8.trans (S11.trans (T15.trans (S18.trans (S21.trans (S27.trans S35)))))))))) (by unfold i64ok; (try dsimp only); omega) (by first | assumption | exact w64_ok _ | exact ⟨by omega, by omega⟩ | (unfold i64ok at *; omega)) (by first | assumption | omega | (simp <;> omega)) (At.pick (is := [0]) S35.at' rfl) (V_off (is := [0]))) ?_
           rintro _ w46 ⟨i2_46, h2_46, r_46, rfl, m46, ok_r0_46, q46_0, q46_1, q46_2⟩
           refine ⟨_, rfl, fun _ F47 => ?_⟩
           have S46 : Mv _ _ [bx c_b [.slice c_code_a c_code_n c_code_c, .int .i64 ((i2_46 : Nat) : Int), .int .i64 h2_46] 108, bx b11 [.slice sa sn sc, .slice ra rn rc, .slice ua un uc] 48, bx b1 [.slice none 0 0, .slice none 0 0, .slice none 0 0] 48] _ := At.frame S35.at' [0] rfl m46
           clear m46
           refine ⟨Sd.of S46 [] rfl, ?_⟩
           refine d_one (i := 0) (listed' := #[true, true, true, false, false, false, false, false]) rfl (by kernel_rfl) rfl rfl ?_
           refine f_val (v := .agg #[.slice sa sn sc, .slice ra rn rc, .slice ua un uc]) F47 rfl rfl (r_loadB S46.at' 1 TI_48 rfl rfl (F47.ev 3 rfl) rfl rfl (fun h => nomatch h) rfl) rfl fun _ F48 => ?_
           refine ⟨Sd.of S46 [] rfl, ?_⟩
           refine d_one (i := 3) (listed' := #[true, true, true, true, false, false, false, false]) rfl (by kernel_rfl) rfl rfl ?_
           refine f_call F48 CF_90 rfl rfl rfl rfl (lc (F48.ev 25 rfl) (lc (F48.ev 27 rfl) rfl)) (spec_l04Look_c (m := M) (key := r_46) (Rd.mv (Nat.succ_pos _) W18_0 (S21.trans (S27.trans (S35.trans S46)))) (Rd.mv (Nat.succ_pos _) W18_1 (S21.trans (S27.trans (S35.trans S46)))) (Rd.mv (Nat.succ_pos _) W18_2 (S21.trans (S27.trans (S35.trans S46)))) ok_r0_46 (by first | assumption | omega | (simp <;> omega))) ?_
           rintro _ w49 ⟨r0_Sa_49, r0_Sn_49, r0_Sc_49, r0_Ra_49, r0_Rn_49, r0_Rc_49, r0_Wa_49, r0_Wn_49, r0_Wc_49, rfl, m49, v49_0, v49_1, v49_2, ok_r1_49⟩
           refine ⟨_, rfl, fun _ F50 => ?_⟩
           have S49 := At.frame0 S46.at' m49
           have V49_0 := Rd.got0 S46.at' ((T4.trans (S6.trans (S9.trans (S8.trans (S11.trans (T15.trans (S18.trans (S21.trans (S27.trans (S35.trans S46)))))))))).kp.size) v49_0 S49
           obtain ⟨ln49_0, le49_0, mx49_0, ni49_0⟩ := Rd.inv V49_0
           have V49_1 := Rd.got0 S46.at' ((T4.trans (S6.trans (S9.trans (S8.trans (S11.trans (T15.trans (S18.trans (S21.trans (S27.trans (S35.trans S46)))))))))).kp.size) v49_1 S49
           obtain ⟨ln49_1, le49_1, mx49_1, ni49_1⟩ := Rd.inv V49_1
           have V49_2 := Rd.got0 S46.at' ((T4.trans (S6.trans (S9.trans (S8.trans (S11.trans (T15.trans (S18.trans (S21.trans (S27.trans (S35.trans S46)))))))))).kp.size) v49_2 S49
           obtain ⟨ln49_2, le49_2, mx49_2, ni49_2⟩ := Rd.inv V49_2
           clear m49 v49_0 v49_1 v49_2
           refine ⟨Sd.of (S46.trans S49) [] rfl, ?_⟩
           refine g_take F50 rfl (i := 4) (listed' := #[true, true, true, true, true, false, false, false]) rfl (by kernel_rfl) (by kernel_rfl) (by kernel_rfl) (fun _ _ _ h => h) (Sd.of (S46.trans S49) [] rfl) rfl rfl rfl rfl (fun _ hz => (r_move rfl (F50.ev 28 rfl))) fun _ F51 => ?_
           refine g_take (v := .agg #[.slice r0_Sa_49 r0_Sn_49 r0_Sc_49, .slice r0_Ra_49 r0_Rn_49 r0_Rc_49, .slice r0_Wa_49 r0_Wn_49 r0_Wc_49]) F51 rfl (i := 5) (listed' := #[true, true, true, true, true, true, false, false]) rfl (by kernel_rfl) (by kernel_rfl) (by kernel_rfl) (fun _ _ _ h => h) (Sd.of (S46.trans S49) [] rfl) rfl rfl rfl rfl (fun _ hz => (r_extract rfl (F51.ev 24 rfl) rfl)) fun _ F52 => ?_
           refine g_take (v := .string (getKey M.store r_46)) F52 rfl (i := 6) (listed' := #[true, true, true, true, true, true, true, false]) rfl (by kernel_rfl) (by kernel_rfl) (by kernel_rfl) (fun _ _ _ h => h) (Sd.of (S46.trans S49) [] rfl) rfl rfl rfl rfl (fun _ hz => (r_extract rfl (F52.ev 24 rfl) rfl)) fun _ F53 => ?_
           refine d_one (i := 7) (listed' := #[true, true, true, true, true, true, true, true]) rfl (by kernel_rfl) rfl rfl ?_
           refine s_store S49.at' 1 TI_48 rfl rfl rfl rfl rfl (F53.ev 3 rfl) (F53.ev 29 rfl) rfl rfl rfl rfl rfl fun w54 S54 => ?_
           refine ⟨Sd.of (S46.trans (S49.trans S54)) [] rfl, ?_⟩
           refine wpAnyH_done (by kernel_rfl) (x_normal ?_) _
           exact ⟨i2_46, h2_46, r_46, r0_Sa_49, r0_Sn_49, r0_Sc_49, r0_Ra_49, r0_Rn_49, r0_Rc_49, r0_Wa_49, r0_Wn_49, r0_Wc_49, F53.cut rfl, ((S35.trans (S46.trans (S49.trans S54))).pick [1, 0, 2] rfl), (Rd.mv (Nat.succ_pos _) (Rd.mv (Nat.succ_pos _) V49_0 S54) (Mv.pick (Mv.refl S54.at') [1, 0, 2] rfl)), (Rd.mv (Nat.succ_pos _) (Rd.mv (Nat.succ_pos _) V49_1 S54) (Mv.pick (Mv.refl S54.at') [1, 0, 2] rfl)), (Rd.mv (Nat.succ_pos _) (Rd.mv (Nat.succ_pos _) V49_2 S54) (Mv.pick (Mv.refl S54.at') [1, 0, 2] rfl)), q46_0, q46_1, q46_2⟩
       · rintro a55 w55 ⟨i2_38, h2_38, r_38, r0_Sa_40, r0_Sn_40, r0_Sc_40, r0_Ra_40, r0_Rn_40, r0_Rc_40, r0_Wa_40, r0_Wn_40, r0_Wc_40, F55, S55, V55_0, V55_1, V55_2, kp55_0, kp55_1, kp55_2⟩
         obtain ⟨ln55_0, le55_0, mx55_0, ni55_0⟩ := Rd.inv V55_0
         obtain ⟨ln55_1, le55_1, mx55_1, ni55_1⟩ := Rd.inv V55_1
         obtain ⟨ln55_2, le55_2, mx55_2, ni55_2⟩ := Rd.inv V55_2
         refine x_block_normal (x_block_normal (x_normal (wp_region_lit (l_op (f_mv F55 rfl rfl rfl rfl rfl fun _ F56 => ?_)))))
         refine l_op (f_val F56 rfl rfl (r_add (z := ((k + 1 : Nat) : Int)) rfl (F56.ev 12 rfl) rfl (by first | rfl | omega) ⟨by first | omega | (unfold i64ok at *; omega), by first | omega | (unfold i64ok at *; omega)⟩) rfl fun _ F57 => ?_)
         refine l_op (f_as F57 rfl rfl rfl rfl rfl fun _ F58 => ?_)
         have F59 : Fr 39 [(4, .int .i64 ((k + 1 : Nat) : Int)), (0, .pointer (some ⟨c_b, 0, none⟩)), (2, .pointer (some ⟨b1, 0, none⟩)), (3, .pointer (some ⟨b11, 0, none⟩))] _ := F58.cut rfl
         clear F55 F56 F57 F58
         refine s_end ?_
         refine x_normal ⟨k + 1, by omega, i2_38, h2_38, (lookM M r_38), r0_Sa_40, r0_Sn_40, r0_Sc_40, r0_Ra_40, r0_Rn_40, r0_Rc_40, r0_Wa_40, r0_Wn_40, r0_Wc_40, F59.cut rfl, ((S18.trans (S21.trans (S27.trans S55))).pick [1, 0, 2] rfl), (Rd.mv (Nat.succ_pos _) V55_0 (Mv.pick (Mv.refl S55.at') [1, 0, 2] rfl)), (Rd.mv (Nat.succ_pos _) V55_1 (Mv.pick (Mv.refl S55.at') [1, 0, 2] rfl)), (Rd.mv (Nat.succ_pos _) V55_2 (Mv.pick (Mv.refl S55.at') [1, 0, 2] rfl)), by omega, by assumption, by first | exact ⟨Nat.le_trans (putKey_length ..) (by omega), by show M.touch.reads.length ≤ _; omega, Nat.le_trans (putL_length ..) (by omega)⟩ | exact ⟨by show M.store.length ≤ _; omega, Nat.le_trans (putL_length ..) (by omega), by show M.touch.writes.length ≤ _; omega⟩, by omega⟩
     · skip
       refine wp_seq (wp_region_lit (l_op (f_val F32 rfl rfl (r_cmp (b := decide (r_27 = 1)) (.inl rfl) rfl (F32.ev 15 rfl) rfl (dec_of (by omega))) rfl fun _ F60 => ?_)))
       refine l_op (f_as F60 rfl rfl rfl rfl rfl fun _ F61 => ?_)
       have F62 : Fr 39 [(31, .bool (decide (r_27 = 1))), (4, .int .i64 ((k : Nat) : Int)), (3, .pointer (some ⟨b11, 0, none⟩)), (2, .pointer (some ⟨b1, 0, none⟩)), (0, .pointer (some ⟨c_b, 0, none⟩))] _ := F61.cut rfl
       clear F32 F60 F61
       refine s_end (x_normal (x_cond (p := r_27 = 1) (F62.ev 31 rfl) (fun h63 => ?_) (fun h63 => ?_)))
       · skip
         refine wp_region_lit (l_op (f_val (v := .agg #[.slice sa sn sc, .slice ra rn rc, .slice ua un uc]) F62 rfl rfl (r_loadB S27.at' 1 TI_48 rfl rfl (F62.ev 3 rfl) rfl rfl (fun h => nomatch h) rfl) rfl fun _ F64 => ?_))
         refine l_op (f_call F64 CF_98 rfl rfl rfl rfl (lc (F64.ev 34 rfl) (lc rfl rfl)) (spec_l04Under_c (m := M) (pfx := (⟨#[110, 47]⟩ : ByteArray)) (Rd.mv (Nat.succ_pos _) W18_0 (S21.trans S27)) (Rd.mv (Nat.succ_pos _) W18_1 (S21.trans S27)) (Rd.mv (Nat.succ_pos _) W18_2 (S21.trans S27)) (by unfold okS; decide) (by first | assumption | omega | decide) (by first | assumption | omega | decide) (by first | assumption | omega | decide)) ?_)
         rintro _ w65 ⟨r0_Sa_65, r0_Sn_65, r0_Sc_65, r0_Ra_65, r0_Rn_65, r0_Rc_65, r0_Wa_65, r0_Wn_65, r0_Wc_65, r1_a_65, r1_n_65, r1_c_65, rfl, m65, v65_0, v65_1, v65_2, v65_3⟩
         refine ⟨_, rfl, fun _ F66 => ?_⟩
         have S65 := At.frame0 S27.at' m65
         have V65_0 := Rd.got0 S27.at' ((T4.trans (S6.trans (S9.trans (S8.trans (S11.trans (T15.trans (S18.trans (S21.trans S27)))))))).kp.size) v65_0 S65
         obtain ⟨ln65_0, le65_0, mx65_0, ni65_0⟩ := Rd.inv V65_0
         have V65_1 := Rd.got0 S27.at' ((T4.trans (S6.trans (S9.trans (S8.trans (S11.trans (T15.trans (S18.trans (S21.trans S27)))))))).kp.size) v65_1 S65
         obtain ⟨ln65_1, le65_1, mx65_1, ni65_1⟩ := Rd.inv V65_1
         have V65_2 := Rd.got0 S27.at' ((T4.trans (S6.trans (S9.trans (S8.trans (S11.trans (T15.trans (S18.trans (S21.trans S27)))))))).kp.size) v65_2 S65
         obtain ⟨ln65_2, le65_2, mx65_2, ni65_2⟩ := Rd.inv V65_2
         have V65_3 := Rd.got0 S27.at' ((T4.trans (S6.trans (S9.trans (S8.trans (S11.trans (T15.trans (S18.trans (S21.trans S27)))))))).kp.size) v65_3 S65
         obtain ⟨ln65_3, le65_3, mx65_3, ni65_3⟩ := Rd.inv V65_3
         clear m65 v65_0 v65_1 v65_2 v65_3
         refine l_op (f_mv F66 rfl rfl rfl rfl rfl fun _ F67 => ?_)
         refine l_op (f_val (v := .agg #[.slice r0_Sa_65 r0_Sn_65 r0_Sc_65, .slice r0_Ra_65 r0_Rn_65 r0_Rc_65, .slice r0_Wa_65 r0_Wn_65 r0_Wc_65]) F67 rfl rfl (r_extract rfl (F67.ev 33 rfl) rfl) rfl fun _ F68 => ?_)
         refine l_op (f_val (v := .slice r1_a_65 r1_n_65 r1_c_65) F68 rfl rfl (r_extract rfl (F68.ev 33 rfl) rfl) rfl fun _ F69 => ?_)
         refine l_op (s_store S65.at' 1 TI_48 rfl rfl rfl rfl rfl (F69.ev 3 rfl) (F69.ev 36 rfl) rfl rfl rfl rfl rfl fun w70 S70 => ?_)
         have F71 : Fr 39 [(37, .slice r1_a_65 r1_n_65 r1_c_65), (36, .agg #[.slice r0_Sa_65 r0_Sn_65 r0_Sc_65, .slice r0_Ra_65 r0_Rn_65 r0_Rc_65, .slice r0_Wa_65 r0_Wn_65 r0_Wc_65]), (4, .int .i64 ((k : Nat) : Int)), (3, .pointer (some ⟨b11, 0, none⟩)), (2, .pointer (some ⟨b1, 0, none⟩)), (0, .pointer (some ⟨c_b, 0, none⟩))] _ := F69.cut rfl
         clear F62 F64 F66 F67 F68 F69
         have T72 : Mv _ _ [bx b11 [.slice r0_Sa_65 r0_Sn_65 r0_Sc_65, .slice r0_Ra_65 r0_Rn_65 r0_Rc_65, .slice r0_Wa_65 r0_Wn_65 r0_Wc_65] 48, bx c_b [.slice c_code_a c_code_n c_code_c, .int .i64 ((i2_27 : Nat) : Int), .int .i64 h2_27] 108, bx b1 [.slice none 0 0, .slice none 0 0, .slice none 0 0] 48] _ := S70
         refine s_end (x_block_normal (x_block_normal (x_normal (wp_region_lit (l_op (f_mv F71 rfl rfl rfl rfl rfl fun _ F73 => ?_))))))
         refine l_op (f_val F73 rfl rfl (r_add (z := ((k + 1 : Nat) : Int)) rfl (F73.ev 12 rfl) rfl (by first | rfl | omega) ⟨by first | omega | (unfold i64ok at *; omega), by first | omega | (unfold i64ok at *; omega)⟩) rfl fun _ F74 => ?_)
         refine l_op (f_as F74 rfl rfl rfl rfl rfl fun _ F75 => ?_)
         have F76 : Fr 39 [(4, .int .i64 ((k + 1 : Nat) : Int)), (3, .pointer (some ⟨b11, 0, none⟩)), (2, .pointer (some ⟨b1, 0, none⟩)), (0, .pointer (some ⟨c_b, 0, none⟩))] _ := F75.cut rfl
         clear F71 F73 F74 F75
         refine s_end ?_
         refine x_normal ⟨k + 1, by omega, i2_27, h2_27, (lookM M ((⟨#[110, 47]⟩ : ByteArray) ++ (⟨#[42]⟩ : ByteArray))), r0_Sa_65, r0_Sn_65, r0_Sc_65, r0_Ra_65, r0_Rn_65, r0_Rc_65, r0_Wa_65, r0_Wn_65, r0_Wc_65, F76.cut rfl, ((S18.trans (S21.trans (S27.trans (S65.trans T72)))).pick [0, 1, 2] rfl), (Rd.mv (Nat.succ_pos _) V65_0 T72), (Rd.mv (Nat.succ_pos _) V65_1 T72), (Rd.mv (Nat.succ_pos _) V65_2 T72), by omega, by assumption, by first | exact ⟨Nat.le_trans (putKey_length ..) (by omega), by show M.touch.reads.length ≤ _; omega, Nat.le_trans (putL_length ..) (by omega)⟩ | exact ⟨by show M.store.length ≤ _; omega, Nat.le_trans (putL_length ..) (by omega), by show M.touch.writes.length ≤ _; omega⟩, by omega⟩
       · skip
         refine x_draw (fun aZ wZ => ∃ (i2_82 : Nat), ∃ (h2_82 : Int), ∃ (r_82 : ByteArray), ∃ (i2_84 : Nat), ∃ (h2_84 : Int), ∃ (r_84 : ByteArray), ∃ (r0_Sa_86 : Option Addr), ∃ (r0_Sn_86 : Nat), ∃ (r0_Sc_86 : Nat), ∃ (r0_Ra_86 : Option Addr), ∃ (r0_Rn_86 : Nat), ∃ (r0_Rc_86 : Nat), ∃ (r0_Wa_86 : Option Addr), ∃ (r0_Wn_86 : Nat), ∃ (r0_Wc_86 : Nat), Fr 39 [(0, .pointer (some ⟨c_b, 0, none⟩)), (2, .pointer (some ⟨b1, 0, none⟩)), (3, .pointer (some ⟨b11, 0, none⟩)), (4, .int .i64 ((k : Nat) : Int))] aZ ∧ Mv [bx c_b [.slice c_code_a c_code_n c_code_c, .int .i64 ((i2_27 : Nat) : Int), .int .i64 h2_27] 108, bx b11 [.slice sa sn sc, .slice ra rn rc, .slice ua un uc] 48, bx b1 [.slice none 0 0, .slice none 0 0, .slice none 0 0] 48] w27 [bx c_b [.slice c_code_a c_code_n c_code_c, .int .i64 ((i2_84 : Nat) : Int), .int .i64 h2_84] 108, bx b11 [.slice r0_Sa_86 r0_Sn_86 r0_Sc_86, .slice r0_Ra_86 r0_Rn_86 r0_Rc_86, .slice r0_Wa_86 r0_Wn_86 r0_Wc_86] 48, bx b1 [.slice none 0 0, .slice none 0 0, .slice none 0 0] 48] wZ ∧ Rd 2 encC okC (V (HP H [bx c_b [.slice c_code_a c_code_n c_code_c, .int .i64 ((c.pos : Nat) : Int), .int .i64 c.h] 108]) w [bx c_b [.slice c_code_a c_code_n c_code_c, .int .i64 ((i2_84 : Nat) : Int), .int .i64 h2_84] 108, bx b11 [.slice r0_Sa_86 r0_Sn_86 r0_Sc_86, .slice r0_Ra_86 r0_Rn_86 r0_Rc_86, .slice r0_Wa_86 r0_Wn_86 r0_Wc_86] 48, bx b1 [.slice none 0 0, .slice none 0 0, .slice none 0 0] 48]) wZ (.slice r0_Sa_86 r0_Sn_86 r0_Sc_86) (layM M r_82 r_84).store ∧ Rd 1 encS okS (V (HP H [bx c_b [.slice c_code_a c_code_n c_code_c, .int .i64 ((c.pos : Nat) : Int), .int .i64 c.h] 108]) w [bx c_b [.slice c_code_a c_code_n c_code_c, .int .i64 ((i2_84 : Nat) : Int), .int .i64 h2_84] 108, bx b11 [.slice r0_Sa_86 r0_Sn_86 r0_Sc_86, .slice r0_Ra_86 r0_Rn_86 r0_Rc_86, .slice r0_Wa_86 r0_Wn_86 r0_Wc_86] 48, bx b1 [.slice none 0 0, .slice none 0 0, .slice none 0 0] 48]) wZ (.slice r0_Ra_86 r0_Rn_86 r0_Rc_86) (layM M r_82 r_84).touch.reads ∧ Rd 1 encS okS (V (HP H [bx c_b [.slice c_code_a c_code_n c_code_c, .int .i64 ((c.pos : Nat) : Int), .int .i64 c.h] 108]) w [bx c_b [.slice c_code_a c_code_n c_code_c, .int .i64 ((i2_84 : Nat) : Int), .int .i64 h2_84] 108, bx b11 [.slice r0_Sa_86 r0_Sn_86 r0_Sc_86, .slice r0_Ra_86 r0_Rn_86 r0_Rc_86, .slice r0_Wa_86 r0_Wn_86 r0_Wc_86] 48, bx b1 [.slice none 0 0, .slice none 0 0, .slice none 0 0] 48]) wZ (.slice r0_Wa_86 r0_Wn_86 r0_Wc_86) (layM M r_82 r_84).touch.writes ∧ (i2_82 ≤ c_code_n) ∧ (i64ok h2_82) ∧ (r_82.size ≤ 100) ∧ (i2_84 ≤ c_code_n) ∧ (i64ok h2_84) ∧ (r_84.size ≤ 5000)) [] mixed S27.at' (listed := #[false, false, false, false, false, false, false]) rfl (fun w78 S78 => ?_) [] rfl ?_
         · skip
           refine g_take F62 rfl (i := 1) (listed' := #[false, true, false, false, false, false, false]) rfl (by kernel_rfl) (by kernel_rfl) (by kernel_rfl) (fun _ _ _ h => h) (Sd.of (Mv.refl S78.at') [] rfl) rfl rfl rfl rfl (fun _ hz => (r_move rfl (F62.ev 0 rfl))) fun _ F79 => ?_
           refine g_take F79 rfl (i := 3) (listed' := #[false, true, false, true, false, false, false]) rfl (by kernel_rfl) (by kernel_rfl) (by kernel_rfl) (fun _ _ _ h => h) (Sd.of (Mv.refl S78.at') [] rfl) rfl rfl rfl rfl (fun _ hz => (r_move rfl (F79.ev 0 rfl))) fun _ F80 => ?_
           refine d_all (rs := [0, 2]) rfl (by kernel_rfl) (by simp) (d_cons (i := 0) (listed' := #[true, true, false, true, false, false, false]) rfl rfl ?_ (d_cons (i := 2) (listed' := #[false, true, true, true, false, false, false]) rfl rfl ?_ d_nil))
           · skip
             refine f_val (v := .agg #[.slice sa sn sc, .slice ra rn rc, .slice ua un uc]) F80 rfl rfl (r_loadB S78.at' 1 TI_48 rfl rfl (F80.ev 3 rfl) rfl rfl (fun h => nomatch h) rfl) rfl fun _ F81 => ?_
             refine ⟨Sd.of (Mv.refl S78.at') [] rfl, ?_⟩
             refine d_one (i := 2) (listed' := #[true, true, true, true, false, false, false]) rfl (by kernel_rfl) rfl rfl ?_
             refine f_call F81 CF_81 rfl rfl rfl rfl (lc (F81.ev 17 rfl) rfl) (spec_l02Key_c (c := (⟨c.code, i2_27, h2_27⟩ : CurD)) (RdA.mv (Nat.succ_pos _) V_v_c_code (T4.trans (S6.trans (S9.trans (S8.trans (S11.trans (T15.trans (S18.trans (S21.trans (S27.trans S78)))))))))) (by unfold i64ok; (try dsimp only); omega) (by first | assumption | exact w64_ok _ | exact ⟨by omega, by omega⟩ | (unfold i64ok at *; omega)) (by first | assumption | omega | (simp <;> omega)) (At.pick (is := [0]) S78.at' rfl) (V_off (is := [0]))) ?_
             rintro _ w82 ⟨i2_82, h2_82, r_82, rfl, m82, ok_r0_82, q82_0, q82_1, q82_2⟩
             refine ⟨_, rfl, fun _ F83 => ?_⟩
             have S82 : Mv _ _ [bx c_b [.slice c_code_a c_code_n c_code_c, .int .i64 ((i2_82 : Nat) : Int), .int .i64 h2_82] 108, bx b11 [.slice sa sn sc, .slice ra rn rc, .slice ua un uc] 48, bx b1 [.slice none 0 0, .slice none 0 0, .slice none 0 0] 48] _ := At.frame S78.at' [0] rfl m82
             clear m82
             refine ⟨Sd.of S82 [] rfl, ?_⟩
             refine d_one (i := 4) (listed' := #[true, true, true, true, true, false, false]) rfl (by kernel_rfl) rfl rfl ?_
             refine f_call F83 CF_103 rfl rfl rfl rfl (lc (F83.ev 19 rfl) rfl) (spec_l02Val_c (c := (⟨c.code, i2_82, h2_82⟩ : CurD)) (RdA.mv (Nat.succ_pos _) V_v_c_code (T4.trans (S6.trans (S9.trans (S8.trans (S11.trans (T15.trans (S18.trans (S21.trans (S27.trans (S78.trans S82))))))))))) (by unfold i64ok; (try dsimp only); omega) (by first | assumption | exact w64_ok _ | exact ⟨by omega, by omega⟩ | (unfold i64ok at *; omega)) (by first | assumption | omega | (simp <;> omega)) (At.pick (is := [0]) S82.at' rfl) (V_off (is := [0]))) ?_
             rintro _ w84 ⟨i2_84, h2_84, r_84, rfl, m84, ok_r0_84, q84_0, q84_1, q84_2⟩
             refine ⟨_, rfl, fun _ F85 => ?_⟩
             have S84 : Mv _ _ [bx c_b [.slice c_code_a c_code_n c_code_c, .int .i64 ((i2_84 : Nat) : Int), .int .i64 h2_84] 108, bx b11 [.slice sa sn sc, .slice ra rn rc, .slice ua un uc] 48, bx b1 [.slice none 0 0, .slice none 0 0, .slice none 0 0] 48] _ := At.frame S82.at' [0] rfl m84
             clear m84
             refine ⟨Sd.of (S82.trans S84) [] rfl, ?_⟩
             refine d_one (i := 5) (listed' := #[true, true, true, true, true, true, false]) rfl (by kernel_rfl) rfl rfl ?_
             refine f_call F85 CF_112 rfl rfl rfl rfl (lc (F85.ev 16 rfl) (lc (F85.ev 18 rfl) (lc (F85.ev 20 rfl) rfl))) (spec_l04Lay_c (m := M) (key := r_82) (val := r_84) (Rd.mv (Nat.succ_pos _) W18_0 (S21.trans (S27.trans (S78.trans (S82.trans S84))))) (Rd.mv (Nat.succ_pos _) W18_1 (S21.trans (S27.trans (S78.trans (S82.trans S84))))) (Rd.mv (Nat.succ_pos _) W18_2 (S21.trans (S27.trans (S78.trans (S82.trans S84))))) ok_r0_82 ok_r0_84 (by first | assumption | omega | (simp <;> omega)) (by first | assumption | omega | (simp <;> omega))) ?_
             rintro _ w86 ⟨r0_Sa_86, r0_Sn_86, r0_Sc_86, r0_Ra_86, r0_Rn_86, r0_Rc_86, r0_Wa_86, r0_Wn_86, r0_Wc_86, rfl, m86, v86_0, v86_1, v86_2⟩
             refine ⟨_, rfl, fun _ F87 => ?_⟩
             have S86 := At.frame0 S84.at' m86
             have V86_0 := Rd.got0 S84.at' ((T4.trans (S6.trans (S9.trans (S8.trans (S11.trans (T15.trans (S18.trans (S21.trans (S27.trans (S78.trans (S82.trans S84))))))))))).kp.size) v86_0 S86
             obtain ⟨ln86_0, le86_0, mx86_0, ni86_0⟩ := Rd.inv V86_0
             have V86_1 := Rd.got0 S84.at' ((T4.trans (S6.trans (S9.trans (S8.trans (S11.trans (T15.trans (S18.trans (S21.trans (S27.trans (S78.trans (S82.trans S84))))))))))).kp.size) v86_1 S86
             obtain ⟨ln86_1, le86_1, mx86_1, ni86_1⟩ := Rd.inv V86_1
             have V86_2 := Rd.got0 S84.at' ((T4.trans (S6.trans (S9.trans (S8.trans (S11.trans (T15.trans (S18.trans (S21.trans (S27.trans (S78.trans (S82.trans S84))))))))))).kp.size) v86_2 S86
             obtain ⟨ln86_2, le86_2, mx86_2, ni86_2⟩ := Rd.inv V86_2
             clear m86 v86_0 v86_1 v86_2
             refine ⟨Sd.of (S82.trans (S84.trans S86)) [] rfl, ?_⟩
             refine d_one (i := 6) (listed' := #[true, true, true, true, true, true, true]) rfl (by kernel_rfl) rfl rfl ?_
             refine s_store S86.at' 1 TI_48 rfl rfl rfl rfl rfl (F87.ev 3 rfl) (F87.ev 21 rfl) rfl rfl rfl rfl rfl fun w88 S88 => ?_
             refine ⟨Sd.of (S82.trans (S84.trans (S86.trans S88))) [] rfl, ?_⟩
             refine wpAnyH_done (by kernel_rfl) (x_normal ?_) _
             exact ⟨i2_82, h2_82, r_82, i2_84, h2_84, r_84, r0_Sa_86, r0_Sn_86, r0_Sc_86, r0_Ra_86, r0_Rn_86, r0_Rc_86, r0_Wa_86, r0_Wn_86, r0_Wc_86, F87.cut rfl, ((S78.trans (S82.trans (S84.trans (S86.trans S88)))).pick [1, 0, 2] rfl), (Rd.mv (Nat.succ_pos _) (Rd.mv (Nat.succ_pos _) V86_0 S88) (Mv.pick (Mv.refl S88.at') [1, 0, 2] rfl)), (Rd.mv (Nat.succ_pos _) (Rd.mv (Nat.succ_pos _) V86_1 S88) (Mv.pick (Mv.refl S88.at') [1, 0, 2] rfl)), (Rd.mv (Nat.succ_pos _) (Rd.mv (Nat.succ_pos _) V86_2 S88) (Mv.pick (Mv.refl S88.at') [1, 0, 2] rfl)), q82_0, q82_1, q82_2, q84_0, q84_1, q84_2⟩
           · skip
             refine f_call F80 CF_81 rfl rfl rfl rfl (lc (F80.ev 17 rfl) rfl) (spec_l02Key_c (c := (⟨c.code, i2_27, h2_27⟩ : CurD)) (RdA.mv (Nat.succ_pos _) V_v_c_code (T4.trans (S6.trans (S9.trans (S8.trans (S11.trans (T15.trans (S18.trans (S21.trans (S27.trans S78)))))))))) (by unfold i64ok; (try dsimp only); omega) (by first | assumption | exact w64_ok _ | exact ⟨by omega, by omega⟩ | (unfold i64ok at *; omega)) (by first | assumption | omega | (simp <;> omega)) (At.pick (is := [0]) S78.at' rfl) (V_off (is := [0]))) ?_
             rintro _ w89 ⟨i2_89, h2_89, r_89, rfl, m89, ok_r0_89, q89_0, q89_1, q89_2⟩
             refine ⟨_, rfl, fun _ F90 => ?_⟩
             have S89 : Mv _ _ [bx c_b [.slice c_code_a c_code_n c_code_c, .int .i64 ((i2_89 : Nat) : Int), .int .i64 h2_89] 108, bx b11 [.slice sa sn sc, .slice ra rn rc, .slice ua un uc] 48, bx b1 [.slice none 0 0, .slice none 0 0, .slice none 0 0] 48] _ := At.frame S78.at' [0] rfl m89
             clear m89
             refine ⟨Sd.of S89 [] rfl, ?_⟩
             refine d_all (rs := [0, 4]) rfl (by kernel_rfl) (by simp) (d_cons (i := 0) (listed' := #[true, true, true, true, false, false, false]) rfl rfl ?_ (d_cons (i := 4) (listed' := #[false, true, true, true, true, false, false]) rfl rfl ?_ d_nil))
             · skip
               refine f_val (v := .agg #[.slice sa sn sc, .slice ra rn rc, .slice ua un uc]) F90 rfl rfl (r_loadB S89.at' 1 TI_48 rfl rfl (F90.ev 3 rfl) rfl rfl (fun h => nomatch h) rfl) rfl fun _ F91 => ?_
               refine ⟨Sd.of S89 [] rfl, ?_⟩
               refine d_one (i := 4) (listed' := #[true, true, true, true, true, false, false]) rfl (by kernel_rfl) rfl rfl ?_
               refine f_call F91 CF_103 rfl rfl rfl rfl (lc (F91.ev 19 rfl) rfl) (spec_l02Val_c (c := (⟨c.code, i2_89, h2_89⟩ : CurD)) (RdA.mv (Nat.succ_pos _) V_v_c_code (T4.trans (S6.trans (S9.trans (S8.trans (S11.trans (T15.trans (S18.trans (S21.trans (S27.trans (S78.trans S89))))))))))) (by unfold i64ok; (try dsimp only); omega) (by first | assumption | exact w64_ok _ | exact ⟨by omega, by omega⟩ | (unfold i64ok at *; omega)) (by first | assumption | omega | (simp <;> omega)) (At.pick (is := [0]) S89.at' rfl) (V_off (is := [0]))) ?_
               rintro _ w92 ⟨i2_92, h2_92, r_92, rfl, m92, ok_r0_92, q92_0, q92_1, q92_2⟩
               refine ⟨_, rfl, fun _ F93 => ?_⟩
               have S92 : Mv _ _ [bx c_b [.slice c_code_a c_code_n c_code_c, .int .i64 ((i2_92 : Nat) : Int), .int .i64 h2_92] 108, bx b11 [.slice sa sn sc, .slice ra rn rc, .slice ua un uc] 48, bx b1 [.slice none 0 0, .slice none 0 0, .slice none 0 0] 48] _ := At.frame S89.at' [0] rfl m92
               clear m92
               refine ⟨Sd.of (S89.trans S92) [] rfl, ?_⟩
               refine d_one (i := 5) (listed' := #[true, true, true, true, true, true, false]) rfl (by kernel_rfl) rfl rfl ?_
               refine f_call F93 CF_112 rfl rfl rfl rfl (lc (F93.ev 16 rfl) (lc (F93.ev 18 rfl) (lc (F93.ev 20 rfl) rfl))) (spec_l04Lay_c (m := M) (key := r_89) (val := r_92) (Rd.mv (Nat.succ_pos _) W18_0 (S21.trans (S27.trans (S78.trans (S89.trans S92))))) (Rd.mv (Nat.succ_pos _) W18_1 (S21.trans (S27.trans (S78.trans (S89.trans S92))))) (Rd.mv (Nat.succ_pos _) W18_2 (S21.trans (S27.trans (S78.trans (S89.trans S92))))) ok_r0_89 ok_r0_92 (by first | assumption | omega | (simp <;> omega)) (by first | assumption | omega | (simp <;> omega))) ?_
               rintro _ w94 ⟨r0_Sa_94, r0_Sn_94, r0_Sc_94, r0_Ra_94, r0_Rn_94, r0_Rc_94, r0_Wa_94, r0_Wn_94, r0_Wc_94, rfl, m94, v94_0, v94_1, v94_2⟩
               refine ⟨_, rfl, fun _ F95 => ?_⟩
               have S94 := At.frame0 S92.at' m94
               have V94_0 := Rd.got0 S92.at' ((T4.trans (S6.trans (S9.trans (S8.trans (S11.trans (T15.trans (S18.trans (S21.trans (S27.trans (S78.trans (S89.trans S92))))))))))).kp.size) v94_0 S94
               obtain ⟨ln94_0, le94_0, mx94_0, ni94_0⟩ := Rd.inv V94_0
               have V94_1 := Rd.got0 S92.at' ((T4.trans (S6.trans (S9.trans (S8.trans (S11.trans (T15.trans (S18.trans (S21.trans (S27.trans (S78.trans (S89.trans S92))))))))))).kp.size) v94_1 S94
               obtain ⟨ln94_1, le94_1, mx94_1, ni94_1⟩ := Rd.inv V94_1
               have V94_2 := Rd.got0 S92.at' ((T4.trans (S6.trans (S9.trans (S8.trans (S11.trans (T15.trans (S18.trans (S21.trans (S27.trans (S78.trans (S89.trans S92))))))))))).kp.size) v94_2 S94
               obtain ⟨ln94_2, le94_2, mx94_2, ni94_2⟩ := Rd.inv V94_2
               clear m94 v94_0 v94_1 v94_2
               refine ⟨Sd.of (S89.trans (S92.trans S94)) [] rfl, ?_⟩
               refine d_one (i := 6) (listed' := #[true, true, true, true, true, true, true]) rfl (by kernel_rfl) rfl rfl ?_
               refine s_store S94.at' 1 TI_48 rfl rfl rfl rfl rfl (F95.ev 3 rfl) (F95.ev 21 rfl) rfl rfl rfl rfl rfl fun w96 S96 => ?_
               refine ⟨Sd.of (S89.trans (S92.trans (S94.trans S96))) [] rfl, ?_⟩
               refine wpAnyH_done (by kernel_rfl) (x_normal ?_) _
               exact ⟨i2_89, h2_89, r_89, i2_92, h2_92, r_92, r0_Sa_94, r0_Sn_94, r0_Sc_94, r0_Ra_94, r0_Rn_94, r0_Rc_94, r0_Wa_94, r0_Wn_94, r0_Wc_94, F95.cut rfl, ((S78.trans (S89.trans (S92.trans (S94.trans S96)))).pick [1, 0, 2] rfl), (Rd.mv (Nat.succ_pos _) (Rd.mv (Nat.succ_pos _) V94_0 S96) (Mv.pick (Mv.refl S96.at') [1, 0, 2] rfl)), (Rd.mv (Nat.succ_pos _) (Rd.mv (Nat.succ_pos _) V94_1 S96) (Mv.pick (Mv.refl S96.at') [1, 0, 2] rfl)), (Rd.mv (Nat.succ_pos _) (Rd.mv (Nat.succ_pos _) V94_2 S96) (Mv.pick (Mv.refl S96.at') [1, 0, 2] rfl)), q89_0, q89_1, q89_2, q92_0, q92_1, q92_2⟩
             · skip
               refine f_call F90 CF_103 rfl rfl rfl rfl (lc (F90.ev 19 rfl) rfl) (spec_l02Val_c (c := (⟨c.code, i2_89, h2_89⟩ : CurD)) (RdA.mv (Nat.succ_pos _) V_v_c_code (T4.trans (S6.trans (S9.trans (S8.trans (S11.trans (T15.trans (S18.trans (S21.trans (S27.trans (S78.trans S89))))))))))) (by unfold i64ok; (try dsimp only); omega) (by first | assumption | exact w64_ok _ | exact ⟨by omega, by omega⟩ | (unfold i64ok at *; omega)) (by first | assumption | omega | (simp <;> omega)) (At.pick (is := [0]) S89.at' rfl) (V_off (is := [0]))) ?_
               rintro _ w97 ⟨i2_97, h2_97, r_97, rfl, m97, ok_r0_97, q97_0, q97_1, q97_2⟩
               refine ⟨_, rfl, fun _ F98 => ?_⟩
               have S97 : Mv _ _ [bx c_b [.slice c_code_a c_code_n c_code_c, .int .i64 ((i2_97 : Nat) : Int), .int .i64 h2_97] 108, bx b11 [.slice sa sn sc, .slice ra rn rc, .slice ua un uc] 48, bx b1 [.slice none 0 0, .slice none 0 0, .slice none 0 0] 48] _ := At.frame S89.at' [0] rfl m97
               clear m97
               refine ⟨Sd.of (S89.trans S97) [] rfl, ?_⟩
               refine d_one (i := 0) (listed' := #[true, true, true, true, true, false, false]) rfl (by kernel_rfl) rfl rfl ?_
               refine f_val (v := .agg #[.slice sa sn sc, .slice ra rn rc, .slice ua un uc]) F98 rfl rfl (r_loadB S97.at' 1 TI_48 rfl rfl (F98.ev 3 rfl) rfl rfl (fun h => nomatch h) rfl) rfl fun _ F99 => ?_
               refine ⟨Sd.of (S89.trans S97) [] rfl, ?_⟩
               refine d_one (i := 5) (listed' := #[true, true, true, true, true, true, false]) rfl (by kernel_rfl) rfl rfl ?_
               refine f_call F99 CF_112 rfl rfl rfl rfl (lc (F99.ev 16 rfl) (lc (F99.ev 18 rfl) (lc (F99.ev 20 rfl) rfl))) (spec_l04Lay_c (m := M) (key := r_89) (val := r_97) (Rd.mv (Nat.succ_pos _) W18_0 (S21.trans (S27.trans (S78.trans (S89.trans S97))))) (Rd.mv (Nat.succ_pos _) W18_1 (S21.trans (S27.trans (S78.trans (S89.trans S97))))) (Rd.mv (Nat.succ_pos _) W18_2 (S21.trans (S27.trans (S78.trans (S89.trans S97))))) ok_r0_89 ok_r0_97 (by first | assumption | omega | (simp <;> omega)) (by first | assumption | omega | (simp <;> omega))) ?_
               rintro _ w100 ⟨r0_Sa_100, r0_Sn_100, r0_Sc_100, r0_Ra_100, r0_Rn_100, r0_Rc_100, r0_Wa_100, r0_Wn_100, r0_Wc_100, rfl, m100, v100_0, v100_1, v100_2⟩
               refine ⟨_, rfl, fun _ F101 => ?_⟩
               have S100 := At.frame0 S97.at' m100
               have V100_0 := Rd.got0 S97.at' ((T4.trans (S6.trans (S9.trans (S8.trans (S11.trans (T15.trans (S18.trans (S21.trans (S27.trans (S78.trans (S89.trans S97))))))))))).kp.size) v100_0 S100
               obtain ⟨ln100_0, le100_0, mx100_0, ni100_0⟩ := Rd.inv V100_0
               have V100_1 := Rd.got0 S97.at' ((T4.trans (S6.trans (S9.trans (S8.trans (S11.trans (T15.trans (S18.trans (S21.trans (S27.trans (S78.trans (S89.trans S97))))))))))).kp.size) v100_1 S100
               obtain ⟨ln100_1, le100_1, mx100_1, ni100_1⟩ := Rd.inv V100_1
               have V100_2 := Rd.got0 S97.at' ((T4.trans (S6.trans (S9.trans (S8.trans (S11.trans (T15.trans (S18.trans (S21.trans (S27.trans (S78.trans (S89.trans S97))))))))))).kp.size) v100_2 S100
               obtain ⟨ln100_2, le100_2, mx100_2, ni100_2⟩ := Rd.inv V100_2
               clear m100 v100_0 v100_1 v100_2
               refine ⟨Sd.of (S89.trans (S97.trans S100)) [] rfl, ?_⟩
               refine d_one (i := 6) (listed' := #[true, true, true, true, true, true, true]) rfl (by kernel_rfl) rfl rfl ?_
               refine s_store S100.at' 1 TI_48 rfl rfl rfl rfl rfl (F101.ev 3 rfl) (F101.ev 21 rfl) rfl rfl rfl rfl rfl fun w102 S102 => ?_
               refine ⟨Sd.of (S89.trans (S97.trans (S100.trans S102))) [] rfl, ?_⟩
               refine wpAnyH_done (by kernel_rfl) (x_normal ?_) _
               exact ⟨i2_89, h2_89, r_89, i2_97, h2_97, r_97, r0_Sa_100, r0_Sn_100, r0_Sc_100, r0_Ra_100, r0_Rn_100, r0_Rc_100, r0_Wa_100, r0_Wn_100, r0_Wc_100, F101.cut rfl, ((S78.trans (S89.trans (S97.trans (S100.trans S102)))).pick [1, 0, 2] rfl), (Rd.mv (Nat.succ_pos _) (Rd.mv (Nat.succ_pos _) V100_0 S102) (Mv.pick (Mv.refl S102.at') [1, 0, 2] rfl)), (Rd.mv (Nat.succ_pos _) (Rd.mv (Nat.succ_pos _) V100_1 S102) (Mv.pick (Mv.refl S102.at') [1, 0, 2] rfl)), (Rd.mv (Nat.succ_pos _) (Rd.mv (Nat.succ_pos _) V100_2 S102) (Mv.pick (Mv.refl S102.at') [1, 0, 2] rfl)), q89_0, q89_1, q89_2, q97_0, q97_1, q97_2⟩
         · rintro a103 w103 ⟨i2_82, h2_82, r_82, i2_84, h2_84, r_84, r0_Sa_86, r0_Sn_86, r0_Sc_86, r0_Ra_86, r0_Rn_86, r0_Rc_86, r0_Wa_86, r0_Wn_86, r0_Wc_86, F103, S103, V103_0, V103_1, V103_2, kp103_0, kp103_1, kp103_2, kp103_3, kp103_4, kp103_5⟩
           obtain ⟨ln103_0, le103_0, mx103_0, ni103_0⟩ := Rd.inv V103_0
           obtain ⟨ln103_1, le103_1, mx103_1, ni103_1⟩ := Rd.inv V103_1
           obtain ⟨ln103_2, le103_2, mx103_2, ni103_2⟩ := Rd.inv V103_2
           refine x_block_normal (x_block_normal (x_normal (wp_region_lit (l_op (f_mv F103 rfl rfl rfl rfl rfl fun _ F104 => ?_)))))
           refine l_op (f_val F104 rfl rfl (r_add (z := ((k + 1 : Nat) : Int)) rfl (F104.ev 12 rfl) rfl (by first | rfl | omega) ⟨by first | omega | (unfold i64ok at *; omega), by first | omega | (unfold i64ok at *; omega)⟩) rfl fun _ F105 => ?_)
           refine l_op (f_as F105 rfl rfl rfl rfl rfl fun _ F106 => ?_)
           have F107 : Fr 39 [(4, .int .i64 ((k + 1 : Nat) : Int)), (0, .pointer (some ⟨c_b, 0, none⟩)), (2, .pointer (some ⟨b1, 0, none⟩)), (3, .pointer (some ⟨b11, 0, none⟩))] _ := F106.cut rfl
           clear F103 F104 F105 F106
           refine s_end ?_
           refine x_normal ⟨k + 1, by omega, i2_84, h2_84, (layM M r_82 r_84), r0_Sa_86, r0_Sn_86, r0_Sc_86, r0_Ra_86, r0_Rn_86, r0_Rc_86, r0_Wa_86, r0_Wn_86, r0_Wc_86, F107.cut rfl, ((S18.trans (S21.trans (S27.trans S103))).pick [1, 0, 2] rfl), (Rd.mv (Nat.succ_pos _) V103_0 (Mv.pick (Mv.refl S103.at') [1, 0, 2] rfl)), (Rd.mv (Nat.succ_pos _) V103_1 (Mv.pick (Mv.refl S103.at') [1, 0, 2] rfl)), (Rd.mv (Nat.succ_pos _) V103_2 (Mv.pick (Mv.refl S103.at') [1, 0, 2] rfl)), by omega, by assumption, by first | exact ⟨Nat.le_trans (putKey_length ..) (by omega), by show M.touch.reads.length ≤ _; omega, Nat.le_trans (putL_length ..) (by omega)⟩ | exact ⟨by show M.store.length ≤ _; omega, Nat.le_trans (putL_length ..) (by omega), by show M.touch.writes.length ≤ _; omega⟩, by omega⟩
   · skip
     refine wp_exit (x_then_exit (x_then_exit (x_block_here (x_normal (wp_seq (wp_region_lit (l_op (f_val (v := .agg #[.slice sa sn sc, .slice ra rn rc, .slice ua un uc]) F24 rfl rfl (r_loadB S21.at' 1 TI_48 rfl rfl (F24.ev 3 rfl) rfl rfl (fun h => nomatch h) rfl) rfl fun _ F108 => ?_))))))))
     refine l_op (s_store S21.at' 2 TI_48 rfl rfl rfl rfl rfl (F108.ev 2 rfl) (F108.ev 38 rfl) rfl rfl rfl rfl rfl fun w109 S109 => ?_)
     have F110 : Fr 39 [(38, .agg #[.slice sa sn sc, .slice ra rn rc, .slice ua un uc]), (2, .pointer (some ⟨b1, 0, none⟩))] _ := F108.cut rfl
     clear F24 F108
     have T111 : Mv _ _ [bx b1 [.slice sa sn sc, .slice ra rn rc, .slice ua un uc] 48, bx c_b [.slice c_code_a c_code_n c_code_c, .int .i64 ((i2_21 : Nat) : Int), .int .i64 h2_21] 108, bx b11 [.slice sa sn sc, .slice ra rn rc, .slice ua un uc] 48] _ := S109
     refine s_end (x_normal (wp_ret ?_))
     refine x_done (v := .agg #[.slice sa sn sc, .slice ra rn rc, .slice ua un uc]) F110 (results_1 Try.results101 (.cell (F110.ev 2 rfl) (run_loadVar' TI_48 _ [.slice sa sn sc, .slice ra rn rc, .slice ua un uc] rfl (fun h => nomatch h) (At.cells T111.at' 0 rfl 0 [.slice sa sn sc, .slice ra rn rc, .slice ua un uc] rfl)))) ?_
     exact ⟨i2_21, h2_21, M, sa, sn, sc, ra, rn, rc, ua, un, uc, rfl, (Mv.pick (T4.trans (S6.trans (S9.trans (S8.trans (S11.trans (T15.trans (S18.trans (S21.trans T111)))))))) [1] rfl), (Rd.mv (Nat.succ_pos _) (Rd.mv (Nat.succ_pos _) W18_0 (S21.trans T111)) (Mv.pick (Mv.refl T111.at') [1] rfl)), (Rd.mv (Nat.succ_pos _) (Rd.mv (Nat.succ_pos _) W18_1 (S21.trans T111)) (Mv.pick (Mv.refl T111.at') [1] rfl)), (Rd.mv (Nat.succ_pos _) (Rd.mv (Nat.succ_pos _) W18_2 (S21.trans T111)) (Mv.pick (Mv.refl T111.at') [1] rfl)), by first | assumption | exact w64_ok _ | omega | (unfold i64ok; omega), by first | assumption | exact w64_ok _ | omega | (unfold i64ok; omega), ⟨by omega, by omega, by omega⟩⟩
theorem spec_l04Prefix_c {w : World} {H : Nat → Prop} {code : List Nat} {code_a : Option Addr} {code_n code_c : Nat} (v_code : RdA 1 encB okB H w (.slice code_a code_n code_c) code) (p0 : code_n ≤ 1048576) :
    Calls Try.prog 105 #[.slice code_a code_n code_c] w fun e w' => ∃ (d : MachD), ∃ (r : ByteArray), ∃ (r0_Sa : Option Addr), ∃ (r0_Sn : Nat), ∃ (r0_Sc : Nat), ∃ (r0_Ra : Option Addr), ∃ (r0_Rn : Nat), ∃ (r0_Rc : Nat), ∃ (r0_Wa : Option Addr), ∃ (r0_Wn : Nat), ∃ (r0_Wc : Nat), e = .returned (.tuple #[.agg #[.slice r0_Sa r0_Sn r0_Sc, .slice r0_Ra r0_Rn r0_Rc, .slice r0_Wa r0_Wn r0_Wc], .string r]) ∧ Mv [] w [] w' ∧ Rd 2 encC okC (Fsh H w) w' (.slice r0_Sa r0_Sn r0_Sc) d.store ∧ Rd 1 encS okS (Fsh H w) w' (.slice r0_Ra r0_Rn r0_Rc) d.touch.reads ∧ Rd 1 encS okS (Fsh H w) w' (.slice r0_Wa r0_Wn r0_Wc) d.touch.writes ∧ okS r ∧ (d.store.length ≤ 100 ∧ d.touch.reads.length ≤ 100 ∧ d.touch.writes.length ≤ 100) ∧ r.size ≤ 100 := by
 have V_v_code : RdA 1 encB okB (V H w []) w (.slice code_a code_n code_c) code := RdA.start v_code (fun _ _ => fps_nil _)
 obtain ⟨ln_code, le_code, mx_code, ni_code⟩ := RdA.inv v_code
 refine calls_enter 12 Try.func105 rfl Try.ntmps105 (Nat.le_of_ble_eq_true rfl) (fun _ F0i => ?_)
 have F0 : Fr 12 [(0, .slice code_a code_n code_c)] _ := F0i
 clear F0i
 refine wp_seq (wp_region_lit (l_op (f_alloc F0 (At.nil w) ZI_48 rfl rfl rfl rfl rfl fun b1 _ w1 F2 S1 => ?_)))
 refine l_op (f_val F2 rfl rfl (r_assign rfl rfl) rfl fun _ F3 => ?_)
 have F4 : Fr 12 [(3, .string (⟨#[]⟩ : ByteArray)), (2, .pointer (some ⟨b1, 0, none⟩)), (0, .slice code_a code_n code_c)] _ := F3.cut rfl
 clear F0 F2 F3
 have T5 : Mv _ _ [bx b1 [.slice none 0 0, .slice none 0 0, .slice none 0 0] 48] _ := S1
 refine s_end (x_normal (wp_seq (wp_region_lit (l_op (f_mv F4 rfl rfl rfl rfl rfl fun _ F6 => ?_)))))
 refine l_op (f_call F6 CF_75 rfl rfl rfl rfl (lc (F6.ev 5 rfl) rfl) (spec_l01New_c (code := code) (RdA.mv (Nat.succ_pos _) V_v_code T5) (by first | assumption | omega | (simp <;> omega))) ?_)
 rintro _ w7 ⟨h2_7, r0_b_7, rfl, m7, q7_0⟩
 refine ⟨_, rfl, fun _ F8 => ?_⟩
 have S7 : Mv _ _ [bx r0_b_7 [.slice code_a code_n code_c, .int .i64 ((0 : Nat) : Int), .int .i64 h2_7] 108, bx b1 [.slice none 0 0, .slice none 0 0, .slice none 0 0] 48] _ := At.frame T5.at' [] rfl m7
 clear m7
 refine l_op (f_as F8 rfl rfl rfl rfl rfl fun _ F9 => ?_)
 have F10 : Fr 12 [(4, .pointer (some ⟨r0_b_7, 0, none⟩)), (2, .pointer (some ⟨b1, 0, none⟩))] _ := F9.cut rfl
 clear F4 F6 F8 F9
 refine s_end (x_normal (wp_seq (wp_region_lit (l_op (f_mv F10 rfl rfl rfl rfl rfl fun _ F11 => ?_)))))
 refine l_op (f_call F11 CF_101 rfl rfl rfl rfl (lc (F11.ev 7 rfl) rfl) (spec_l04Mach_c (c := (⟨code, 0, h2_7⟩ : CurD)) (RdA.mv (Nat.succ_pos _) V_v_code (T5.trans S7)) (by unfold i64ok; (try dsimp only); omega) (by first | assumption | exact w64_ok _ | exact ⟨by omega, by omega⟩ | (unfold i64ok at *; omega)) (by first | assumption | omega | (simp <;> omega)) (At.pick (is := [0]) S7.at' rfl) (V_off (is := [0]))) ?_)
 rintro _ w12 ⟨i2_12, h2_12, d_12, r0_Sa_12, r0_Sn_12, r0_Sc_12, r0_Ra_12, r0_Rn_12, r0_Rc_12, r0_Wa_12, r0_Wn_12, r0_Wc_12, rfl, m12, v12_0, v12_1, v12_2, q12_0, q12_1, q12_2⟩
 refine ⟨_, rfl, fun _ F13 => ?_⟩
 have S12 : Mv _ _ [bx r0_b_7 [.slice code_a code_n code_c, .int .i64 ((i2_12 : Nat) : Int), .int .i64 h2_12] 108, bx b1 [.slice none 0 0, .slice none 0 0, .slice none 0 0] 48] _ := At.frame S7.at' [0] rfl m12
 have V12_0 : Rd 2 encC okC (V H w [bx r0_b_7 [.slice code_a code_n code_c, .int .i64 ((i2_12 : Nat) : Int), .int .i64 h2_12] 108, bx b1 [.slice none 0 0, .slice none 0 0, .slice none 0 0] 48]) w12 (.slice r0_Sa_12 r0_Sn_12 r0_Sc_12) d_12.store := Rd.gotP (New := [bx r0_b_7 [.slice code_a code_n code_c, .int .i64 ((i2_12 : Nat) : Int), .int .i64 h2_12] 108]) (is := [0]) S7.at' ((T5.trans S7).kp.size) (fresh_nil (T5.trans S7)) v12_0
 obtain ⟨ln12_0, le12_0, mx12_0, ni12_0⟩ := Rd.inv V12_0
 have V12_1 : Rd 1 encS okS (V H w [bx r0_b_7 [.slice code_a code_n code_c, .int .i64 ((i2_12 : Nat) : Int), .int .i64 h2_12] 108, bx b1 [.slice none 0 0, .slice none 0 0, .slice none 0 0] 48]) w12 (.slice r0_Ra_12 r0_Rn_12 r0_Rc_12) d_12.touch.reads := Rd.gotP (New := [bx r0_b_7 [.slice code_a code_n code_c, .int .i64 ((i2_12 : Nat) : Int), .int .i64 h2_12] 108]) (is := [0]) S7.at' ((T5.trans S7).kp.size) (fresh_nil (T5.trans S7)) v12_1
 obtain ⟨ln12_1, le12_1, mx12_1, ni12_1⟩ := Rd.inv V12_1
 have V12_2 : Rd 1 encS okS (V H w [bx r0_b_7 [.slice code_a code_n code_c, .int .i64 ((i2_12 : Nat) : Int), .int .i64 h2_12] 108, bx b1 [.slice none 0 0, .slice none 0 0, .slice none 0 0] 48]) w12 (.slice r0_Wa_12 r0_Wn_12 r0_Wc_12) d_12.touch.writes := Rd.gotP (New := [bx r0_b_7 [.slice code_a code_n code_c, .int .i64 ((i2_12 : Nat) : Int), .int .i64 h2_12] 108]) (is := [0]) S7.at' ((T5.trans S7).kp.size) (fresh_nil (T5.trans S7)) v12_2
 obtain ⟨ln12_2, le12_2, mx12_2, ni12_2⟩ := Rd.inv V12_2
 clear m12 v12_0 v12_1 v12_2
 refine l_op (f_mv F13 rfl rfl rfl rfl rfl fun _ F14 => ?_)
 refine l_op (f_buildSl (ok := okS) (vs := [.string (⟨#[]⟩ : ByteArray), .string (⟨#[110, 47]⟩ : ByteArray), .string (⟨#[105, 47, 49, 47]⟩ : ByteArray), .string (⟨#[105, 47, 49]⟩ : ByteArray), .string (⟨#[120]⟩ : ByteArray)]) F14 S12.at' ([(⟨#[]⟩ : ByteArray), (⟨#[110, 47]⟩ : ByteArray), (⟨#[105, 47, 49, 47]⟩ : ByteArray), (⟨#[105, 47, 49]⟩ : ByteArray), (⟨#[120]⟩ : ByteArray)]) ET_22 rfl rfl rfl rfl rfl rfl (lc (pr2 rfl) (lc (pr2 rfl) (lc (pr2 rfl) (lc (pr2 rfl) (lc (pr2 rfl) rfl))))) rfl rfl (fun x hx => by (repeat (first | (rcases List.mem_cons.1 hx with hx | hx; (subst hx; first | exact (by unfold okS; decide) | exact (by unfold okS; decide) | exact (by unfold okS; decide) | exact (by unfold okS; decide) | exact (by unfold okS; decide))) | exact (List.not_mem_nil hx).elim))) fun b15 _ w15 F16 S15 => ?_)
 refine l_op (f_call F16 CF_121 rfl rfl rfl rfl (lc (F16.ev 9 rfl) (lc (F16.ev 10 rfl) rfl)) (spec_l01Pick_c (H := fun b => ¬ fps (sel [ow 9 1 encS okS (.slice (some ⟨b15, 0, none⟩) 5 5) ([(⟨#[]⟩ : ByteArray), (⟨#[110, 47]⟩ : ByteArray), (⟨#[105, 47, 49, 47]⟩ : ByteArray), (⟨#[105, 47, 49]⟩ : ByteArray), (⟨#[120]⟩ : ByteArray)]), bx r0_b_7 [.slice code_a code_n code_c, .int .i64 ((i2_12 : Nat) : Int), .int .i64 h2_12] 108, bx b1 [.slice none 0 0, .slice none 0 0, .slice none 0 0] 48] [1]) b) (c := (⟨code, i2_12, h2_12⟩ : CurD)) (list := [(⟨#[]⟩ : ByteArray), (⟨#[110, 47]⟩ : ByteArray), (⟨#[105, 47, 49, 47]⟩ : ByteArray), (⟨#[105, 47, 49]⟩ : ByteArray), (⟨#[120]⟩ : ByteArray)]) (RdA.mono (RdA.mv (Nat.succ_pos _) V_v_code (T5.trans (S7.trans (S12.trans S15)))) (V_off (is := [1]))) (by unfold i64ok; (try dsimp only); omega) (by first | assumption | exact w64_ok _ | exact ⟨by omega, by omega⟩ | (unfold i64ok at *; omega)) (At.rdOff S15.at' ET_22.hk 0 rfl [1] rfl) (by first | assumption | omega | (simp <;> omega)) (by first | assumption | omega | (simp <;> omega)) (At.pick (is := [1]) S15.at' rfl) (fun _ h => h)) ?_)
 rintro _ w17 ⟨i2_17, h2_17, r_17, rfl, m17, ok_r0_17, q17_0, q17_1, q17_2⟩
 refine ⟨_, rfl, fun _ F18 => ?_⟩
 have S17 : Mv _ _ [bx r0_b_7 [.slice code_a code_n code_c, .int .i64 ((i2_17 : Nat) : Int), .int .i64 h2_17] 108, ow 9 1 encS okS (.slice (some ⟨b15, 0, none⟩) 5 5) ([(⟨#[]⟩ : ByteArray), (⟨#[110, 47]⟩ : ByteArray), (⟨#[105, 47, 49, 47]⟩ : ByteArray), (⟨#[105, 47, 49]⟩ : ByteArray), (⟨#[120]⟩ : ByteArray)]), bx b1 [.slice none 0 0, .slice none 0 0, .slice none 0 0] 48] _ := At.frame S15.at' [1] rfl m17
 clear m17
 refine l_op (s_store S17.at' 2 TI_48 rfl rfl rfl rfl rfl (F18.ev 2 rfl) (F18.ev 8 rfl) rfl rfl rfl rfl rfl fun w19 S19 => ?_)
 refine l_op (f_as F18 rfl rfl rfl rfl rfl fun _ F20 => ?_)
 have F21 : Fr 12 [(3, .string r_17), (2, .pointer (some ⟨b1, 0, none⟩))] _ := F20.cut rfl
 clear F10 F11 F13 F14 F16 F18 F20
 have T22 : Mv _ _ [bx b1 [.slice r0_Sa_12 r0_Sn_12 r0_Sc_12, .slice r0_Ra_12 r0_Rn_12 r0_Rc_12, .slice r0_Wa_12 r0_Wn_12 r0_Wc_12] 48, bx r0_b_7 [.slice code_a code_n code_c, .int .i64 ((i2_17 : Nat) : Int), .int .i64 h2_17] 108, ow 9 1 encS okS (.slice (some ⟨b15, 0, none⟩) 5 5) ([(⟨#[]⟩ : ByteArray), (⟨#[110, 47]⟩ : ByteArray), (⟨#[105, 47, 49, 47]⟩ : ByteArray), (⟨#[105, 47, 49]⟩ : ByteArray), (⟨#[120]⟩ : ByteArray)])] _ := S19
 refine s_end (x_normal (wp_ret ?_))
 refine x_done (v := .tuple #[.agg #[.slice r0_Sa_12 r0_Sn_12 r0_Sc_12, .slice r0_Ra_12 r0_Rn_12 r0_Rc_12, .slice r0_Wa_12 r0_Wn_12 r0_Wc_12], .string r_17]) F21 (results_2 Try.results105 (.cell (F21.ev 2 rfl) (run_loadVar' TI_48 _ [.slice r0_Sa_12 r0_Sn_12 r0_Sc_12, .slice r0_Ra_12 r0_Rn_12 r0_Rc_12, .slice r0_Wa_12 r0_Wn_12 r0_Wc_12] rfl (fun h => nomatch h) (At.cells T22.at' 0 rfl 0 [.slice r0_Sa_12 r0_Sn_12 r0_Sc_12, .slice r0_Ra_12 r0_Rn_12 r0_Rc_12, .slice r0_Wa_12 r0_Wn_12 r0_Wc_12] rfl))) (.tmp (F21.ev 3 rfl))) ?_
 exact ⟨d_12, r_17, r0_Sa_12, r0_Sn_12, r0_Sc_12, r0_Ra_12, r0_Rn_12, r0_Rc_12, r0_Wa_12, r0_Wn_12, r0_Wc_12, rfl, (Mv.pick (T5.trans (S7.trans (S12.trans (S15.trans (S17.trans T22))))) [] rfl), (Rd.give (Rd.mv (Nat.succ_pos _) V12_0 (S15.trans (S17.trans T22)))), (Rd.give (Rd.mv (Nat.succ_pos _) V12_1 (S15.trans (S17.trans T22)))), (Rd.give (Rd.mv (Nat.succ_pos _) V12_2 (S15.trans (S17.trans T22)))), ok_r0_17, by first | assumption | exact w64_ok _ | omega | (unfold i64ok; omega), by (refine (?_ : ∀ x : ByteArray, x ∈ (_ : List ByteArray) → x.size ≤ 100) _ (by assumption)); decide⟩
theorem spec_DrawLay_c {w : World} {H : Nat → Prop} {code : List Nat} {code_a : Option Addr} {code_n code_c : Nat} (v_code : RdA 1 encB okB H w (.slice code_a code_n code_c) code) (p0 : code_n ≤ 1048576) :
    Calls Try.prog 49 #[.slice code_a code_n code_c] w fun e w' => ∃ (d : MachD), ∃ (r : ByteArray), ∃ (r2 : ByteArray), ∃ (r0_Sa : Option Addr), ∃ (r0_Sn : Nat), ∃ (r0_Sc : Nat), ∃ (r0_Ra : Option Addr), ∃ (r0_Rn : Nat), ∃ (r0_Rc : Nat), ∃ (r0_Wa : Option Addr), ∃ (r0_Wn : Nat), ∃ (r0_Wc : Nat), e = .returned (.tuple #[.agg #[.slice r0_Sa r0_Sn r0_Sc, .slice r0_Ra r0_Rn r0_Rc, .slice r0_Wa r0_Wn r0_Wc], .string r, .string r2]) ∧ Mv [] w [] w' ∧ Rd 2 encC okC (Fsh H w) w' (.slice r0_Sa r0_Sn r0_Sc) d.store ∧ Rd 1 encS okS (Fsh H w) w' (.slice r0_Ra r0_Rn r0_Rc) d.touch.reads ∧ Rd 1 encS okS (Fsh H w) w' (.slice r0_Wa r0_Wn r0_Wc) d.touch.writes ∧ okS r ∧ okS r2 ∧ (d.store.length ≤ 100 ∧ d.touch.reads.length ≤ 100 ∧ d.touch.writes.length ≤ 100) := by
 have V_v_code : RdA 1 encB okB (V H w []) w (.slice code_a code_n code_c) code := RdA.start v_code (fun _ _ => fps_nil _)
 obtain ⟨ln_code, le_code, mx_code, ni_code⟩ := RdA.inv v_code
 refine calls_enter 14 Try.func49 rfl Try.ntmps49 (Nat.le_of_ble_eq_true rfl) (fun _ F0i => ?_)
 have F0 : Fr 14 [(0, .slice code_a code_n code_c)] _ := F0i
 clear F0i
 refine wp_seq (wp_region_lit (l_op (f_alloc F0 (At.nil w) ZI_48 rfl rfl rfl rfl rfl fun b1 _ w1 F2 S1 => ?_)))
 refine l_op (f_val F2 rfl rfl (r_assign rfl rfl) rfl fun _ F3 => ?_)
 refine l_op (f_val F3 rfl rfl (r_assign rfl rfl) rfl fun _ F4 => ?_)
 have F5 : Fr 14 [(4, .string (⟨#[]⟩ : ByteArray)), (2, .pointer (some ⟨b1, 0, none⟩)), (0, .slice code_a code_n code_c)] _ := F4.cut rfl
 clear F0 F2 F3 F4
 have T6 : Mv _ _ [bx b1 [.slice none 0 0, .slice none 0 0, .slice none 0 0] 48] _ := S1
 refine s_end (x_normal (wp_seq (wp_region_lit (l_op (f_mv F5 rfl rfl rfl rfl rfl fun _ F7 => ?_)))))
 refine l_op (f_call F7 CF_75 rfl rfl rfl rfl (lc (F7.ev 6 rfl) rfl) (spec_l01New_c (code := code) (RdA.mv (Nat.succ_pos _) V_v_code T6) (by first | assumption | omega | (simp <;> omega))) ?_)
 rintro _ w8 ⟨h2_8, r0_b_8, rfl, m8, q8_0⟩
 refine ⟨_, rfl, fun _ F9 => ?_⟩
 have S8 : Mv _ _ [bx r0_b_8 [.slice code_a code_n code_c, .int .i64 ((0 : Nat) : Int), .int .i64 h2_8] 108, bx b1 [.slice none 0 0, .slice none 0 0, .slice none 0 0] 48] _ := At.frame T6.at' [] rfl m8
 clear m8
 refine l_op (f_as F9 rfl rfl rfl rfl rfl fun _ F10 => ?_)
 have F11 : Fr 14 [(5, .pointer (some ⟨r0_b_8, 0, none⟩)), (2, .pointer (some ⟨b1, 0, none⟩))] _ := F10.cut rfl
 clear F5 F7 F9 F10
 refine s_end (x_normal (wp_seq (wp_region_lit (l_op (f_mv F11 rfl rfl rfl rfl rfl fun _ F12 => ?_)))))
 refine l_op (f_call F12 CF_101 rfl rfl rfl rfl (lc (F12.ev 8 rfl) rfl) (spec_l04Mach_c (c := (⟨code, 0, h2_8⟩ : CurD)) (RdA.mv (Nat.succ_pos _) V_v_code (T6.trans S8)) (by unfold i64ok; (try dsimp only); omega) (by first | assumption | exact w64_ok _ | exact ⟨by omega, by omega⟩ | (unfold i64ok at *; omega)) (by first | assumption | omega | (simp <;> omega)) (At.pick (is := [0]) S8.at' rfl) (V_off (is := [0]))) ?_)
 rintro _ w13 ⟨i2_13, h2_13, d_13, r0_Sa_13, r0_Sn_13, r0_Sc_13, r0_Ra_13, r0_Rn_13, r0_Rc_13, r0_Wa_13, r0_Wn_13, r0_Wc_13, rfl, m13, v13_0, v13_1, v13_2, q13_0, q13_1, q13_2⟩
 refine ⟨_, rfl, fun _ F14 => ?_⟩
 have S13 : Mv _ _ [bx r0_b_8 [.slice code_a code_n code_c, .int .i64 ((i2_13 : Nat) : Int), .int .i64 h2_13] 108, bx b1 [.slice none 0 0, .slice none 0 0, .slice none 0 0] 48] _ := At.frame S8.at' [0] rfl m13
 have V13_0 : Rd 2 encC okC (V H w [bx r0_b_8 [.slice code_a code_n code_c, .int .i64 ((i2_13 : Nat) : Int), .int .i64 h2_13] 108, bx b1 [.slice none 0 0, .slice none 0 0, .slice none 0 0] 48]) w13 (.slice r0_Sa_13 r0_Sn_13 r0_Sc_13) d_13.store := Rd.gotP (New := [bx r0_b_8 [.slice code_a code_n code_c, .int .i64 ((i2_13 : Nat) : Int), .int .i64 h2_13] 108]) (is := [0]) S8.at' ((T6.trans S8).kp.size) (fresh_nil (T6.trans S8)) v13_0
 obtain ⟨ln13_0, le13_0, mx13_0, ni13_0⟩ := Rd.inv V13_0
 have V13_1 : Rd 1 encS okS (V H w [bx r0_b_8 [.slice code_a code_n code_c, .int .i64 ((i2_13 : Nat) : Int), .int .i64 h2_13] 108, bx b1 [.slice none 0 0, .slice none 0 0, .slice none 0 0] 48]) w13 (.slice r0_Ra_13 r0_Rn_13 r0_Rc_13) d_13.touch.reads := Rd.gotP (New := [bx r0_b_8 [.slice code_a code_n code_c, .int .i64 ((i2_13 : Nat) : Int), .int .i64 h2_13] 108]) (is := [0]) S8.at' ((T6.trans S8).kp.size) (fresh_nil (T6.trans S8)) v13_1
 obtain ⟨ln13_1, le13_1, mx13_1, ni13_1⟩ := Rd.inv V13_1
 have V13_2 : Rd 1 encS okS (V H w [bx r0_b_8 [.slice code_a code_n code_c, .int .i64 ((i2_13 : Nat) : Int), .int .i64 h2_13] 108, bx b1 [.slice none 0 0, .slice none 0 0, .slice none 0 0] 48]) w13 (.slice r0_Wa_13 r0_Wn_13 r0_Wc_13) d_13.touch.writes := Rd.gotP (New := [bx r0_b_8 [.slice code_a code_n code_c, .int .i64 ((i2_13 : Nat) : Int), .int .i64 h2_13] 108]) (is := [0]) S8.at' ((T6.trans S8).kp.size) (fresh_nil (T6.trans S8)) v13_2
 obtain ⟨ln13_2, le13_2, mx13_2, ni13_2⟩ := Rd.inv V13_2
 clear m13 v13_0 v13_1 v13_2
 refine l_op (f_mv F14 rfl rfl rfl rfl rfl fun _ F15 => ?_)
 refine l_op (f_call F15 CF_102 rfl rfl rfl rfl (lc (F15.ev 10 rfl) rfl) (spec_l02AnyKey_c (c := (⟨code, i2_13, h2_13⟩ : CurD)) (RdA.mv (Nat.succ_pos _) V_v_code (T6.trans (S8.trans S13))) (by unfold i64ok; (try dsimp only); omega) (by first | assumption | exact w64_ok _ | exact ⟨by omega, by omega⟩ | (unfold i64ok at *; omega)) (by first | assumption | omega | (simp <;> omega)) (At.pick (is := [0]) S13.at' rfl) (V_off (is := [0]))) ?_)
 rintro _ w16 ⟨i2_16, h2_16, r_16, rfl, m16, ok_r0_16, q16_0, q16_1⟩
 refine ⟨_, rfl, fun _ F17 => ?_⟩
 have S16 : Mv _ _ [bx r0_b_8 [.slice code_a code_n code_c, .int .i64 ((i2_16 : Nat) : Int), .int .i64 h2_16] 108, bx b1 [.slice none 0 0, .slice none 0 0, .slice none 0 0] 48] _ := At.frame S13.at' [0] rfl m16
 clear m16
 refine l_op (f_mv F17 rfl rfl rfl rfl rfl fun _ F18 => ?_)
 refine l_op (f_call F18 CF_103 rfl rfl rfl rfl (lc (F18.ev 12 rfl) rfl) (spec_l02Val_c (c := (⟨code, i2_16, h2_16⟩ : CurD)) (RdA.mv (Nat.succ_pos _) V_v_code (T6.trans (S8.trans (S13.trans S16)))) (by unfold i64ok; (try dsimp only); omega) (by first | assumption | exact w64_ok _ | exact ⟨by omega, by omega⟩ | (unfold i64ok at *; omega)) (by first | assumption | omega | (simp <;> omega)) (At.pick (is := [0]) S16.at' rfl) (V_off (is := [0]))) ?_)
 rintro _ w19 ⟨i2_19, h2_19, r_19, rfl, m19, ok_r0_19, q19_0, q19_1, q19_2⟩
 refine ⟨_, rfl, fun _ F20 => ?_⟩
 have S19 : Mv _ _ [bx r0_b_8 [.slice code_a code_n code_c, .int .i64 ((i2_19 : Nat) : Int), .int .i64 h2_19] 108, bx b1 [.slice none 0 0, .slice none 0 0, .slice none 0 0] 48] _ := At.frame S16.at' [0] rfl m19
 clear m19
 refine l_op (s_store S19.at' 1 TI_48 rfl rfl rfl rfl rfl (F20.ev 2 rfl) (F20.ev 9 rfl) rfl rfl rfl rfl rfl fun w21 S21 => ?_)
 refine l_op (f_as F20 rfl rfl rfl rfl rfl fun _ F22 => ?_)
 refine l_op (f_as F22 rfl rfl rfl rfl rfl fun _ F23 => ?_)
 have F24 : Fr 14 [(4, .string r_19), (3, .string r_16), (2, .pointer (some ⟨b1, 0, none⟩))] _ := F23.cut rfl
 clear F11 F12 F14 F15 F17 F18 F20 F22 F23
 have T25 : Mv _ _ [bx b1 [.slice r0_Sa_13 r0_Sn_13 r0_Sc_13, .slice r0_Ra_13 r0_Rn_13 r0_Rc_13, .slice r0_Wa_13 r0_Wn_13 r0_Wc_13] 48, bx r0_b_8 [.slice code_a code_n code_c, .int .i64 ((i2_19 : Nat) : Int), .int .i64 h2_19] 108] _ := S21
 refine s_end (x_normal (wp_ret ?_))
 refine x_done (v := .tuple #[.agg #[.slice r0_Sa_13 r0_Sn_13 r0_Sc_13, .slice r0_Ra_13 r0_Rn_13 r0_Rc_13, .slice r0_Wa_13 r0_Wn_13 r0_Wc_13], .string r_16, .string r_19]) F24 (results_3 Try.results49 (.cell (F24.ev 2 rfl) (run_loadVar' TI_48 _ [.slice r0_Sa_13 r0_Sn_13 r0_Sc_13, .slice r0_Ra_13 r0_Rn_13 r0_Rc_13, .slice r0_Wa_13 r0_Wn_13 r0_Wc_13] rfl (fun h => nomatch h) (At.cells T25.at' 0 rfl 0 [.slice r0_Sa_13 r0_Sn_13 r0_Sc_13, .slice r0_Ra_13 r0_Rn_13 r0_Rc_13, .slice r0_Wa_13 r0_Wn_13 r0_Wc_13] rfl))) (.tmp (F24.ev 3 rfl)) (.tmp (F24.ev 4 rfl))) ?_
 exact ⟨d_13, r_16, r_19, r0_Sa_13, r0_Sn_13, r0_Sc_13, r0_Ra_13, r0_Rn_13, r0_Rc_13, r0_Wa_13, r0_Wn_13, r0_Wc_13, rfl, (Mv.pick (T6.trans (S8.trans (S13.trans (S16.trans (S19.trans T25))))) [] rfl), (Rd.give (Rd.mv (Nat.succ_pos _) V13_0 (S16.trans (S19.trans T25)))), (Rd.give (Rd.mv (Nat.succ_pos _) V13_1 (S16.trans (S19.trans T25)))), (Rd.give (Rd.mv (Nat.succ_pos _) V13_2 (S16.trans (S19.trans T25)))), ok_r0_16, ok_r0_19, by first | assumption | exact w64_ok _ | omega | (unfold i64ok; omega)⟩
theorem spec_DrawLook_c {w : World} {H : Nat → Prop} {code : List Nat} {code_a : Option Addr} {code_n code_c : Nat} (v_code : RdA 1 encB okB H w (.slice code_a code_n code_c) code) (p0 : code_n ≤ 1048576) :
    Calls Try.prog 60 #[.slice code_a code_n code_c] w fun e w' => ∃ (d : MachD), ∃ (r : ByteArray), ∃ (r0_Sa : Option Addr), ∃ (r0_Sn : Nat), ∃ (r0_Sc : Nat), ∃ (r0_Ra : Option Addr), ∃ (r0_Rn : Nat), ∃ (r0_Rc : Nat), ∃ (r0_Wa : Option Addr), ∃ (r0_Wn : Nat), ∃ (r0_Wc : Nat), e = .returned (.tuple #[.agg #[.slice r0_Sa r0_Sn r0_Sc, .slice r0_Ra r0_Rn r0_Rc, .slice r0_Wa r0_Wn r0_Wc], .string r]) ∧ Mv [] w [] w' ∧ Rd 2 encC okC (Fsh H w) w' (.slice r0_Sa r0_Sn r0_Sc) d.store ∧ Rd 1 encS okS (Fsh H w) w' (.slice r0_Ra r0_Rn r0_Rc) d.touch.reads ∧ Rd 1 encS okS (Fsh H w) w' (.slice r0_Wa r0_Wn r0_Wc) d.touch.writes ∧ okS r ∧ (d.store.length ≤ 100 ∧ d.touch.reads.length ≤ 100 ∧ d.touch.writes.length ≤ 100) := by
 have V_v_code : RdA 1 encB okB (V H w []) w (.slice code_a code_n code_c) code := RdA.start v_code (fun _ _ => fps_nil _)
 obtain ⟨ln_code, le_code, mx_code, ni_code⟩ := RdA.inv v_code
 refine calls_enter 11 Try.func60 rfl Try.ntmps60 (Nat.le_of_ble_eq_true rfl) (fun _ F0i => ?_)
 have F0 : Fr 11 [(0, .slice code_a code_n code_c)] _ := F0i
 clear F0i
 refine wp_seq (wp_region_lit (l_op (f_alloc F0 (At.nil w) ZI_48 rfl rfl rfl rfl rfl fun b1 _ w1 F2 S1 => ?_)))
 refine l_op (f_val F2 rfl rfl (r_assign rfl rfl) rfl fun _ F3 => ?_)
 have F4 : Fr 11 [(3, .string (⟨#[]⟩ : ByteArray)), (2, .pointer (some ⟨b1, 0, none⟩)), (0, .slice code_a code_n code_c)] _ := F3.cut rfl
 clear F0 F2 F3
 have T5 : Mv _ _ [bx b1 [.slice none 0 0, .slice none 0 0, .slice none 0 0] 48] _ := S1
 refine s_end (x_normal (wp_seq (wp_region_lit (l_op (f_mv F4 rfl rfl rfl rfl rfl fun _ F6 => ?_)))))
 refine l_op (f_call F6 CF_75 rfl rfl rfl rfl (lc (F6.ev 5 rfl) rfl) (spec_l01New_c (code := code) (RdA.mv (Nat.succ_pos _) V_v_code T5) (by first | assumption | omega | (simp <;> omega))) ?_)
 rintro _ w7 ⟨h2_7, r0_b_7, rfl, m7, q7_0⟩
 refine ⟨_, rfl, fun _ F8 => ?_⟩
 have S7 : Mv _ _ [bx r0_b_7 [.slice code_a code_n code_c, .int .i64 ((0 : Nat) : Int), .int .i64 h2_7] 108, bx b1 [.slice none 0 0, .slice none 0 0, .slice none 0 0] 48] _ := At.frame T5.at' [] rfl m7
 clear m7
 refine l_op (f_as F8 rfl rfl rfl rfl rfl fun _ F9 => ?_)
 have F10 : Fr 11 [(4, .pointer (some ⟨r0_b_7, 0, none⟩)), (2, .pointer (some ⟨b1, 0, none⟩))] _ := F9.cut rfl
 clear F4 F6 F8 F9
 refine s_end (x_normal (wp_seq (wp_region_lit (l_op (f_mv F10 rfl rfl rfl rfl rfl fun _ F11 => ?_)))))
 refine l_op (f_call F11 CF_101 rfl rfl rfl rfl (lc (F11.ev 7 rfl) rfl) (spec_l04Mach_c (c := (⟨code, 0, h2_7⟩ : CurD)) (RdA.mv (Nat.succ_pos _) V_v_code (T5.trans S7)) (by unfold i64ok; (try dsimp only); omega) (by first | assumption | exact w64_ok _ | exact ⟨by omega, by omega⟩ | (unfold i64ok at *; omega)) (by first | assumption | omega | (simp <;> omega)) (At.pick (is := [0]) S7.at' rfl) (V_off (is := [0]))) ?_)
 rintro _ w12 ⟨i2_12, h2_12, d_12, r0_Sa_12, r0_Sn_12, r0_Sc_12, r0_Ra_12, r0_Rn_12, r0_Rc_12, r0_Wa_12, r0_Wn_12, r0_Wc_12, rfl, m12, v12_0, v12_1, v12_2, q12_0, q12_1, q12_2⟩
 refine ⟨_, rfl, fun _ F13 => ?_⟩
 have S12 : Mv _ _ [bx r0_b_7 [.slice code_a code_n code_c, .int .i64 ((i2_12 : Nat) : Int), .int .i64 h2_12] 108, bx b1 [.slice none 0 0, .slice none 0 0, .slice none 0 0] 48] _ := At.frame S7.at' [0] rfl m12
 have V12_0 : Rd 2 encC okC (V H w [bx r0_b_7 [.slice code_a code_n code_c, .int .i64 ((i2_12 : Nat) : Int), .int .i64 h2_12] 108, bx b1 [.slice none 0 0, .slice none 0 0, .slice none 0 0] 48]) w12 (.slice r0_Sa_12 r0_Sn_12 r0_Sc_12) d_12.store := Rd.gotP (New := [bx r0_b_7 [.slice code_a code_n code_c, .int .i64 ((i2_12 : Nat) : Int), .int .i64 h2_12] 108]) (is := [0]) S7.at' ((T5.trans S7).kp.size) (fresh_nil (T5.trans S7)) v12_0
 obtain ⟨ln12_0, le12_0, mx12_0, ni12_0⟩ := Rd.inv V12_0
 have V12_1 : Rd 1 encS okS (V H w [bx r0_b_7 [.slice code_a code_n code_c, .int .i64 ((i2_12 : Nat) : Int), .int .i64 h2_12] 108, bx b1 [.slice none 0 0, .slice none 0 0, .slice none 0 0] 48]) w12 (.slice r0_Ra_12 r0_Rn_12 r0_Rc_12) d_12.touch.reads := Rd.gotP (New := [bx r0_b_7 [.slice code_a code_n code_c, .int .i64 ((i2_12 : Nat) : Int), .int .i64 h2_12] 108]) (is := [0]) S7.at' ((T5.trans S7).kp.size) (fresh_nil (T5.trans S7)) v12_1
 obtain ⟨ln12_1, le12_1, mx12_1, ni12_1⟩ := Rd.inv V12_1
 have V12_2 : Rd 1 encS okS (V H w [bx r0_b_7 [.slice code_a code_n code_c, .int .i64 ((i2_12 : Nat) : Int), .int .i64 h2_12] 108, bx b1 [.slice none 0 0, .slice none 0 0, .slice none 0 0] 48]) w12 (.slice r0_Wa_12 r0_Wn_12 r0_Wc_12) d_12.touch.writes := Rd.gotP (New := [bx r0_b_7 [.slice code_a code_n code_c, .int .i64 ((i2_12 : Nat) : Int), .int .i64 h2_12] 108]) (is := [0]) S7.at' ((T5.trans S7).kp.size) (fresh_nil (T5.trans S7)) v12_2
 obtain ⟨ln12_2, le12_2, mx12_2, ni12_2⟩ := Rd.inv V12_2
 clear m12 v12_0 v12_1 v12_2
 refine l_op (f_mv F13 rfl rfl rfl rfl rfl fun _ F14 => ?_)
 refine l_op (f_call F14 CF_102 rfl rfl rfl rfl (lc (F14.ev 9 rfl) rfl) (spec_l02AnyKey_c (c := (⟨code, i2_12, h2_12⟩ : CurD)) (RdA.mv (Nat.succ_pos _) V_v_code (T5.trans (S7.trans S12))) (by unfold i64ok; (try dsimp only); omega) (by first | assumption | exact w64_ok _ | exact ⟨by omega, by omega⟩ | (unfold i64ok at *; omega)) (by first | assumption | omega | (simp <;> omega)) (At.pick (is := [0]) S12.at' rfl) (V_off (is := [0]))) ?_)
 rintro _ w15 ⟨i2_15, h2_15, r_15, rfl, m15, ok_r0_15, q15_0, q15_1⟩
 refine ⟨_, rfl, fun _ F16 => ?_⟩
 have S15 : Mv _ _ [bx r0_b_7 [.slice code_a code_n code_c, .int .i64 ((i2_15 : Nat) : Int), .int .i64 h2_15] 108, bx b1 [.slice none 0 0, .slice none 0 0, .slice none 0 0] 48] _ := At.frame S12.at' [0] rfl m15
 clear m15
 refine l_op (s_store S15.at' 1 TI_48 rfl rfl rfl rfl rfl (F16.ev 2 rfl) (F16.ev 8 rfl) rfl rfl rfl rfl rfl fun w17 S17 => ?_)
 refine l_op (f_as F16 rfl rfl rfl rfl rfl fun _ F18 => ?_)
 have F19 : Fr 11 [(3, .string r_15), (2, .pointer (some ⟨b1, 0, none⟩))] _ := F18.cut rfl
 clear F10 F11 F13 F14 F16 F18
 have T20 : Mv _ _ [bx b1 [.slice r0_Sa_12 r0_Sn_12 r0_Sc_12, .slice r0_Ra_12 r0_Rn_12 r0_Rc_12, .slice r0_Wa_12 r0_Wn_12 r0_Wc_12] 48, bx r0_b_7 [.slice code_a code_n code_c, .int .i64 ((i2_15 : Nat) : Int), .int .i64 h2_15] 108] _ := S17
 refine s_end (x_normal (wp_ret ?_))
 refine x_done (v := .tuple #[.agg #[.slice r0_Sa_12 r0_Sn_12 r0_Sc_12, .slice r0_Ra_12 r0_Rn_12 r0_Rc_12, .slice r0_Wa_12 r0_Wn_12 r0_Wc_12], .string r_15]) F19 (results_2 Try.results60 (.cell (F19.ev 2 rfl) (run_loadVar' TI_48 _ [.slice r0_Sa_12 r0_Sn_12 r0_Sc_12, .slice r0_Ra_12 r0_Rn_12 r0_Rc_12, .slice r0_Wa_12 r0_Wn_12 r0_Wc_12] rfl (fun h => nomatch h) (At.cells T20.at' 0 rfl 0 [.slice r0_Sa_12 r0_Sn_12 r0_Sc_12, .slice r0_Ra_12 r0_Rn_12 r0_Rc_12, .slice r0_Wa_12 r0_Wn_12 r0_Wc_12] rfl))) (.tmp (F19.ev 3 rfl))) ?_
 exact ⟨d_12, r_15, r0_Sa_12, r0_Sn_12, r0_Sc_12, r0_Ra_12, r0_Rn_12, r0_Rc_12, r0_Wa_12, r0_Wn_12, r0_Wc_12, rfl, (Mv.pick (T5.trans (S7.trans (S12.trans (S15.trans T20)))) [] rfl), (Rd.give (Rd.mv (Nat.succ_pos _) V12_0 (S15.trans T20))), (Rd.give (Rd.mv (Nat.succ_pos _) V12_1 (S15.trans T20))), (Rd.give (Rd.mv (Nat.succ_pos _) V12_2 (S15.trans T20))), ok_r0_15, by first | assumption | exact w64_ok _ | omega | (unfold i64ok; omega)⟩
theorem spec_DrawUnder_c {w : World} {H : Nat → Prop} {code : List Nat} {code_a : Option Addr} {code_n code_c : Nat} (v_code : RdA 1 encB okB H w (.slice code_a code_n code_c) code) (p0 : code_n ≤ 1048576) :
    Calls Try.prog 61 #[.slice code_a code_n code_c] w fun e w' => ∃ (d : MachD), ∃ (r : ByteArray), ∃ (r0_Sa : Option Addr), ∃ (r0_Sn : Nat), ∃ (r0_Sc : Nat), ∃ (r0_Ra : Option Addr), ∃ (r0_Rn : Nat), ∃ (r0_Rc : Nat), ∃ (r0_Wa : Option Addr), ∃ (r0_Wn : Nat), ∃ (r0_Wc : Nat), e = .returned (.tuple #[.agg #[.slice r0_Sa r0_Sn r0_Sc, .slice r0_Ra r0_Rn r0_Rc, .slice r0_Wa r0_Wn r0_Wc], .string r]) ∧ Mv [] w [] w' ∧ Rd 2 encC okC (Fsh H w) w' (.slice r0_Sa r0_Sn r0_Sc) d.store ∧ Rd 1 encS okS (Fsh H w) w' (.slice r0_Ra r0_Rn r0_Rc) d.touch.reads ∧ Rd 1 encS okS (Fsh H w) w' (.slice r0_Wa r0_Wn r0_Wc) d.touch.writes ∧ okS r ∧ (d.store.length ≤ 100 ∧ d.touch.reads.length ≤ 100 ∧ d.touch.writes.length ≤ 100) ∧ r.size ≤ 100 := by
 have V_v_code : RdA 1 encB okB (V H w []) w (.slice code_a code_n code_c) code := RdA.start v_code (fun _ _ => fps_nil _)
 obtain ⟨ln_code, le_code, mx_code, ni_code⟩ := RdA.inv v_code
 refine calls_enter 8 Try.func61 rfl Try.ntmps61 (Nat.le_of_ble_eq_true rfl) (fun _ F0i => ?_)
 have F0 : Fr 8 [(0, .slice code_a code_n code_c)] _ := F0i
 clear F0i
 refine wp_seq (wp_region_lit (l_op (f_alloc F0 (At.nil w) ZI_48 rfl rfl rfl rfl rfl fun b1 _ w1 F2 S1 => ?_)))
 refine l_op (f_val F2 rfl rfl (r_assign rfl rfl) rfl fun _ F3 => ?_)
 have F4 : Fr 8 [(3, .string (⟨#[]⟩ : ByteArray)), (2, .pointer (some ⟨b1, 0, none⟩)), (0, .slice code_a code_n code_c)] _ := F3.cut rfl
 clear F0 F2 F3
 have T5 : Mv _ _ [bx b1 [.slice none 0 0, .slice none 0 0, .slice none 0 0] 48] _ := S1
 refine s_end (x_normal (wp_seq (wp_region_lit (l_op (f_mv F4 rfl rfl rfl rfl rfl fun _ F6 => ?_)))))
 refine l_op (f_call F6 CF_105 rfl rfl rfl rfl (lc (F6.ev 4 rfl) rfl) (spec_l04Prefix_c (code := code) (RdA.mv (Nat.succ_pos _) V_v_code T5) (by first | assumption | omega | (simp <;> omega))) ?_)
 rintro _ w7 ⟨d_7, r_7, r0_Sa_7, r0_Sn_7, r0_Sc_7, r0_Ra_7, r0_Rn_7, r0_Rc_7, r0_Wa_7, r0_Wn_7, r0_Wc_7, rfl, m7, v7_0, v7_1, v7_2, ok_r1_7, q7_0, q7_1⟩
 refine ⟨_, rfl, fun _ F8 => ?_⟩
 have S7 := At.frame0 T5.at' m7
 have V7_0 := Rd.got0 T5.at' (T5.kp.size) v7_0 S7
 obtain ⟨ln7_0, le7_0, mx7_0, ni7_0⟩ := Rd.inv V7_0
 have V7_1 := Rd.got0 T5.at' (T5.kp.size) v7_1 S7
 obtain ⟨ln7_1, le7_1, mx7_1, ni7_1⟩ := Rd.inv V7_1
 have V7_2 := Rd.got0 T5.at' (T5.kp.size) v7_2 S7
 obtain ⟨ln7_2, le7_2, mx7_2, ni7_2⟩ := Rd.inv V7_2
 clear m7 v7_0 v7_1 v7_2
 refine l_op (f_val (v := .agg #[.slice r0_Sa_7 r0_Sn_7 r0_Sc_7, .slice r0_Ra_7 r0_Rn_7 r0_Rc_7, .slice r0_Wa_7 r0_Wn_7 r0_Wc_7]) F8 rfl rfl (r_extract rfl (F8.ev 5 rfl) rfl) rfl fun _ F9 => ?_)
 refine l_op (f_val (v := .string r_7) F9 rfl rfl (r_extract rfl (F9.ev 5 rfl) rfl) rfl fun _ F10 => ?_)
 refine l_op (s_store S7.at' 0 TI_48 rfl rfl rfl rfl rfl (F10.ev 2 rfl) (F10.ev 6 rfl) rfl rfl rfl rfl rfl fun w11 S11 => ?_)
 refine l_op (f_as F10 rfl rfl rfl rfl rfl fun _ F12 => ?_)
 have F13 : Fr 8 [(3, .string r_7), (2, .pointer (some ⟨b1, 0, none⟩))] _ := F12.cut rfl
 clear F4 F6 F8 F9 F10 F12
 have T14 : Mv _ _ [bx b1 [.slice r0_Sa_7 r0_Sn_7 r0_Sc_7, .slice r0_Ra_7 r0_Rn_7 r0_Rc_7, .slice r0_Wa_7 r0_Wn_7 r0_Wc_7] 48] _ := S11
 refine s_end (x_normal (wp_ret ?_))
 refine x_done (v := .tuple #[.agg #[.slice r0_Sa_7 r0_Sn_7 r0_Sc_7, .slice r0_Ra_7 r0_Rn_7 r0_Rc_7, .slice r0_Wa_7 r0_Wn_7 r0_Wc_7], .string r_7]) F13 (results_2 Try.results61 (.cell (F13.ev 2 rfl) (run_loadVar' TI_48 _ [.slice r0_Sa_7 r0_Sn_7 r0_Sc_7, .slice r0_Ra_7 r0_Rn_7 r0_Rc_7, .slice r0_Wa_7 r0_Wn_7 r0_Wc_7] rfl (fun h => nomatch h) (At.cells T14.at' 0 rfl 0 [.slice r0_Sa_7 r0_Sn_7 r0_Sc_7, .slice r0_Ra_7 r0_Rn_7 r0_Rc_7, .slice r0_Wa_7 r0_Wn_7 r0_Wc_7] rfl))) (.tmp (F13.ev 3 rfl))) ?_
 exact ⟨d_7, r_7, r0_Sa_7, r0_Sn_7, r0_Sc_7, r0_Ra_7, r0_Rn_7, r0_Rc_7, r0_Wa_7, r0_Wn_7, r0_Wc_7, rfl, (Mv.pick (T5.trans (S7.trans T14)) [] rfl), (Rd.give (Rd.mv (Nat.succ_pos _) V7_0 T14)), (Rd.give (Rd.mv (Nat.succ_pos _) V7_1 T14)), (Rd.give (Rd.mv (Nat.succ_pos _) V7_2 T14)), ok_r1_7, by first | assumption | exact w64_ok _ | omega | (unfold i64ok; omega), by first | assumption | exact w64_ok _ | omega | (unfold i64ok; omega)⟩
theorem spec_DrawSameMach_c {w : World} {H : Nat → Prop} {code : List Nat} {code_a : Option Addr} {code_n code_c : Nat} (v_code : RdA 1 encB okB H w (.slice code_a code_n code_c) code) (p0 : code_n ≤ 1048576) :
    Calls Try.prog 64 #[.slice code_a code_n code_c] w fun e w' => ∃ (d : MachD), ∃ (d2 : MachD), ∃ (r0_Sa : Option Addr), ∃ (r0_Sn : Nat), ∃ (r0_Sc : Nat), ∃ (r0_Ra : Option Addr), ∃ (r0_Rn : Nat), ∃ (r0_Rc : Nat), ∃ (r0_Wa : Option Addr), ∃ (r0_Wn : Nat), ∃ (r0_Wc : Nat), ∃ (r1_Sa : Option Addr), ∃ (r1_Sn : Nat), ∃ (r1_Sc : Nat), ∃ (r1_Ra : Option Addr), ∃ (r1_Rn : Nat), ∃ (r1_Rc : Nat), ∃ (r1_Wa : Option Addr), ∃ (r1_Wn : Nat), ∃ (r1_Wc : Nat), e = .returned (.tuple #[.agg #[.slice r0_Sa r0_Sn r0_Sc, .slice r0_Ra r0_Rn r0_Rc, .slice r0_Wa r0_Wn r0_Wc], .agg #[.slice r1_Sa r1_Sn r1_Sc, .slice r1_Ra r1_Rn r1_Rc, .slice r1_Wa r1_Wn r1_Wc]]) ∧ Mv [] w [] w' ∧ Rd 2 encC okC (Fsh H w) w' (.slice r0_Sa r0_Sn r0_Sc) d.store ∧ Rd 1 encS okS (Fsh H w) w' (.slice r0_Ra r0_Rn r0_Rc) d.touch.reads ∧ Rd 1 encS okS (Fsh H w) w' (.slice r0_Wa r0_Wn r0_Wc) d.touch.writes ∧ Rd 2 encC okC (Fsh H w) w' (.slice r1_Sa r1_Sn r1_Sc) d2.store ∧ Rd 1 encS okS (Fsh H w) w' (.slice r1_Ra r1_Rn r1_Rc) d2.touch.reads ∧ Rd 1 encS okS (Fsh H w) w' (.slice r1_Wa r1_Wn r1_Wc) d2.touch.writes ∧ (d.store.length ≤ 100 ∧ d.touch.reads.length ≤ 100 ∧ d.touch.writes.length ≤ 100) ∧ (d2.store.length ≤ 100 ∧ d2.touch.reads.length ≤ 100 ∧ d2.touch.writes.length ≤ 100) := by
 have V_v_code : RdA 1 encB okB (V H w []) w (.slice code_a code_n code_c) code := RdA.start v_code (fun _ _ => fps_nil _)
 obtain ⟨ln_code, le_code, mx_code, ni_code⟩ := RdA.inv v_code
 refine calls_enter 18 Try.func64 rfl Try.ntmps64 (Nat.le_of_ble_eq_true rfl) (fun _ F0i => ?_)
 have F0 : Fr 18 [(0, .slice code_a code_n code_c)] _ := F0i
 clear F0i
 refine wp_seq (wp_region_lit (l_op (f_alloc F0 (At.nil w) ZI_48 rfl rfl rfl rfl rfl fun b1 _ w1 F2 S1 => ?_)))
 refine l_op (f_alloc F2 S1.at' ZI_48 rfl rfl rfl rfl rfl fun b3 _ w3 F4 S3 => ?_)
 have F5 : Fr 18 [(3, .pointer (some ⟨b3, 0, none⟩)), (2, .pointer (some ⟨b1, 0, none⟩)), (0, .slice code_a code_n code_c)] _ := F4.cut rfl
 clear F0 F2 F4
 have T6 : Mv _ _ [bx b3 [.slice none 0 0, .slice none 0 0, .slice none 0 0] 48, bx b1 [.slice none 0 0, .slice none 0 0, .slice none 0 0] 48] _ := S3
 refine s_end (x_normal (wp_seq (wp_region_lit (l_op (f_mv F5 rfl rfl rfl rfl rfl fun _ F7 => ?_)))))
 refine l_op (f_call F7 CF_75 rfl rfl rfl rfl (lc (F7.ev 6 rfl) rfl) (spec_l01New_c (code := code) (RdA.mv (Nat.succ_pos _) V_v_code (S1.trans T6)) (by first | assumption | omega | (simp <;> omega))) ?_)
 rintro _ w8 ⟨h2_8, r0_b_8, rfl, m8, q8_0⟩
 refine ⟨_, rfl, fun _ F9 => ?_⟩
 have S8 : Mv _ _ [bx r0_b_8 [.slice code_a code_n code_c, .int .i64 ((0 : Nat) : Int), .int .i64 h2_8] 108, bx b3 [.slice none 0 0, .slice none 0 0, .slice none 0 0] 48, bx b1 [.slice none 0 0, .slice none 0 0, .slice none 0 0] 48] _ := At.frame T6.at' [] rfl m8
 clear m8
 refine l_op (f_as F9 rfl rfl rfl rfl rfl fun _ F10 => ?_)
 have F11 : Fr 18 [(4, .pointer (some ⟨r0_b_8, 0, none⟩)), (3, .pointer (some ⟨b3, 0, none⟩)), (2, .pointer (some ⟨b1, 0, none⟩))] _ := F10.cut rfl
 clear F5 F7 F9 F10
 refine s_end (x_normal (wp_seq (wp_region_lit (l_op (f_mv F11 rfl rfl rfl rfl rfl fun _ F12 => ?_)))))
 refine l_op (f_call F12 CF_101 rfl rfl rfl rfl (lc (F12.ev 8 rfl) rfl) (spec_l04Mach_c (c := (⟨code, 0, h2_8⟩ : CurD)) (RdA.mv (Nat.succ_pos _) V_v_code (S1.trans (T6.trans S8))) (by unfold i64ok; (try dsimp only); omega) (by first | assumption | exact w64_ok _ | exact ⟨by omega, by omega⟩ | (unfold i64ok at *; omega)) (by first | assumption | omega | (simp <;> omega)) (At.pick (is := [0]) S8.at' rfl) (V_off (is := [0]))) ?_)
 rintro _ w13 ⟨i2_13, h2_13, d_13, r0_Sa_13, r0_Sn_13, r0_Sc_13, r0_Ra_13, r0_Rn_13, r0_Rc_13, r0_Wa_13, r0_Wn_13, r0_Wc_13, rfl, m13, v13_0, v13_1, v13_2, q13_0, q13_1, q13_2⟩
 refine ⟨_, rfl, fun _ F14 => ?_⟩
 have S13 : Mv _ _ [bx r0_b_8 [.slice code_a code_n code_c, .int .i64 ((i2_13 : Nat) : Int), .int .i64 h2_13] 108, bx b3 [.slice none 0 0, .slice none 0 0, .slice none 0 0] 48, bx b1 [.slice none 0 0, .slice none 0 0, .slice none 0 0] 48] _ := At.frame S8.at' [0] rfl m13
 have V13_0 : Rd 2 encC okC (V H w [bx r0_b_8 [.slice code_a code_n code_c, .int .i64 ((i2_13 : Nat) : Int), .int .i64 h2_13] 108, bx b3 [.slice none 0 0, .slice none 0 0, .slice none 0 0] 48, bx b1 [.slice none 0 0, .slice none 0 0, .slice none 0 0] 48]) w13 (.slice r0_Sa_13 r0_Sn_13 r0_Sc_13) d_13.store := Rd.gotP (New := [bx r0_b_8 [.slice code_a code_n code_c, .int .i64 ((i2_13 : Nat) : Int), .int .i64 h2_13] 108]) (is := [0]) S8.at' ((S1.trans (T6.trans S8)).kp.size) (fresh_nil (S1.trans (T6.trans S8))) v13_0
 obtain ⟨ln13_0, le13_0, mx13_0, ni13_0⟩ := Rd.inv V13_0
 have V13_1 : Rd 1 encS okS (V H w [bx r0_b_8 [.slice code_a code_n code_c, .int .i64 ((i2_13 : Nat) : Int), .int .i64 h2_13] 108, bx b3 [.slice none 0 0, .slice none 0 0, .slice none 0 0] 48, bx b1 [.slice none 0 0, .slice none 0 0, .slice none 0 0] 48]) w13 (.slice r0_Ra_13 r0_Rn_13 r0_Rc_13) d_13.touch.reads := Rd.gotP (New := [bx r0_b_8 [.slice code_a code_n code_c, .int .i64 ((i2_13 : Nat) : Int), .int .i64 h2_13] 108]) (is := [0]) S8.at' ((S1.trans (T6.trans S8)).kp.size) (fresh_nil (S1.trans (T6.trans S8))) v13_1
 obtain ⟨ln13_1, le13_1, mx13_1, ni13_1⟩ := Rd.inv V13_1
 have V13_2 : Rd 1 encS okS (V H w [bx r0_b_8 [.slice code_a code_n code_c, .int .i64 ((i2_13 : Nat) : Int), .int .i64 h2_13] 108, bx b3 [.slice none 0 0, .slice none 0 0, .slice none 0 0] 48, bx b1 [.slice none 0 0, .slice none 0 0, .slice none 0 0] 48]) w13 (.slice r0_Wa_13 r0_Wn_13 r0_Wc_13) d_13.touch.writes := Rd.gotP (New := [bx r0_b_8 [.slice code_a code_n code_c, .int .i64 ((i2_13 : Nat) : Int), .int .i64 h2_13] 108]) (is := [0]) S8.at' ((S1.trans (T6.trans S8)).kp.size) (fresh_nil (S1.trans (T6.trans S8))) v13_2
 obtain ⟨ln13_2, le13_2, mx13_2, ni13_2⟩ := Rd.inv V13_2
 clear m13 v13_0 v13_1 v13_2
 refine l_op (f_alloc F14 S13.at' ZI_48 rfl rfl rfl rfl rfl fun b15 _ w15 F16 S15 => ?_)
 refine l_op (s_store S15.at' 0 TI_48 rfl rfl rfl rfl rfl (F16.ev 5 rfl) (F16.ev 9 rfl) rfl rfl rfl rfl rfl fun w17 S17 => ?_)
 have F18 : Fr 18 [(5, .pointer (some ⟨b15, 0, none⟩)), (9, .agg #[.slice r0_Sa_13 r0_Sn_13 r0_Sc_13, .slice r0_Ra_13 r0_Rn_13 r0_Rc_13, .slice r0_Wa_13 r0_Wn_13 r0_Wc_13]), (4, .pointer (some ⟨r0_b_8, 0, none⟩)), (3, .pointer (some ⟨b3, 0, none⟩)), (2, .pointer (some ⟨b1, 0, none⟩))] _ := F16.cut rfl
 clear F11 F12 F14 F16
 have T19 : Mv _ _ [bx b15 [.slice r0_Sa_13 r0_Sn_13 r0_Sc_13, .slice r0_Ra_13 r0_Rn_13 r0_Rc_13, .slice r0_Wa_13 r0_Wn_13 r0_Wc_13] 48, bx r0_b_8 [.slice code_a code_n code_c, .int .i64 ((i2_13 : Nat) : Int), .int .i64 h2_13] 108, bx b3 [.slice none 0 0, .slice none 0 0, .slice none 0 0] 48, bx b1 [.slice none 0 0, .slice none 0 0, .slice none 0 0] 48] _ := S17
 refine s_end (x_normal (wp_seq (wp_seq (wp_region_lit (l_op (f_mv F18 rfl rfl rfl rfl rfl fun _ F20 => ?_))))))
 refine l_op (f_call F20 CF_115 rfl rfl rfl rfl (lc (F20.ev 10 rfl) (lc rfl rfl)) (spec_l01Once_c (c := (⟨code, i2_13, h2_13⟩ : CurD)) (n := 2) (RdA.mv (Nat.succ_pos _) V_v_code (S1.trans (T6.trans (S8.trans (S13.trans (S15.trans T19)))))) (by unfold i64ok; (try dsimp only); omega) (by first | assumption | exact w64_ok _ | exact ⟨by omega, by omega⟩ | (unfold i64ok at *; omega)) (by first | assumption | exact ⟨by omega, by omega⟩ | (unfold i64ok at *; omega)) (by first | assumption | omega | (simp <;> omega)) (At.pick (is := [1]) T19.at' rfl) (V_off (is := [1]))) ?_)
 rintro _ w21 ⟨i2_21, h2_21, r_21, rfl, m21, q21_0, q21_1⟩
 refine ⟨_, rfl, fun _ F22 => ?_⟩
 have S21 : Mv _ _ [bx r0_b_8 [.slice code_a code_n code_c, .int .i64 ((i2_21 : Nat) : Int), .int .i64 h2_21] 108, bx b15 [.slice r0_Sa_13 r0_Sn_13 r0_Sc_13, .slice r0_Ra_13 r0_Rn_13 r0_Rc_13, .slice r0_Wa_13 r0_Wn_13 r0_Wc_13] 48, bx b3 [.slice none 0 0, .slice none 0 0, .slice none 0 0] 48, bx b1 [.slice none 0 0, .slice none 0 0, .slice none 0 0] 48] _ := At.frame T19.at' [1] rfl m21
 clear m21
 have F23 : Fr 18 [(11, .bool r_21), (5, .pointer (some ⟨b15, 0, none⟩)), (4, .pointer (some ⟨r0_b_8, 0, none⟩)), (3, .pointer (some ⟨b3, 0, none⟩)), (2, .pointer (some ⟨b1, 0, none⟩))] _ := F22.cut rfl
 clear F18 F20 F22
 refine s_end (x_normal (x_condb (b := r_21) (F23.ev 11 rfl) (fun h24 => ?_) (fun h24 => ?_)))
 · skip
   refine wp_seq ?_
   refine x_draw (fun aZ wZ => ∃ (r0_Sa_29 : Option Addr), ∃ (r0_Sn_29 : Nat), ∃ (r0_Sc_29 : Nat), ∃ (r0_Ra_29 : Option Addr), ∃ (r0_Rn_29 : Nat), ∃ (r0_Rc_29 : Nat), ∃ (r0_Wa_29 : Option Addr), ∃ (r0_Wn_29 : Nat), ∃ (r0_Wc_29 : Nat), Fr 18 [(2, .pointer (some ⟨b1, 0, none⟩)), (3, .pointer (some ⟨b3, 0, none⟩))] aZ ∧ Mv [bx r0_b_8 [.slice code_a code_n code_c, .int .i64 ((i2_21 : Nat) : Int), .int .i64 h2_21] 108, bx b15 [.slice r0_Sa_13 r0_Sn_13 r0_Sc_13, .slice r0_Ra_13 r0_Rn_13 r0_Rc_13, .slice r0_Wa_13 r0_Wn_13 r0_Wc_13] 48, bx b3 [.slice none 0 0, .slice none 0 0, .slice none 0 0] 48, bx b1 [.slice none 0 0, .slice none 0 0, .slice none 0 0] 48] w21 [bx r0_b_8 [.slice code_a code_n code_c, .int .i64 ((i2_21 : Nat) : Int), .int .i64 h2_21] 108, bx b15 [.slice r0_Sa_13 r0_Sn_13 r0_Sc_13, .slice r0_Ra_13 r0_Rn_13 r0_Rc_13, .slice r0_Wa_13 r0_Wn_13 r0_Wc_13] 48, bx b3 [.slice r0_Sa_29 r0_Sn_29 r0_Sc_29, .slice r0_Ra_29 r0_Rn_29 r0_Rc_29, .slice r0_Wa_29 r0_Wn_29 r0_Wc_29] 48, bx b1 [.slice r0_Sa_13 r0_Sn_13 r0_Sc_13, .slice r0_Ra_13 r0_Rn_13 r0_Rc_13, .slice r0_Wa_13 r0_Wn_13 r0_Wc_13] 48] wZ ∧ Rd 2 encC okC (V H w [bx r0_b_8 [.slice code_a code_n code_c, .int .i64 ((i2_21 : Nat) : Int), .int .i64 h2_21] 108, bx b15 [.slice r0_Sa_13 r0_Sn_13 r0_Sc_13, .slice r0_Ra_13 r0_Rn_13 r0_Rc_13, .slice r0_Wa_13 r0_Wn_13 r0_Wc_13] 48, bx b3 [.slice r0_Sa_29 r0_Sn_29 r0_Sc_29, .slice r0_Ra_29 r0_Rn_29 r0_Rc_29, .slice r0_Wa_29 r0_Wn_29 r0_Wc_29] 48, bx b1 [.slice r0_Sa_13 r0_Sn_13 r0_Sc_13, .slice r0_Ra_13 r0_Rn_13 r0_Rc_13, .slice r0_Wa_13 r0_Wn_13 r0_Wc_13] 48]) wZ (.slice r0_Sa_29 r0_Sn_29 r0_Sc_29) d_13.store ∧ Rd 1 encS okS (V H w [bx r0_b_8 [.slice code_a code_n code_c, .int .i64 ((i2_21 : Nat) : Int), .int .i64 h2_21] 108, bx b15 [.slice r0_Sa_13 r0_Sn_13 r0_Sc_13, .slice r0_Ra_13 r0_Rn_13 r0_Rc_13, .slice r0_Wa_13 r0_Wn_13 r0_Wc_13] 48, bx b3 [.slice r0_Sa_29 r0_Sn_29 r0_Sc_29, .slice r0_Ra_29 r0_Rn_29 r0_Rc_29, .slice r0_Wa_29 r0_Wn_29 r0_Wc_29] 48, bx b1 [.slice r0_Sa_13 r0_Sn_13 r0_Sc_13, .slice r0_Ra_13 r0_Rn_13 r0_Rc_13, .slice r0_Wa_13 r0_Wn_13 r0_Wc_13] 48]) wZ (.slice r0_Ra_29 r0_Rn_29 r0_Rc_29) d_13.touch.reads ∧ Rd 1 encS okS (V H w [bx r0_b_8 [.slice code_a code_n code_c, .int .i64 ((i2_21 : Nat) : Int), .int .i64 h2_21] 108, bx b15 [.slice r0_Sa_13 r0_Sn_13 r0_Sc_13, .slice r0_Ra_13 r0_Rn_13 r0_Rc_13, .slice r0_Wa_13 r0_Wn_13 r0_Wc_13] 48, bx b3 [.slice r0_Sa_29 r0_Sn_29 r0_Sc_29, .slice r0_Ra_29 r0_Rn_29 r0_Rc_29, .slice r0_Wa_29 r0_Wn_29 r0_Wc_29] 48, bx b1 [.slice r0_Sa_13 r0_Sn_13 r0_Sc_13, .slice r0_Ra_13 r0_Rn_13 r0_Rc_13, .slice r0_Wa_13 r0_Wn_13 r0_Wc_13] 48]) wZ (.slice r0_Wa_29 r0_Wn_29 r0_Wc_29) d_13.touch.writes) [bx b15 [.slice r0_Sa_13 r0_Sn_13 r0_Sc_13, .slice r0_Ra_13 r0_Rn_13 r0_Rc_13, .slice r0_Wa_13 r0_Wn_13 r0_Wc_13] 48] mixed S21.at' (listed := #[false, false, false, false, false]) rfl (fun w26 S26 => ?_) [1] rfl ?_
   · skip
     refine g_take (v := .agg #[.slice r0_Sa_13 r0_Sn_13 r0_Sc_13, .slice r0_Ra_13 r0_Rn_13 r0_Rc_13, .slice r0_Wa_13 r0_Wn_13 r0_Wc_13]) F23 rfl (i := 0) (listed' := #[true, false, false, false, false]) rfl (by kernel_rfl) (by kernel_rfl) (by kernel_rfl) (fun _ _ _ h => h) (Sd.of (Mv.refl S26.at') [1] rfl) rfl rfl rfl rfl (fun _ hz => (r_loadX (hz.bx 0 rfl) TI_48 rfl (F23.ev 5 rfl) rfl rfl (fun h => nomatch h) rfl)) fun _ F27 => ?_
     refine g_take (v := .agg #[.slice r0_Sa_13 r0_Sn_13 r0_Sc_13, .slice r0_Ra_13 r0_Rn_13 r0_Rc_13, .slice r0_Wa_13 r0_Wn_13 r0_Wc_13]) F27 rfl (i := 1) (listed' := #[true, true, false, false, false]) rfl (by kernel_rfl) (by kernel_rfl) (by kernel_rfl) (fun _ _ _ h => h) (Sd.of (Mv.refl S26.at') [1] rfl) rfl rfl rfl rfl (fun _ hz => (r_loadX (hz.bx 0 rfl) TI_48 rfl (F27.ev 5 rfl) rfl rfl (fun h => nomatch h) rfl)) fun _ F28 => ?_
     refine d_one (i := 2) (listed' := #[true, true, true, false, false]) rfl (by kernel_rfl) rfl rfl ?_
     refine f_call F28 CF_91 rfl rfl rfl rfl (lc (F28.ev 13 rfl) rfl) (spec_l04Copy_c (m := d_13) (Rd.mv (Nat.succ_pos _) V13_0 (S15.trans (T19.trans (S21.trans S26)))) (Rd.mv (Nat.succ_pos _) V13_1 (S15.trans (T19.trans (S21.trans S26)))) (Rd.mv (Nat.succ_pos _) V13_2 (S15.trans (T19.trans (S21.trans S26)))) (by first | assumption | omega | (simp <;> omega)) (by first | assumption | omega | (simp <;> omega)) (by first | assumption | omega | (simp <;> omega))) ?_
     rintro _ w29 ⟨r0_Sa_29, r0_Sn_29, r0_Sc_29, r0_Ra_29, r0_Rn_29, r0_Rc_29, r0_Wa_29, r0_Wn_29, r0_Wc_29, rfl, m29, v29_0, v29_1, v29_2⟩
     refine ⟨_, rfl, fun _ F30 => ?_⟩
     have S29 := At.frame0 S26.at' m29
     have V29_0 := Rd.got0 S26.at' ((S1.trans (T6.trans (S8.trans (S13.trans (S15.trans (T19.trans (S21.trans S26))))))).kp.size) v29_0 S29
     obtain ⟨ln29_0, le29_0, mx29_0, ni29_0⟩ := Rd.inv V29_0
     have V29_1 := Rd.got0 S26.at' ((S1.trans (T6.trans (S8.trans (S13.trans (S15.trans (T19.trans (S21.trans S26))))))).kp.size) v29_1 S29
     obtain ⟨ln29_1, le29_1, mx29_1, ni29_1⟩ := Rd.inv V29_1
     have V29_2 := Rd.got0 S26.at' ((S1.trans (T6.trans (S8.trans (S13.trans (S15.trans (T19.trans (S21.trans S26))))))).kp.size) v29_2 S29
     obtain ⟨ln29_2, le29_2, mx29_2, ni29_2⟩ := Rd.inv V29_2
     clear m29 v29_0 v29_1 v29_2
     refine ⟨Sd.of S29 [1] rfl, ?_⟩
     refine d_one (i := 3) (listed' := #[true, true, true, true, false]) rfl (by kernel_rfl) rfl rfl ?_
     refine s_store S29.at' 3 TI_48 rfl rfl rfl rfl rfl (F30.ev 2 rfl) (F30.ev 12 rfl) rfl rfl rfl rfl rfl fun w31 S31 => ?_
     refine ⟨Sd.of (S29.trans S31) [2] rfl, ?_⟩
     refine d_one (i := 4) (listed' := #[true, true, true, true, true]) rfl (by kernel_rfl) rfl rfl ?_
     refine s_store S31.at' 3 TI_48 rfl rfl rfl rfl rfl (F30.ev 3 rfl) (F30.ev 14 rfl) rfl rfl rfl rfl rfl fun w32 S32 => ?_
     refine ⟨Sd.of (S29.trans (S31.trans S32)) [3] rfl, ?_⟩
     refine wpAnyH_done (by kernel_rfl) (x_normal ?_) _
     exact ⟨r0_Sa_29, r0_Sn_29, r0_Sc_29, r0_Ra_29, r0_Rn_29, r0_Rc_29, r0_Wa_29, r0_Wn_29, r0_Wc_29, F30.cut rfl, ((S26.trans (S29.trans (S31.trans S32))).pick [2, 3, 0, 1] rfl), (Rd.mv (Nat.succ_pos _) (Rd.mv (Nat.succ_pos _) V29_0 (S31.trans S32)) (Mv.pick (Mv.refl S32.at') [2, 3, 0, 1] rfl)), (Rd.mv (Nat.succ_pos _) (Rd.mv (Nat.succ_pos _) V29_1 (S31.trans S32)) (Mv.pick (Mv.refl S32.at') [2, 3, 0, 1] rfl)), (Rd.mv (Nat.succ_pos _) (Rd.mv (Nat.succ_pos _) V29_2 (S31.trans S32)) (Mv.pick (Mv.refl S32.at') [2, 3, 0, 1] rfl))⟩
   · rintro a33 w33 ⟨r0_Sa_29, r0_Sn_29, r0_Sc_29, r0_Ra_29, r0_Rn_29, r0_Rc_29, r0_Wa_29, r0_Wn_29, r0_Wc_29, F33, S33, V33_0, V33_1, V33_2⟩
     obtain ⟨ln33_0, le33_0, mx33_0, ni33_0⟩ := Rd.inv V33_0
     obtain ⟨ln33_1, le33_1, mx33_1, ni33_1⟩ := Rd.inv V33_1
     obtain ⟨ln33_2, le33_2, mx33_2, ni33_2⟩ := Rd.inv V33_2
     refine x_normal (wp_ret (x_then_ret ?_))
     refine x_done (v := .tuple #[.agg #[.slice r0_Sa_13 r0_Sn_13 r0_Sc_13, .slice r0_Ra_13 r0_Rn_13 r0_Rc_13, .slice r0_Wa_13 r0_Wn_13 r0_Wc_13], .agg #[.slice r0_Sa_29 r0_Sn_29 r0_Sc_29, .slice r0_Ra_29 r0_Rn_29 r0_Rc_29, .slice r0_Wa_29 r0_Wn_29 r0_Wc_29]]) F33 (results_2 Try.results64 (.cell (F33.ev 2 rfl) (run_loadVar' TI_48 _ [.slice r0_Sa_13 r0_Sn_13 r0_Sc_13, .slice r0_Ra_13 r0_Rn_13 r0_Rc_13, .slice r0_Wa_13 r0_Wn_13 r0_Wc_13] rfl (fun h => nomatch h) (At.cells S33.at' 3 rfl 0 [.slice r0_Sa_13 r0_Sn_13 r0_Sc_13, .slice r0_Ra_13 r0_Rn_13 r0_Rc_13, .slice r0_Wa_13 r0_Wn_13 r0_Wc_13] rfl))) (.cell (F33.ev 3 rfl) (run_loadVar' TI_48 _ [.slice r0_Sa_29 r0_Sn_29 r0_Sc_29, .slice r0_Ra_29 r0_Rn_29 r0_Rc_29, .slice r0_Wa_29 r0_Wn_29 r0_Wc_29] rfl (fun h => nomatch h) (At.cells S33.at' 2 rfl 0 [.slice r0_Sa_29 r0_Sn_29 r0_Sc_29, .slice r0_Ra_29 r0_Rn_29 r0_Rc_29, .slice r0_Wa_29 r0_Wn_29 r0_Wc_29] rfl)))) ?_
     exact ⟨d_13, d_13, r0_Sa_13, r0_Sn_13, r0_Sc_13, r0_Ra_13, r0_Rn_13, r0_Rc_13, r0_Wa_13, r0_Wn_13, r0_Wc_13, r0_Sa_29, r0_Sn_29, r0_Sc_29, r0_Ra_29, r0_Rn_29, r0_Rc_29, r0_Wa_29, r0_Wn_29, r0_Wc_29, rfl, (Mv.pick (S1.trans (T6.trans (S8.trans (S13.trans (S15.trans (T19.trans (S21.trans S33))))))) [] rfl), (Rd.give (Rd.mv (Nat.succ_pos _) V13_0 (S15.trans (T19.trans (S21.trans S33))))), (Rd.give (Rd.mv (Nat.succ_pos _) V13_1 (S15.trans (T19.trans (S21.trans S33))))), (Rd.give (Rd.mv (Nat.succ_pos _) V13_2 (S15.trans (T19.trans (S21.trans S33))))), (Rd.give V33_0), (Rd.give V33_1), (Rd.give V33_2), by first | assumption | exact w64_ok _ | omega | (unfold i64ok; omega), by first | assumption | exact w64_ok _ | omega | (unfold i64ok; omega)⟩
 · skip
   refine wp_skip (x_normal (wp_seq ?_))
   refine x_draw (fun aZ wZ => ∃ (i2_38 : Nat), ∃ (h2_38 : Int), ∃ (d_38 : MachD), ∃ (r0_Sa_38 : Option Addr), ∃ (r0_Sn_38 : Nat), ∃ (r0_Sc_38 : Nat), ∃ (r0_Ra_38 : Option Addr), ∃ (r0_Rn_38 : Nat), ∃ (r0_Rc_38 : Nat), ∃ (r0_Wa_38 : Option Addr), ∃ (r0_Wn_38 : Nat), ∃ (r0_Wc_38 : Nat), Fr 18 [(2, .pointer (some ⟨b1, 0, none⟩)), (3, .pointer (some ⟨b3, 0, none⟩))] aZ ∧ Mv [bx r0_b_8 [.slice code_a code_n code_c, .int .i64 ((i2_21 : Nat) : Int), .int .i64 h2_21] 108, bx b15 [.slice r0_Sa_13 r0_Sn_13 r0_Sc_13, .slice r0_Ra_13 r0_Rn_13 r0_Rc_13, .slice r0_Wa_13 r0_Wn_13 r0_Wc_13] 48, bx b3 [.slice none 0 0, .slice none 0 0, .slice none 0 0] 48, bx b1 [.slice none 0 0, .slice none 0 0, .slice none 0 0] 48] w21 [bx r0_b_8 [.slice code_a code_n code_c, .int .i64 ((i2_38 : Nat) : Int), .int .i64 h2_38] 108, bx b15 [.slice r0_Sa_13 r0_Sn_13 r0_Sc_13, .slice r0_Ra_13 r0_Rn_13 r0_Rc_13, .slice r0_Wa_13 r0_Wn_13 r0_Wc_13] 48, bx b3 [.slice r0_Sa_38 r0_Sn_38 r0_Sc_38, .slice r0_Ra_38 r0_Rn_38 r0_Rc_38, .slice r0_Wa_38 r0_Wn_38 r0_Wc_38] 48, bx b1 [.slice r0_Sa_13 r0_Sn_13 r0_Sc_13, .slice r0_Ra_13 r0_Rn_13 r0_Rc_13, .slice r0_Wa_13 r0_Wn_13 r0_Wc_13] 48] wZ ∧ Rd 2 encC okC (V H w [bx r0_b_8 [.slice code_a code_n code_c, .int .i64 ((i2_38 : Nat) : Int), .int .i64 h2_38] 108, bx b15 [.slice r0_Sa_13 r0_Sn_13 r0_Sc_13, .slice r0_Ra_13 r0_Rn_13 r0_Rc_13, .slice r0_Wa_13 r0_Wn_13 r0_Wc_13] 48, bx b3 [.slice r0_Sa_38 r0_Sn_38 r0_Sc_38, .slice r0_Ra_38 r0_Rn_38 r0_Rc_38, .slice r0_Wa_38 r0_Wn_38 r0_Wc_38] 48, bx b1 [.slice r0_Sa_13 r0_Sn_13 r0_Sc_13, .slice r0_Ra_13 r0_Rn_13 r0_Rc_13, .slice r0_Wa_13 r0_Wn_13 r0_Wc_13] 48]) wZ (.slice r0_Sa_38 r0_Sn_38 r0_Sc_38) d_38.store ∧ Rd 1 encS okS (V H w [bx r0_b_8 [.slice code_a code_n code_c, .int .i64 ((i2_38 : Nat) : Int), .int .i64 h2_38] 108, bx b15 [.slice r0_Sa_13 r0_Sn_13 r0_Sc_13, .slice r0_Ra_13 r0_Rn_13 r0_Rc_13, .slice r0_Wa_13 r0_Wn_13 r0_Wc_13] 48, bx b3 [.slice r0_Sa_38 r0_Sn_38 r0_Sc_38, .slice r0_Ra_38 r0_Rn_38 r0_Rc_38, .slice r0_Wa_38 r0_Wn_38 r0_Wc_38] 48, bx b1 [.slice r0_Sa_13 r0_Sn_13 r0_Sc_13, .slice r0_Ra_13 r0_Rn_13 r0_Rc_13, .slice r0_Wa_13 r0_Wn_13 r0_Wc_13] 48]) wZ (.slice r0_Ra_38 r0_Rn_38 r0_Rc_38) d_38.touch.reads ∧ Rd 1 encS okS (V H w [bx r0_b_8 [.slice code_a code_n code_c, .int .i64 ((i2_38 : Nat) : Int), .int .i64 h2_38] 108, bx b15 [.slice r0_Sa_13 r0_Sn_13 r0_Sc_13, .slice r0_Ra_13 r0_Rn_13 r0_Rc_13, .slice r0_Wa_13 r0_Wn_13 r0_Wc_13] 48, bx b3 [.slice r0_Sa_38 r0_Sn_38 r0_Sc_38, .slice r0_Ra_38 r0_Rn_38 r0_Rc_38, .slice r0_Wa_38 r0_Wn_38 r0_Wc_38] 48, bx b1 [.slice r0_Sa_13 r0_Sn_13 r0_Sc_13, .slice r0_Ra_13 r0_Rn_13 r0_Rc_13, .slice r0_Wa_13 r0_Wn_13 r0_Wc_13] 48]) wZ (.slice r0_Wa_38 r0_Wn_38 r0_Wc_38) d_38.touch.writes ∧ (i2_38 ≤ code_n) ∧ (i64ok h2_38) ∧ ((d_38.store.length ≤ 100 ∧ d_38.touch.reads.length ≤ 100 ∧ d_38.touch.writes.length ≤ 100))) [bx b15 [.slice r0_Sa_13 r0_Sn_13 r0_Sc_13, .slice r0_Ra_13 r0_Rn_13 r0_Rc_13, .slice r0_Wa_13 r0_Wn_13 r0_Wc_13] 48] mixed S21.at' (listed := #[false, false, false, false, false]) rfl (fun w35 S35 => ?_) [1] rfl ?_
   · skip
     refine g_take (v := .agg #[.slice r0_Sa_13 r0_Sn_13 r0_Sc_13, .slice r0_Ra_13 r0_Rn_13 r0_Rc_13, .slice r0_Wa_13 r0_Wn_13 r0_Wc_13]) F23 rfl (i := 0) (listed' := #[true, false, false, false, false]) rfl (by kernel_rfl) (by kernel_rfl) (by kernel_rfl) (fun _ _ _ h => h) (Sd.of (Mv.refl S35.at') [1] rfl) rfl rfl rfl rfl (fun _ hz => (r_loadX (hz.bx 0 rfl) TI_48 rfl (F23.ev 5 rfl) rfl rfl (fun h => nomatch h) rfl)) fun _ F36 => ?_
     refine g_take F36 rfl (i := 1) (listed' := #[true, true, false, false, false]) rfl (by kernel_rfl) (by kernel_rfl) (by kernel_rfl) (fun _ _ _ h => h) (Sd.of (Mv.refl S35.at') [1] rfl) rfl rfl rfl rfl (fun _ hz => (r_move rfl (F36.ev 4 rfl))) fun _ F37 => ?_
     refine d_one (i := 2) (listed' := #[true, true, true, false, false]) rfl (by kernel_rfl) rfl rfl ?_
     refine f_call F37 CF_101 rfl rfl rfl rfl (lc (F37.ev 16 rfl) rfl) (spec_l04Mach_c (c := (⟨code, i2_21, h2_21⟩ : CurD)) (RdA.mv (Nat.succ_pos _) V_v_code (S1.trans (T6.trans (S8.trans (S13.trans (S15.trans (T19.trans (S21.trans S35)))))))) (by unfold i64ok; (try dsimp only); omega) (by first | assumption | exact w64_ok _ | exact ⟨by omega, by omega⟩ | (unfold i64ok at *; omega)) (by first | assumption | omega | (simp <;> omega)) (At.pick (is := [0]) S35.at' rfl) (V_off (is := [0]))) ?_
     rintro _ w38 ⟨i2_38, h2_38, d_38, r0_Sa_38, r0_Sn_38, r0_Sc_38, r0_Ra_38, r0_Rn_38, r0_Rc_38, r0_Wa_38, r0_Wn_38, r0_Wc_38, rfl, m38, v38_0, v38_1, v38_2, q38_0, q38_1, q38_2⟩
     refine ⟨_, rfl, fun _ F39 => ?_⟩
     have S38 : Mv _ _ [bx r0_b_8 [.slice code_a code_n code_c, .int .i64 ((i2_38 : Nat) : Int), .int .i64 h2_38] 108, bx b15 [.slice r0_Sa_13 r0_Sn_13 r0_Sc_13, .slice r0_Ra_13 r0_Rn_13 r0_Rc_13, .slice r0_Wa_13 r0_Wn_13 r0_Wc_13] 48, bx b3 [.slice none 0 0, .slice none 0 0, .slice none 0 0] 48, bx b1 [.slice none 0 0, .slice none 0 0, .slice none 0 0] 48] _ := At.frame S35.at' [0] rfl m38
     have V38_0 : Rd 2 encC okC (V H w [bx r0_b_8 [.slice code_a code_n code_c, .int .i64 ((i2_38 : Nat) : Int), .int .i64 h2_38] 108, bx b15 [.slice r0_Sa_13 r0_Sn_13 r0_Sc_13, .slice r0_Ra_13 r0_Rn_13 r0_Rc_13, .slice r0_Wa_13 r0_Wn_13 r0_Wc_13] 48, bx b3 [.slice none 0 0, .slice none 0 0, .slice none 0 0] 48, bx b1 [.slice none 0 0, .slice none 0 0, .slice none 0 0] 48]) w38 (.slice r0_Sa_38 r0_Sn_38 r0_Sc_38) d_38.store := Rd.gotP (New := [bx r0_b_8 [.slice code_a code_n code_c, .int .i64 ((i2_38 : Nat) : Int), .int .i64 h2_38] 108]) (is := [0]) S35.at' ((S1.trans (T6.trans (S8.trans (S13.trans (S15.trans (T19.trans (S21.trans S35))))))).kp.size) (fresh_nil (S1.trans (T6.trans (S8.trans (S13.trans (S15.trans (T19.trans (S21.trans S35)))))))) v38_0
     obtain ⟨ln38_0, le38_0, mx38_0, ni38_0⟩ := Rd.inv V38_0
     have V38_1 : Rd 1 encS okS (V H w [bx r0_b_8 [.slice code_a code_n code_c, .int .i64 ((i2_38 : Nat) : Int), .int .i64 h2_38] 108, bx b15 [.slice r0_Sa_13 r0_Sn_13 r0_Sc_13, .slice r0_Ra_13 r0_Rn_13 r0_Rc_13, .slice r0_Wa_13 r0_Wn_13 r0_Wc_13] 48, bx b3 [.slice none 0 0, .slice none 0 0, .slice none 0 0] 48, bx b1 [.slice none 0 0, .slice none 0 0, .slice none 0 0] 48]) w38 (.slice r0_Ra_38 r0_Rn_38 r0_Rc_38) d_38.touch.reads := Rd.gotP (New := [bx r0_b_8 [.slice code_a code_n code_c, .int .i64 ((i2_38 : Nat) : Int), .int .i64 h2_38] 108]) (is := [0]) S35.at' ((S1.trans (T6.trans (S8.trans (S13.trans (S15.trans (T19.trans (S21.trans S35))))))).kp.size) (fresh_nil (S1.trans (T6.trans (S8.trans (S13.trans (S15.trans (T19.trans (S21.trans S35)))))))) v38_1
     obtain ⟨ln38_1, le38_1, mx38_1, ni38_1⟩ := Rd.inv V38_1
     have V38_2 : Rd 1 encS okS (V H w [bx r0_b_8 [.slice code_a code_n code_c, .int .i64 ((i2_38 : Nat) : Int), .int .i64 h2_38] 108, bx b15 [.slice r0_Sa_13 r0_Sn_13 r0_Sc_13, .slice r0_Ra_13 r0_Rn_13 r0_Rc_13, .slice r0_Wa_13 r0_Wn_13 r0_Wc_13] 48, bx b3 [.slice none 0 0, .slice none 0 0, .slice none 0 0] 48, bx b1 [.slice none 0 0, .slice none 0 0, .slice none 0 0] 48]) w38 (.slice r0_Wa_38 r0_Wn_38 r0_Wc_38) d_38.touch.writes := Rd.gotP (New := [bx r0_b_8 [.slice code_a code_n code_c, .int .i64 ((i2_38 : Nat) : Int), .int .i64 h2_38] 108]) (is := [0]) S35.at' ((S1.trans (T6.trans (S8.trans (S13.trans (S15.trans (T19.trans (S21.trans S35))))))).kp.size) (fresh_nil (S1.trans (T6.trans (S8.trans (S13.trans (S15.trans (T19.trans (S21.trans S35)))))))) v38_2
     obtain ⟨ln38_2, le38_2, mx38_2, ni38_2⟩ := Rd.inv V38_2
     clear m38 v38_0 v38_1 v38_2
     refine ⟨Sd.of S38 [1] rfl, ?_⟩
     refine d_one (i := 3) (listed' := #[true, true, true, true, false]) rfl (by kernel_rfl) rfl rfl ?_
     refine s_store S38.at' 3 TI_48 rfl rfl rfl rfl rfl (F39.ev 2 rfl) (F39.ev 15 rfl) rfl rfl rfl rfl rfl fun w40 S40 => ?_
     refine ⟨Sd.of (S38.trans S40) [2] rfl, ?_⟩
     refine d_one (i := 4) (listed' := #[true, true, true, true, true]) rfl (by kernel_rfl) rfl rfl ?_
     refine s_store S40.at' 3 TI_48 rfl rfl rfl rfl rfl (F39.ev 3 rfl) (F39.ev 17 rfl) rfl rfl rfl rfl rfl fun w41 S41 => ?_
     refine ⟨Sd.of (S38.trans (S40.trans S41)) [3] rfl, ?_⟩
     refine wpAnyH_done (by kernel_rfl) (x_normal ?_) _
     exact ⟨i2_38, h2_38, d_38, r0_Sa_38, r0_Sn_38, r0_Sc_38, r0_Ra_38, r0_Rn_38, r0_Rc_38, r0_Wa_38, r0_Wn_38, r0_Wc_38, F39.cut rfl, ((S35.trans (S38.trans (S40.trans S41))).pick [2, 3, 0, 1] rfl), (Rd.mv (Nat.succ_pos _) (Rd.mv (Nat.succ_pos _) V38_0 (S40.trans S41)) (Mv.pick (Mv.refl S41.at') [2, 3, 0, 1] rfl)), (Rd.mv (Nat.succ_pos _) (Rd.mv (Nat.succ_pos _) V38_1 (S40.trans S41)) (Mv.pick (Mv.refl S41.at') [2, 3, 0, 1] rfl)), (Rd.mv (Nat.succ_pos _) (Rd.mv (Nat.succ_pos _) V38_2 (S40.trans S41)) (Mv.pick (Mv.refl S41.at') [2, 3, 0, 1] rfl)), q38_0, q38_1, q38_2⟩
   · rintro a42 w42 ⟨i2_38, h2_38, d_38, r0_Sa_38, r0_Sn_38, r0_Sc_38, r0_Ra_38, r0_Rn_38, r0_Rc_38, r0_Wa_38, r0_Wn_38, r0_Wc_38, F42, S42, V42_0, V42_1, V42_2, kp42_0, kp42_1, kp42_2⟩
     obtain ⟨ln42_0, le42_0, mx42_0, ni42_0⟩ := Rd.inv V42_0
     obtain ⟨ln42_1, le42_1, mx42_1, ni42_1⟩ := Rd.inv V42_1
     obtain ⟨ln42_2, le42_2, mx42_2, ni42_2⟩ := Rd.inv V42_2
     refine x_normal (wp_ret ?_)
     refine x_done (v := .tuple #[.agg #[.slice r0_Sa_13 r0_Sn_13 r0_Sc_13, .slice r0_Ra_13 r0_Rn_13 r0_Rc_13, .slice r0_Wa_13 r0_Wn_13 r0_Wc_13], .agg #[.slice r0_Sa_38 r0_Sn_38 r0_Sc_38, .slice r0_Ra_38 r0_Rn_38 r0_Rc_38, .slice r0_Wa_38 r0_Wn_38 r0_Wc_38]]) F42 (results_2 Try.results64 (.cell (F42.ev 2 rfl) (run_loadVar' TI_48 _ [.slice r0_Sa_13 r0_Sn_13 r0_Sc_13, .slice r0_Ra_13 r0_Rn_13 r0_Rc_13, .slice r0_Wa_13 r0_Wn_13 r0_Wc_13] rfl (fun h => nomatch h) (At.cells S42.at' 3 rfl 0 [.slice r0_Sa_13 r0_Sn_13 r0_Sc_13, .slice r0_Ra_13 r0_Rn_13 r0_Rc_13, .slice r0_Wa_13 r0_Wn_13 r0_Wc_13] rfl))) (.cell (F42.ev 3 rfl) (run_loadVar' TI_48 _ [.slice r0_Sa_38 r0_Sn_38 r0_Sc_38, .slice r0_Ra_38 r0_Rn_38 r0_Rc_38, .slice r0_Wa_38 r0_Wn_38 r0_Wc_38] rfl (fun h => nomatch h) (At.cells S42.at' 2 rfl 0 [.slice r0_Sa_38 r0_Sn_38 r0_Sc_38, .slice r0_Ra_38 r0_Rn_38 r0_Rc_38, .slice r0_Wa_38 r0_Wn_38 r0_Wc_38] rfl)))) ?_
     exact ⟨d_13, d_38, r0_Sa_13, r0_Sn_13, r0_Sc_13, r0_Ra_13, r0_Rn_13, r0_Rc_13, r0_Wa_13, r0_Wn_13, r0_Wc_13, r0_Sa_38, r0_Sn_38, r0_Sc_38, r0_Ra_38, r0_Rn_38, r0_Rc_38, r0_Wa_38, r0_Wn_38, r0_Wc_38, rfl, (Mv.pick (S1.trans (T6.trans (S8.trans (S13.trans (S15.trans (T19.trans (S21.trans S42))))))) [] rfl), (Rd.give (Rd.mv (Nat.succ_pos _) V13_0 (S15.trans (T19.trans (S21.trans S42))))), (Rd.give (Rd.mv (Nat.succ_pos _) V13_1 (S15.trans (T19.trans (S21.trans S42))))), (Rd.give (Rd.mv (Nat.succ_pos _) V13_2 (S15.trans (T19.trans (S21.trans S42))))), (Rd.give V42_0), (Rd.give V42_1), (Rd.give V42_2), by first | assumption | exact w64_ok _ | omega | (unfold i64ok; omega), by first | assumption | exact w64_ok _ | omega | (unfold i64ok; omega)⟩
theorem spec_DrawMachOf_c {w : World} {H : Nat → Prop} {code : List Nat} {code_a : Option Addr} {code_n code_c : Nat} (v_code : RdA 1 encB okB H w (.slice code_a code_n code_c) code) (p0 : code_n ≤ 1048576) :
    Calls Try.prog 63 #[.slice code_a code_n code_c] w fun e w' => ∃ (l : List CellD), ∃ (r0_a : Option Addr), ∃ (r0_n : Nat), ∃ (r0_c : Nat), e = .returned (.slice r0_a r0_n r0_c) ∧ Mv [] w [] w' ∧ Rd 2 encC okC (Fsh H w) w' (.slice r0_a r0_n r0_c) l ∧ l.length ≤ 9 := by
 have V_v_code : RdA 1 encB okB (V H w []) w (.slice code_a code_n code_c) code := RdA.start v_code (fun _ _ => fps_nil _)
 obtain ⟨ln_code, le_code, mx_code, ni_code⟩ := RdA.inv v_code
 refine calls_enter 6 Try.func63 rfl Try.ntmps63 (Nat.le_of_ble_eq_true rfl) (fun _ F0i => ?_)
 have F0 : Fr 6 [(0, .slice code_a code_n code_c)] _ := F0i
 clear F0i
 refine wp_seq (wp_region_lit (l_op (f_val F0 rfl rfl (r_assign rfl rfl) rfl fun _ F1 => ?_)))
 have F2 : Fr 6 [(2, .slice none 0 0), (0, .slice code_a code_n code_c)] _ := F1.cut rfl
 clear F0 F1
 refine s_end (x_normal (wp_seq (wp_region_lit (l_op (f_mv F2 rfl rfl rfl rfl rfl fun _ F3 => ?_)))))
 refine l_op (f_call F3 CF_75 rfl rfl rfl rfl (lc (F3.ev 3 rfl) rfl) (spec_l01New_c (code := code) V_v_code (by first | assumption | omega | (simp <;> omega))) ?_)
 rintro _ w4 ⟨h2_4, r0_b_4, rfl, m4, q4_0⟩
 refine ⟨_, rfl, fun _ F5 => ?_⟩
 have S4 : Mv _ _ [bx r0_b_4 [.slice code_a code_n code_c, .int .i64 ((0 : Nat) : Int), .int .i64 h2_4] 108] _ := At.frame (At.nil w) [] rfl m4
 clear m4
 refine l_op (f_call F5 CF_114 rfl rfl rfl rfl (lc (F5.ev 4 rfl) rfl) (spec_l02Any_c (c := (⟨code, 0, h2_4⟩ : CurD)) (RdA.mv (Nat.succ_pos _) V_v_code S4) (by unfold i64ok; (try dsimp only); omega) (by first | assumption | exact w64_ok _ | exact ⟨by omega, by omega⟩ | (unfold i64ok at *; omega)) (by first | assumption | omega | (simp <;> omega)) (At.pick (is := [0]) S4.at' rfl) (V_off (is := [0]))) ?_)
 rintro _ w6 ⟨i2_6, h2_6, l_6, r0_a_6, r0_n_6, r0_c_6, rfl, m6, q6_0, q6_1, q6_2⟩
 refine ⟨_, rfl, fun _ F7 => ?_⟩
 have S6 : Mv _ _ [ow 98 2 encC okC (.slice r0_a_6 r0_n_6 r0_c_6) l_6, bx r0_b_4 [.slice code_a code_n code_c, .int .i64 ((i2_6 : Nat) : Int), .int .i64 h2_6] 108] _ := At.frame S4.at' [0] rfl m6
 obtain ⟨lo6_0, lp6_0, lq6_0⟩ := At.ownInv S6.at' ET_46.hk 0 rfl
 clear m6
 refine l_op (f_as F7 rfl rfl rfl rfl rfl fun _ F8 => ?_)
 have F9 : Fr 6 [(2, .slice r0_a_6 r0_n_6 r0_c_6)] _ := F8.cut rfl
 clear F2 F3 F5 F7 F8
 refine s_end (x_normal (wp_ret ?_))
 have Z10 : Rd 2 encC okC (V H w [bx r0_b_4 [.slice code_a code_n code_c, .int .i64 ((i2_6 : Nat) : Int), .int .i64 h2_6] 108]) w6 (.slice r0_a_6 r0_n_6 r0_c_6) l_6 := At.freeze (S4.trans S6) ET_46.hk 0 rfl (fun b hb => ((S4.trans S6).fresh b ⟨_, nth_mem (i := 0) rfl, hb⟩).resolve_left (fps_nil _))
 have S10 := At.drop S6.at' 0
 refine x_done (v := .slice r0_a_6 r0_n_6 r0_c_6) F9 (results_1 Try.results63 (.tmp (F9.ev 2 rfl))) ?_
 exact ⟨l_6, r0_a_6, r0_n_6, r0_c_6, rfl, (Mv.pick (S4.trans (S6.trans S10)) [] rfl), (Rd.give Z10), by first | assumption | exact w64_ok _ | omega | (unfold i64ok; omega)⟩
end Go.Proofs.Ytbbkihijhdpliaa
