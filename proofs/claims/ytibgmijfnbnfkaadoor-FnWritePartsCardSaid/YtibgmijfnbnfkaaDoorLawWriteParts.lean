/-
  PROVED HERE: whatever the input, the statement laws.FnWriteParts returns true. Condition: the tables and errors of the library that the row lists stand as the program's text lays them (the card ties that).
-/
import Derived.Test.YtibgmijfnbnfkaaDoorGenDp
import Derived.Test.YtibgmijfnbnfkaaDoorGenFl
import Derived.Test.YtibgmijfnbnfkaaDoorDatFk
import Derived.Test.YtibgmijfnbnfkaaDoorLaw2
import Derived.Test.YtibgmijfnbnfkaaDoorLaw3
namespace Go.Proofs.YtibgmijfnbnfkaaDoor
open Go.ChangeShapes Go.WideShapes Go.ChangeAt Go.RowKit
set_option maxRecDepth 100000
set_option maxHeartbeats 1000000
theorem laws_sameCells_c {w : World} {H : Nat → Prop} {a : List CellD} {a_a : Option Addr} {a_n a_c : Nat} {b : List CellD} {b_a : Option Addr} {b_n b_c : Nat} (v_a : Rd 2 encC okC H w (.slice a_a a_n a_c) a) (v_b : Rd 2 encC okC H w (.slice b_a b_n b_c) b) :
    Calls Tryd.prog 17 #[.slice a_a a_n a_c, .slice b_a b_n b_c] w fun e w' => e = .returned (.bool (decide (a = b))) ∧ Mv [] w [] w' := by
 have V_v_a : Rd 2 encC okC (V H w []) w (.slice a_a a_n a_c) a := Rd.start v_a (fun _ _ => fps_nil _)
 obtain ⟨ln_a, le_a, mx_a, ni_a⟩ := Rd.inv v_a
 have V_v_b : Rd 2 encC okC (V H w []) w (.slice b_a b_n b_c) b := Rd.start v_b (fun _ _ => fps_nil _)
 obtain ⟨ln_b, le_b, mx_b, ni_b⟩ := Rd.inv v_b
 refine calls_enter 26 Tryd.func17 rfl Tryd.ntmps17 (Nat.le_of_ble_eq_true rfl) (fun _ F0i => ?_)
 have F0 : Fr 26 [(0, .slice a_a a_n a_c), (1, .slice b_a b_n b_c)] _ := F0i
 clear F0i
 refine wp_seq (wp_region_lit (l_op (f_val F0 rfl rfl (r_assign rfl rfl) rfl fun _ F1 => ?_)))
 have F2 : Fr 26 [(4, .bool false), (0, .slice a_a a_n a_c), (1, .slice b_a b_n b_c)] _ := F1.cut rfl
 clear F0 F1
 refine s_end (x_normal (wp_seq (wp_seq (wp_region_lit (l_op (f_mv F2 rfl rfl rfl rfl rfl fun _ F3 => ?_))))))
 refine l_op (f_val F3 rfl rfl (r_len Tryd.underlying26 rfl (F3.ev 6 rfl)) rfl fun _ F4 => ?_)
 refine l_op (f_mv F4 rfl rfl rfl rfl rfl fun _ F5 => ?_)
 refine l_op (f_val F5 rfl rfl (r_len Tryd.underlying26 rfl (F5.ev 8 rfl)) rfl fun _ F6 => ?_)
 refine l_op (f_val F6 rfl rfl (r_cmp (b := decide (a_n ≠ b_n)) (.inr (.inl rfl)) rfl (F6.ev 7 rfl) (F6.ev 9 rfl) (dec_of (by omega))) rfl fun _ F7 => ?_)
 have F8 : Fr 26 [(10, .bool (decide (a_n ≠ b_n))), (0, .slice a_a a_n a_c), (1, .slice b_a b_n b_c)] _ := F7.cut rfl
 clear F2 F3 F4 F5 F6 F7
 refine s_end (x_normal (x_cond (p := a_n ≠ b_n) (F8.ev 10 rfl) (fun h9 => ?_) (fun h9 => ?_)))
 · skip
   refine wp_seq (wp_region_lit (l_op (f_val F8 rfl rfl (r_assign rfl rfl) rfl fun _ F10 => ?_)))
   have F11 : Fr 26 [(4, .bool false)] _ := F10.cut rfl
   clear F8 F10
   refine s_end (x_normal (wp_ret (x_then_ret ?_)))
   refine x_done (v := .bool false) F11 (results_1 Tryd.results17 (.tmp (F11.ev 4 rfl))) ?_
   exact ⟨(by rw [(show false = (decide (a = b)) from by first | exact (eqL_len ln_a ln_b (by assumption)).symm | exact (eqL_at hx1 hx2 (by assumption)).symm | exact (eqL_end hk_1 (by omega) (by omega)).symm)]), (Mv.pick (Mv.refl (At.nil w)) [] rfl)⟩
 · skip
   refine wp_skip (x_normal (wp_seq (wp_seq (wp_region_lit (l_op (f_val F8 rfl rfl (r_assign rfl rfl) rfl fun _ F12 => ?_))))))
   have F13 : Fr 26 [(5, .int .i64 0), (0, .slice a_a a_n a_c), (1, .slice b_a b_n b_c)] _ := F12.cut rfl
   clear F8 F12
   refine s_end (x_normal (wp_block ?_))
   refine x_loop (fun (k : Nat) aZ wZ => Fr 26 [(5, .int .i64 ((k : Nat) : Int)), (0, .slice a_a a_n a_c), (1, .slice b_a b_n b_c)] aZ ∧ Mv [] w [] wZ ∧ (k ≤ a_n) ∧ (a.take k = b.take k)) (fun (k : Nat) => a_n - k) (0) ?_ ?_
   · exact ⟨F13.cut rfl, (Mv.refl (At.nil w)), by omega, rfl⟩
   · rintro k a14 w14 ⟨F14, S14, hk_0, hk_1⟩
     refine wp_seq (wp_seq (wp_region_lit (l_op (f_mv F14 rfl rfl rfl rfl rfl fun _ F15 => ?_))))
     refine l_op (f_mv F15 rfl rfl rfl rfl rfl fun _ F16 => ?_)
     refine l_op (f_val F16 rfl rfl (r_len Tryd.underlying26 rfl (F16.ev 12 rfl)) rfl fun _ F17 => ?_)
     refine l_op (f_val F17 rfl rfl (r_cmp (b := decide (k < a_n)) (.inr (.inr (.inl rfl))) rfl (F17.ev 11 rfl) (F17.ev 13 rfl) (dec_of (by omega))) rfl fun _ F18 => ?_)
     have F19 : Fr 26 [(14, .bool (decide (k < a_n))), (5, .int .i64 ((k : Nat) : Int)), (0, .slice a_a a_n a_c), (1, .slice b_a b_n b_c)] _ := F18.cut rfl
     clear F14 F15 F16 F17 F18
     refine s_end (x_normal (x_cond (p := k < a_n) (F19.ev 14 rfl) (fun h20 => ?_) (fun h20 => ?_)))
     · skip
       refine wp_skip (x_normal (wp_seq (wp_block (wp_seq ?_))))
       obtain ⟨x1, hx1, okx1⟩ := Rd.elem (Rd.mv (Nat.succ_pos _) V_v_a S14) k (by first | assumption | omega)
       obtain ⟨x2, hx2, okx2⟩ := Rd.elem (Rd.mv (Nat.succ_pos _) V_v_b S14) k (by first | assumption | omega)
       refine x_draw (fun aZ wZ => Fr 26 [(0, .slice a_a a_n a_c), (1, .slice b_a b_n b_c), (5, .int .i64 ((k : Nat) : Int)), (25, .bool (decide (x1 ≠ x2)))] aZ ∧ Mv [] w14 [] wZ) [] mixed S14.at' (listed := #[false, false, false, false, false, false, false, false, false]) rfl (fun w22 S22 => ?_) [] rfl ?_
       · skip
         refine g_take F19 rfl (i := 0) (listed' := #[true, false, false, false, false, false, false, false, false]) rfl (by kernel_rfl) (by kernel_rfl) (by kernel_rfl) (fun _ _ _ h => h) (Sd.of (Mv.refl S22.at') [] rfl) rfl rfl rfl rfl (fun _ hz => (r_move rfl (F19.ev 0 rfl))) fun _ F23 => ?_
         refine g_take F23 rfl (i := 1) (listed' := #[true, true, false, false, false, false, false, false, false]) rfl (by kernel_rfl) (by kernel_rfl) (by kernel_rfl) (fun _ _ _ h => h) (Sd.of (Mv.refl S22.at') [] rfl) rfl rfl rfl rfl (fun _ hz => (r_move rfl (F23.ev 5 rfl))) fun _ F24 => ?_
         obtain ⟨B25, O25, y25, ad25, hy25, oky25, ln25, cl25⟩ := Rd.atK (Nat.succ_pos _) (Rd.mv (Nat.succ_pos _) V_v_a (S14.trans S22)) k (by first | assumption | omega)
         clear ln25
         obtain rfl := Option.some.inj (hx1.symm.trans hy25)
         clear hy25 oky25
         refine g_take F24 rfl (i := 2) (listed' := #[true, true, true, false, false, false, false, false, false]) rfl (by kernel_rfl) (by kernel_rfl) (by kernel_rfl) (fun _ _ _ h => h) (Sd.of (Mv.refl S22.at') [] rfl) rfl rfl rfl rfl (fun _ hz => (r_indexAddr (i := k) ET_26 rfl ((F24.ev 17 rfl).trans (by rw [ad25])) (F24.ev 18 rfl) (by omega) (by first | assumption | omega))) fun _ F26 => ?_
         refine g_take (v := .agg #[.string x1.key, .string x1.val]) F26 rfl (i := 3) (listed' := #[true, true, true, true, false, false, false, false, false]) rfl (by kernel_rfl) (by kernel_rfl) (by kernel_rfl) (fun _ _ _ h => h) (Sd.of (Mv.refl S22.at') [] rfl) rfl rfl rfl rfl (fun _ hz => (r_load (cs := [.string x1.key, .string x1.val]) TI_53 rfl (F26.ev 19 rfl) rfl (fun h => nomatch h) (elem_sub (f := 0) (cl25 _ hz.kp) [.string x1.key, .string x1.val] rfl))) fun _ F27 => ?_
         refine g_take F27 rfl (i := 4) (listed' := #[true, true, true, true, true, false, false, false, false]) rfl (by kernel_rfl) (by kernel_rfl) (by kernel_rfl) (fun _ _ _ h => h) (Sd.of (Mv.refl S22.at') [] rfl) rfl rfl rfl rfl (fun _ hz => (r_move rfl (F27.ev 1 rfl))) fun _ F28 => ?_
         refine g_take F28 rfl (i := 5) (listed' := #[true, true, true, true, true, true, false, false, false]) rfl (by kernel_rfl) (by kernel_rfl) (by kernel_rfl) (fun _ _ _ h => h) (Sd.of (Mv.refl S22.at') [] rfl) rfl rfl rfl rfl (fun _ hz => (r_move rfl (F28.ev 5 rfl))) fun _ F29 => ?_
         obtain ⟨B30, O30, y30, ad30, hy30, oky30, ln30, cl30⟩ := Rd.atK (Nat.succ_pos _) (Rd.mv (Nat.succ_pos _) V_v_b (S14.trans S22)) k (by first | assumption | omega)
         clear ln30
         obtain rfl := Option.some.inj (hx2.symm.trans hy30)
         clear hy30 oky30
         refine g_take F29 rfl (i := 6) (listed' := #[true, true, true, true, true, true, true, false, false]) rfl (by kernel_rfl) (by kernel_rfl) (by kernel_rfl) (fun _ _ _ h => h) (Sd.of (Mv.refl S22.at') [] rfl) rfl rfl rfl rfl (fun _ hz => (r_indexAddr (i := k) ET_26 rfl ((F29.ev 21 rfl).trans (by rw [ad30])) (F29.ev 22 rfl) (by omega) (by first | assumption | omega))) fun _ F31 => ?_
         refine g_take (v := .agg #[.string x2.key, .string x2.val]) F31 rfl (i := 7) (listed' := #[true, true, true, true, true, true, true, true, false]) rfl (by kernel_rfl) (by kernel_rfl) (by kernel_rfl) (fun _ _ _ h => h) (Sd.of (Mv.refl S22.at') [] rfl) rfl rfl rfl rfl (fun _ hz => (r_load (cs := [.string x2.key, .string x2.val]) TI_53 rfl (F31.ev 23 rfl) rfl (fun h => nomatch h) (elem_sub (f := 0) (cl30 _ hz.kp) [.string x2.key, .string x2.val] rfl))) fun _ F32 => ?_
         refine g_take F32 rfl (i := 8) (listed' := #[true, true, true, true, true, true, true, true, true]) rfl (by kernel_rfl) (by kernel_rfl) (by kernel_rfl) (fun _ _ _ h => h) (Sd.of (Mv.refl S22.at') [] rfl) rfl rfl rfl rfl (fun _ hz => (r_neqC rfl (F32.ev 20 rfl) (F32.ev 24 rfl))) fun _ F33 => ?_
         refine wpAnyH_done (by kernel_rfl) (x_normal ?_) _
         exact ⟨F33.cut rfl, (S22.pick [] rfl)⟩
       · rintro a34 w34 ⟨F34, S34⟩
         refine x_normal (x_cond (p := x1 ≠ x2) (F34.ev 25 rfl) (fun h35 => ?_) (fun h35 => ?_))
         · skip
           refine wp_seq (wp_region_lit (l_op (f_val F34 rfl rfl (r_assign rfl rfl) rfl fun _ F36 => ?_)))
           have F37 : Fr 26 [(4, .bool false)] _ := F36.cut rfl
           clear F34 F36
           refine s_end (x_normal (wp_ret (x_block_ret (x_then_ret (x_then_ret (x_block_ret (x_then_ret ?_)))))))
           refine x_done (v := .bool false) F37 (results_1 Tryd.results17 (.tmp (F37.ev 4 rfl))) ?_
           exact ⟨(by rw [(show false = (decide (a = b)) from by first | exact (eqL_len ln_a ln_b (by assumption)).symm | exact (eqL_at hx1 hx2 (by assumption)).symm | exact (eqL_end hk_1 (by omega) (by omega)).symm)]), (Mv.pick (S14.trans S34) [] rfl)⟩
         · skip
           refine wp_skip (x_block_normal (x_normal (wp_region_lit (l_op (f_mv F34 rfl rfl rfl rfl rfl fun _ F38 => ?_)))))
           refine l_op (f_val F38 rfl rfl (r_add (z := ((k + 1 : Nat) : Int)) rfl (F38.ev 15 rfl) rfl (by first | rfl | omega) ⟨by first | omega | (unfold i64ok at *; omega), by first | omega | (unfold i64ok at *; omega)⟩) rfl fun _ F39 => ?_)
           refine l_op (f_as F39 rfl rfl rfl rfl rfl fun _ F40 => ?_)
           have F41 : Fr 26 [(5, .int .i64 ((k + 1 : Nat) : Int)), (0, .slice a_a a_n a_c), (1, .slice b_a b_n b_c)] _ := F40.cut rfl
           clear F34 F38 F39 F40
           refine s_end ?_
           refine x_normal ⟨k + 1, by omega, F41.cut rfl, ((S14.trans S34).pick [] rfl), by omega, eqL_step hk_1 hx1 hx2 (by assumption)⟩
     · skip
       refine wp_exit (x_then_exit (x_then_exit (x_block_here (x_normal (wp_seq (wp_region_lit (l_op (f_val F19 rfl rfl (r_assign rfl rfl) rfl fun _ F42 => ?_))))))))
       have F43 : Fr 26 [(4, .bool true)] _ := F42.cut rfl
       clear F19 F42
       refine s_end (x_normal (wp_ret ?_))
       refine x_done (v := .bool true) F43 (results_1 Tryd.results17 (.tmp (F43.ev 4 rfl))) ?_
       exact ⟨(by rw [(show true = (decide (a = b)) from by first | exact (eqL_len ln_a ln_b (by assumption)).symm | exact (eqL_at hx1 hx2 (by assumption)).symm | exact (eqL_end hk_1 (by omega) (by omega)).symm)]), (Mv.pick S14 [] rfl)⟩
theorem laws_FnWriteParts_c {w : World} {H : Nat → Prop} {code : List Nat} {code_a : Option Addr} {code_n code_c : Nat} (v_code : RdA 1 encB okB H w (.slice code_a code_n code_c) code) (tab0 : Tb 0 H w) (tab1 : Tb 1 H w) (tab2 : Tb 2 H w) :
    Calls Tryd.prog 5 #[.slice code_a code_n code_c] w fun e w' => e = .returned (.bool true) ∧ Mv [] w [] w' := by
 have hb0 := bdC_base
 have V_v_code : RdA 1 encB okB (V H w []) w (.slice code_a code_n code_c) code := RdA.start v_code (fun _ _ => fps_nil _)
 obtain ⟨ln_code, le_code, mx_code, ni_code⟩ := RdA.inv v_code
 have V_tab0 : Tb 0 (V H w []) w := Tb.start tab0 (fun _ _ => fps_nil _)
 have V_tab1 : Tb 1 (V H w []) w := Tb.start tab1 (fun _ _ => fps_nil _)
 have V_tab2 : Tb 2 (V H w []) w := Tb.start tab2 (fun _ _ => fps_nil _)
 refine calls_enter 87 Tryd.func5 rfl Tryd.ntmps5 (Nat.le_of_ble_eq_true rfl) (fun _ F0i => ?_)
 have F0 : Fr 87 [(0, .slice code_a code_n code_c)] _ := F0i
 clear F0i
 refine wp_seq (wp_region_lit (l_op (f_val F0 rfl rfl (r_assign rfl rfl) rfl fun _ F1 => ?_)))
 have F2 : Fr 87 [(2, .bool false), (0, .slice code_a code_n code_c)] _ := F1.cut rfl
 clear F0 F1
 refine s_end (x_normal (wp_seq (wp_seq (wp_region_lit (l_op (f_mv F2 rfl rfl rfl rfl rfl fun _ F3 => ?_))))))
 refine l_op (f_call F3 CF_7 rfl rfl rfl rfl (lc (F3.ev 14 rfl) rfl) (laws_big_c (code := code) V_v_code) ?_)
 rintro _ w4 ⟨rfl, m4⟩
 refine ⟨_, rfl, fun _ F5 => ?_⟩
 have S4 := At.frame0 (At.nil w) m4
 clear m4
 have F6 : Fr 87 [(15, .bool (decide (code.length > 1048576))), (0, .slice code_a code_n code_c)] _ := F5.cut rfl
 clear F2 F3 F5
 have T7 : Mv _ _ [] _ := S4
 refine s_end (x_normal (x_cond (p := code.length > 1048576) (F6.ev 15 rfl) (fun h8 => ?_) (fun h8 => ?_)))
 · skip
   refine wp_seq (wp_region_lit (l_op (f_val F6 rfl rfl (r_assign rfl rfl) rfl fun _ F9 => ?_)))
   have F10 : Fr 87 [(2, .bool true)] _ := F9.cut rfl
   clear F6 F9
   refine s_end (x_normal (wp_ret (x_then_ret ?_)))
   refine x_done (v := .bool true) F10 (results_1 Tryd.results5 (.tmp (F10.ev 2 rfl))) ?_
   exact ⟨rfl, (Mv.pick T7 [] rfl)⟩
 · skip
   refine wp_skip (x_normal (wp_seq (wp_region_lit (l_op (f_mv F6 rfl rfl rfl rfl rfl fun _ F11 => ?_)))))
   refine l_op (f_call F11 CF_8 rfl rfl rfl rfl (lc (F11.ev 16 rfl) rfl) (spec_DrawPlaces_c (code := code) (RdA.mv (Nat.succ_pos _) V_v_code T7) (by first | assumption | omega | (simp <;> omega))) ?_)
   rintro _ w12 ⟨p_12, r0_a_12, r0_n_12, r0_c_12, rfl, m12, v12_0, q12_0, q12_1⟩
   refine ⟨_, rfl, fun _ F13 => ?_⟩
   have S12 := At.frame0 T7.at' m12
   have V12_0 := Rd.got0 T7.at' (T7.kp.size) v12_0 S12
   obtain ⟨ln12_0, le12_0, mx12_0, ni12_0⟩ := Rd.inv V12_0
   clear m12 v12_0
   refine l_op (f_as F13 rfl rfl rfl rfl rfl fun _ F14 => ?_)
   have F15 : Fr 87 [(3, .slice r0_a_12 r0_n_12 r0_c_12)] _ := F14.cut rfl
   clear F6 F11 F13 F14
   have T16 : Mv _ _ [] _ := S12
   refine s_end (x_normal (wp_seq (wp_region_lit (l_op (f_val F15 rfl rfl (r_assign rfl rfl) rfl fun _ F17 => ?_)))))
   have F18 : Fr 87 [(4, .string (⟨#[]⟩ : ByteArray)), (3, .slice r0_a_12 r0_n_12 r0_c_12)] _ := F17.cut rfl
   clear F15 F17
   refine s_end (x_normal (wp_seq (wp_seq (wp_region_lit (l_op (f_val F18 rfl rfl (r_assign rfl rfl) rfl fun _ F19 => ?_))))))
   have F20 : Fr 87 [(5, .int .i64 0), (4, .string (⟨#[]⟩ : ByteArray)), (3, .slice r0_a_12 r0_n_12 r0_c_12)] _ := F19.cut rfl
   clear F18 F19
   refine s_end (x_normal (wp_block ?_))
   refine x_loop (fun (k : Nat) aZ wZ => ∃ (s : ByteArray), Fr 87 [(5, .int .i64 ((k : Nat) : Int)), (4, .string s), (3, .slice r0_a_12 r0_n_12 r0_c_12)] aZ ∧ Mv [] w12 [] wZ ∧ okS s ∧ (k ≤ s.size) ∧ (s.size ≤ 4 * k) ∧ (k ≤ 5)) (fun (k : Nat) => 5 - k) (0) ?_ ?_
   · exact ⟨(⟨#[]⟩ : ByteArray), F20.cut rfl, (Mv.refl T16.at'), (by unfold okS; decide), Nat.zero_le _, Nat.zero_le _, by omega⟩
   · rintro k a21 w21 ⟨s, F21, S21, kk21_0, hk_0, hk_1, hk_2⟩
     refine wp_seq (wp_seq (wp_region_lit (l_op (f_mv F21 rfl rfl rfl rfl rfl fun _ F22 => ?_))))
     refine l_op (f_val F22 rfl rfl (r_cmp (b := decide (k < 5)) (.inr (.inr (.inl rfl))) rfl (F22.ev 18 rfl) rfl (dec_of (by omega))) rfl fun _ F23 => ?_)
     have F24 : Fr 87 [(19, .bool (decide (k < 5))), (5, .int .i64 ((k : Nat) : Int)), (4, .string s), (3, .slice r0_a_12 r0_n_12 r0_c_12)] _ := F23.cut rfl
     clear F21 F22 F23
     refine s_end (x_normal (x_cond (p := k < 5) (F24.ev 19 rfl) (fun h25 => ?_) (fun h25 => ?_)))
     · skip
       refine wp_skip (x_normal (wp_seq (wp_block (wp_region_lit (l_op (f_mv F24 rfl rfl rfl rfl rfl fun _ F26 => ?_))))))
       refine l_op (f_mv F26 rfl rfl rfl rfl rfl fun _ F27 => ?_)
       refine l_op (f_mv F27 rfl rfl rfl rfl rfl fun _ F28 => ?_)
       obtain ⟨B29, O29, x1, ad29, hx1, okx1, ln29, cl29⟩ := Rd.at (Rd.mv (Nat.succ_pos _) V12_0 S21) k (by first | assumption | omega)
       clear ln29
       refine l_op (f_val F28 rfl rfl (r_indexAddr (i := k) ET_24 rfl ((F28.ev 23 rfl).trans (by rw [ad29])) (F28.ev 24 rfl) (by omega) (by first | assumption | omega)) rfl fun _ F30 => ?_)
       refine l_op (f_val (v := .int .i64 x1) F30 rfl rfl (r_load (cs := [.int .i64 x1]) TI_3 rfl (F30.ev 25 rfl) rfl (fun _ => rfl) (elem_sub (f := 0) cl29 [.int .i64 x1] rfl)) rfl fun _ F31 => ?_)
       refine l_op (f_call F31 CF_16 rfl rfl rfl rfl (lc (F31.ev 26 rfl) rfl) (impl_Decimal_c (n := x1) (by first | assumption | exact ⟨by omega, by omega⟩ | (unfold i64ok at *; omega)) (Tb.mv V_tab0 (T7.trans (T16.trans S21)))) ?_)
       rintro _ w32 ⟨rfl, m32, ok_r0_32⟩
       refine ⟨_, rfl, fun _ F33 => ?_⟩
       have S32 := At.frame0 S21.at' m32
       clear m32
       have k34 : s.size + (decS x1).size ≤ 9223372036854775807 := by have hd := dec4 (pOk_at (by assumption) hx1); omega
       refine l_op (f_val F33 rfl rfl (r_cat rfl (F33.ev 22 rfl) (F33.ev 27 rfl) k34) rfl fun _ F35 => ?_)
       refine l_op (f_as F35 rfl rfl rfl rfl rfl fun _ F36 => ?_)
       have F37 : Fr 87 [(4, .string (s ++ (decS x1))), (5, .int .i64 ((k : Nat) : Int)), (3, .slice r0_a_12 r0_n_12 r0_c_12)] _ := F36.cut rfl
       clear F24 F26 F27 F28 F30 F31 F33 F35 F36
       have T38 : Mv _ _ [] _ := S32
       refine s_end (x_block_normal (x_normal (wp_region_lit (l_op (f_mv F37 rfl rfl rfl rfl rfl fun _ F39 => ?_)))))
       refine l_op (f_val F39 rfl rfl (r_add (z := ((k + 1 : Nat) : Int)) rfl (F39.ev 20 rfl) rfl (by first | rfl | omega) ⟨by first | omega | (unfold i64ok at *; omega), by first | omega | (unfold i64ok at *; omega)⟩) rfl fun _ F40 => ?_)
       refine l_op (f_as F40 rfl rfl rfl rfl rfl fun _ F41 => ?_)
       have F42 : Fr 87 [(5, .int .i64 ((k + 1 : Nat) : Int)), (4, .string (s ++ (decS x1))), (3, .slice r0_a_12 r0_n_12 r0_c_12)] _ := F41.cut rfl
       clear F37 F39 F40 F41
       refine s_end ?_
       refine x_normal ⟨k + 1, by omega, (s ++ (decS x1)), F42.cut rfl, ((S21.trans T38).pick [] rfl), (okS_cat k34), by have hd := dec4 (pOk_at (by assumption) hx1); rw [ByteArray.size_append]; omega, by have hd := dec4 (pOk_at (by assumption) hx1); rw [ByteArray.size_append]; omega, by omega⟩
     · skip
       refine wp_exit (x_then_exit (x_then_exit (x_block_here (x_normal (wp_seq (wp_region_lit (l_op (f_mv F24 rfl rfl rfl rfl rfl fun _ F43 => ?_))))))))
       obtain ⟨B44, O44, x1, ad44, hx1, okx1, ln44, cl44⟩ := Rd.at (Rd.mv (Nat.succ_pos _) V12_0 S21) 5 (by first | assumption | omega)
       clear ln44
       refine l_op (f_val F43 rfl rfl (r_indexAddr (i := 5) ET_24 rfl ((F43.ev 29 rfl).trans (by rw [ad44])) rfl (by omega) (by first | assumption | omega)) rfl fun _ F45 => ?_)
       refine l_op (f_val (v := .int .i64 x1) F45 rfl rfl (r_load (cs := [.int .i64 x1]) TI_3 rfl (F45.ev 30 rfl) rfl (fun _ => rfl) (elem_sub (f := 0) cl44 [.int .i64 x1] rfl)) rfl fun _ F46 => ?_)
       refine l_op (f_mv F46 rfl rfl rfl rfl rfl fun _ F47 => ?_)
       refine l_op (f_val F47 rfl rfl (r_lenS (fun t ht => by cases ht; exact Tryd.underlying9) rfl rfl (F47.ev 32 rfl)) rfl fun _ F48 => ?_)
       refine l_op (f_val F48 rfl rfl (r_sub (z := (((s.size : Nat) : Int) - 1)) rfl (F48.ev 33 rfl) rfl (by first | rfl | omega) ⟨by first | omega | (unfold i64ok at *; omega), by first | omega | (unfold i64ok at *; omega)⟩) rfl fun _ F49 => ?_)
       have pb50 := pOk_at (by assumption) hx1
       obtain ⟨rK, hrK, lrK⟩ := rem_nat (c := s.size - 1) pb50 (by omega)
       refine l_op (f_val F49 rfl rfl ((r_remI (c := s.size - 1) (by omega) (by omega) rfl (F49.ev 31 rfl) (F49.ev 34 rfl)).trans (by rw [hrK])) rfl fun _ F51 => ?_)
       refine l_op (f_val F51 rfl rfl (r_add (z := ((1 + rK : Nat) : Int)) rfl rfl (F51.ev 35 rfl) (by first | rfl | omega) ⟨by first | omega | (unfold i64ok at *; omega), by first | omega | (unfold i64ok at *; omega)⟩) rfl fun _ F52 => ?_)
       refine l_op (f_as F52 rfl rfl rfl rfl rfl fun _ F53 => ?_)
       have F54 : Fr 87 [(6, .int .i64 ((1 + rK : Nat) : Int)), (4, .string s)] _ := F53.cut rfl
       clear F24 F43 F45 F46 F47 F48 F49 F51 F52 F53
       refine s_end (x_normal (wp_seq ?_))
       have hW := isF.new (id := 3) (t := s) (by unfold idOk; decide) (by omega) (by omega)
       have hz1 : (s.extract 0 (1 + rK)).size = 1 + rK := by rw [ByteArray.size_extract]; omega
       have hV := isF.new (id := 3) (t := s.extract 0 (1 + rK)) (by unfold idOk; decide) (by omega) (by omega)
       have hV2 := hV.2
       rw [bytesN_pre] at hV2
       have hR := hV2.rest (by unfold idOk; decide) (by omega) (by omega)
       refine wp_region_lit (l_op (f_call F54 CF_10 rfl rfl rfl rfl rfl (laws_base_c (H := V H w [])  ) ?_))
       rintro _ w55 ⟨r0_store_a_55, r0_store_n_55, r0_store_c_55, r0_touch_reads_a_55, r0_touch_reads_n_55, r0_touch_reads_c_55, r0_touch_writes_a_55, r0_touch_writes_n_55, r0_touch_writes_c_55, rfl, m55, v55_0, v55_1, v55_2⟩
       refine ⟨_, rfl, fun _ F56 => ?_⟩
       have S55 := At.frame0 S21.at' m55
       have V55_0 := Rd.got0 S21.at' ((T7.trans (T16.trans S21)).kp.size) v55_0 S55
       obtain ⟨ln55_0, le55_0, mx55_0, ni55_0⟩ := Rd.inv V55_0
       have V55_1 := Rd.got0 S21.at' ((T7.trans (T16.trans S21)).kp.size) v55_1 S55
       obtain ⟨ln55_1, le55_1, mx55_1, ni55_1⟩ := Rd.inv V55_1
       have V55_2 := Rd.got0 S21.at' ((T7.trans (T16.trans S21)).kp.size) v55_2 S55
       obtain ⟨ln55_2, le55_2, mx55_2, ni55_2⟩ := Rd.inv V55_2
       clear m55 v55_0 v55_1 v55_2
       refine l_op (f_mv F56 rfl rfl rfl rfl rfl fun _ F57 => ?_)
       refine l_op (f_call F57 CF_9 rfl rfl rfl rfl (lc (F57.ev 38 rfl) (lc rfl (lc rfl (lc (F57.ev 39 rfl) rfl)))) (impl_WriteFile_c (m := (⟨[], (⟨[], []⟩ : TouchD)⟩ : MachD)) (id := 3) (at_ := 0) (text := s) V55_0 V55_1 V55_2 (by first | assumption | exact ⟨by omega, by omega⟩ | (unfold i64ok at *; omega)) (by first | assumption | exact ⟨by omega, by omega⟩ | (unfold i64ok at *; omega)) kk21_0 (Tb.mv V_tab0 (T7.trans (T16.trans (S21.trans S55)))) (Tb.mv V_tab1 (T7.trans (T16.trans (S21.trans S55)))) (Tb.mv V_tab2 (T7.trans (T16.trans (S21.trans S55)))) (by first | assumption | omega | (refine bdC.s ?_; (repeat (first | with_reducible refine bdC.look ?_ | with_reducible refine bdC.lay ?_ | with_reducible refine bdC.set ?_ | with_reducible refine bdC.wf ?_ | with_reducible refine bdC.rf ?_ | with_reducible refine bdC.ct ?_)); exact bdC.le (by assumption) (by first | decide | omega)) | (refine bdC.r ?_; (repeat (first | with_reducible refine bdC.look ?_ | with_reducible refine bdC.lay ?_ | with_reducible refine bdC.set ?_ | with_reducible refine bdC.wf ?_ | with_reducible refine bdC.rf ?_ | with_reducible refine bdC.ct ?_)); exact bdC.le (by assumption) (by first | decide | omega)) | (refine bdC.w ?_; (repeat (first | with_reducible refine bdC.look ?_ | with_reducible refine bdC.lay ?_ | with_reducible refine bdC.set ?_ | with_reducible refine bdC.wf ?_ | with_reducible refine bdC.rf ?_ | with_reducible refine bdC.ct ?_)); exact bdC.le (by assumption) (by first | decide | omega)) | ((repeat (first | with_reducible refine bdC.look ?_ | with_reducible refine bdC.lay ?_ | with_reducible refine bdC.set ?_ | with_reducible refine bdC.wf ?_ | with_reducible refine bdC.rf ?_ | with_reducible refine bdC.ct ?_)); exact bdC.le (by assumption) (by first | decide | omega)) | decide | exact Nat.le_trans (keyNum_size _ _ (by assumption)) (by decide) | exact Nat.le_trans (keyNum_size _ _ ⟨by omega, by omega⟩) (by decide)) (by first | omega | (rw [ByteArray.size_extract]; omega))) ?_)
       rintro _ w58 ⟨r0_store_a_58, r0_store_n_58, r0_store_c_58, r0_touch_reads_a_58, r0_touch_reads_n_58, r0_touch_reads_c_58, r0_touch_writes_a_58, r0_touch_writes_n_58, r0_touch_writes_c_58, rfl, m58⟩
       refine ⟨_, rfl, fun _ F59 => ?_⟩
       have S58 : Mv _ _ [ow 53 2 encC okC (.slice r0_store_a_58 r0_store_n_58 r0_store_c_58) (wfM (⟨[], (⟨[], []⟩ : TouchD)⟩ : MachD) 3 0 s).store, ow 9 1 encS okS (.slice r0_touch_reads_a_58 r0_touch_reads_n_58 r0_touch_reads_c_58) (wfM (⟨[], (⟨[], []⟩ : TouchD)⟩ : MachD) 3 0 s).touch.reads, ow 9 1 encS okS (.slice r0_touch_writes_a_58 r0_touch_writes_n_58 r0_touch_writes_c_58) (wfM (⟨[], (⟨[], []⟩ : TouchD)⟩ : MachD) 3 0 s).touch.writes] _ := At.frame S55.at' [] rfl m58
       obtain ⟨lo58_0, lp58_0, lq58_0⟩ := At.ownInv S58.at' ET_26.hk 0 rfl
       obtain ⟨lo58_1, lp58_1, lq58_1⟩ := At.ownInv S58.at' ET_27.hk 1 rfl
       obtain ⟨lo58_2, lp58_2, lq58_2⟩ := At.ownInv S58.at' ET_27.hk 2 rfl
       clear m58
       refine l_op (f_mv F59 rfl rfl rfl rfl rfl fun _ F60 => ?_)
       refine l_op (f_val (v := .agg #[.slice r0_store_a_58 r0_store_n_58 r0_store_c_58, .slice r0_touch_reads_a_58 r0_touch_reads_n_58 r0_touch_reads_c_58, .slice r0_touch_writes_a_58 r0_touch_writes_n_58 r0_touch_writes_c_58]) F60 rfl rfl (r_extract rfl (F60.ev 37 rfl) rfl) rfl fun _ F61 => ?_)
       refine l_op (f_val (v := .int .i64 (wfC (⟨[], (⟨[], []⟩ : TouchD)⟩ : MachD) 3 0 s)) F61 rfl rfl (r_extract rfl (F61.ev 37 rfl) rfl) rfl fun _ F62 => ?_)
       refine l_op (f_alloc F62 S58.at' ZI_31 rfl rfl rfl rfl rfl fun b63 _ w63 F64 S63 => ?_)
       refine l_op (s_store S63.at' 0 TI_31 rfl rfl rfl rfl rfl (F64.ev 7 rfl) (F64.ev 41 rfl) rfl rfl rfl rfl rfl fun w65 S65 => ?_)
       refine l_op (f_as F64 rfl rfl rfl rfl rfl fun _ F66 => ?_)
       have F67 : Fr 87 [(8, .int .i64 (wfC (⟨[], (⟨[], []⟩ : TouchD)⟩ : MachD) 3 0 s)), (7, .pointer (some ⟨b63, 0, none⟩)), (6, .int .i64 ((1 + rK : Nat) : Int)), (4, .string s)] _ := F66.cut rfl
       clear F54 F56 F57 F59 F60 F61 F62 F64 F66
       have T68 : Mv _ _ [bx b63 [.slice r0_store_a_58 r0_store_n_58 r0_store_c_58, .slice r0_touch_reads_a_58 r0_touch_reads_n_58 r0_touch_reads_c_58, .slice r0_touch_writes_a_58 r0_touch_writes_n_58 r0_touch_writes_c_58] 31, ow 53 2 encC okC (.slice r0_store_a_58 r0_store_n_58 r0_store_c_58) (wfM (⟨[], (⟨[], []⟩ : TouchD)⟩ : MachD) 3 0 s).store, ow 9 1 encS okS (.slice r0_touch_reads_a_58 r0_touch_reads_n_58 r0_touch_reads_c_58) (wfM (⟨[], (⟨[], []⟩ : TouchD)⟩ : MachD) 3 0 s).touch.reads, ow 9 1 encS okS (.slice r0_touch_writes_a_58 r0_touch_writes_n_58 r0_touch_writes_c_58) (wfM (⟨[], (⟨[], []⟩ : TouchD)⟩ : MachD) 3 0 s).touch.writes] _ := S65
       refine s_end (x_normal (wp_seq ?_))
       refine x_draw (fun aZ wZ => ∃ (r0_store_a_74 : Option Addr), ∃ (r0_store_n_74 : Nat), ∃ (r0_store_c_74 : Nat), ∃ (r0_touch_reads_a_74 : Option Addr), ∃ (r0_touch_reads_n_74 : Nat), ∃ (r0_touch_reads_c_74 : Nat), ∃ (r0_touch_writes_a_74 : Option Addr), ∃ (r0_touch_writes_n_74 : Nat), ∃ (r0_touch_writes_c_74 : Nat), ∃ (r0_store_a_76 : Option Addr), ∃ (r0_store_n_76 : Nat), ∃ (r0_store_c_76 : Nat), ∃ (r0_touch_reads_a_76 : Option Addr), ∃ (r0_touch_reads_n_76 : Nat), ∃ (r0_touch_reads_c_76 : Nat), ∃ (r0_touch_writes_a_76 : Option Addr), ∃ (r0_touch_writes_n_76 : Nat), ∃ (r0_touch_writes_c_76 : Nat), ∃ (b81 : Nat), Fr 87 [(4, .string s), (6, .int .i64 ((1 + rK : Nat) : Int)), (7, .pointer (some ⟨b63, 0, none⟩)), (8, .int .i64 (wfC (⟨[], (⟨[], []⟩ : TouchD)⟩ : MachD) 3 0 s)), (9, .pointer (some ⟨b81, 0, none⟩)), (10, .int .i64 (wfC (⟨[], (⟨[], []⟩ : TouchD)⟩ : MachD) 3 0 (s.extract 0 (1 + rK))))] aZ ∧ Mv [bx b63 [.slice r0_store_a_58 r0_store_n_58 r0_store_c_58, .slice r0_touch_reads_a_58 r0_touch_reads_n_58 r0_touch_reads_c_58, .slice r0_touch_writes_a_58 r0_touch_writes_n_58 r0_touch_writes_c_58] 31, ow 53 2 encC okC (.slice r0_store_a_58 r0_store_n_58 r0_store_c_58) (wfM (⟨[], (⟨[], []⟩ : TouchD)⟩ : MachD) 3 0 s).store, ow 9 1 encS okS (.slice r0_touch_reads_a_58 r0_touch_reads_n_58 r0_touch_reads_c_58) (wfM (⟨[], (⟨[], []⟩ : TouchD)⟩ : MachD) 3 0 s).touch.reads, ow 9 1 encS okS (.slice r0_touch_writes_a_58 r0_touch_writes_n_58 r0_touch_writes_c_58) (wfM (⟨[], (⟨[], []⟩ : TouchD)⟩ : MachD) 3 0 s).touch.writes] w65 [bx b63 [.slice r0_store_a_58 r0_store_n_58 r0_store_c_58, .slice r0_touch_reads_a_58 r0_touch_reads_n_58 r0_touch_reads_c_58, .slice r0_touch_writes_a_58 r0_touch_writes_n_58 r0_touch_writes_c_58] 31, ow 53 2 encC okC (.slice r0_store_a_58 r0_store_n_58 r0_store_c_58) (wfM (⟨[], (⟨[], []⟩ : TouchD)⟩ : MachD) 3 0 s).store, ow 9 1 encS okS (.slice r0_touch_reads_a_58 r0_touch_reads_n_58 r0_touch_reads_c_58) (wfM (⟨[], (⟨[], []⟩ : TouchD)⟩ : MachD) 3 0 s).touch.reads, ow 9 1 encS okS (.slice r0_touch_writes_a_58 r0_touch_writes_n_58 r0_touch_writes_c_58) (wfM (⟨[], (⟨[], []⟩ : TouchD)⟩ : MachD) 3 0 s).touch.writes, ow 53 2 encC okC (.slice r0_store_a_76 r0_store_n_76 r0_store_c_76) (wfM (⟨[], (⟨[], []⟩ : TouchD)⟩ : MachD) 3 0 (s.extract 0 (1 + rK))).store, ow 9 1 encS okS (.slice r0_touch_reads_a_76 r0_touch_reads_n_76 r0_touch_reads_c_76) (wfM (⟨[], (⟨[], []⟩ : TouchD)⟩ : MachD) 3 0 (s.extract 0 (1 + rK))).touch.reads, ow 9 1 encS okS (.slice r0_touch_writes_a_76 r0_touch_writes_n_76 r0_touch_writes_c_76) (wfM (⟨[], (⟨[], []⟩ : TouchD)⟩ : MachD) 3 0 (s.extract 0 (1 + rK))).touch.writes, bx b81 [.slice r0_store_a_76 r0_store_n_76 r0_store_c_76, .slice r0_touch_reads_a_76 r0_touch_reads_n_76 r0_touch_reads_c_76, .slice r0_touch_writes_a_76 r0_touch_writes_n_76 r0_touch_writes_c_76] 31] wZ) [] mixed T68.at' (listed := #[false, false, false, false, false, false, false, false, false, false, false]) rfl (fun w70 S70 => ?_) [] rfl ?_
       · skip
         refine g_take F67 rfl (i := 1) (listed' := #[false, true, false, false, false, false, false, false, false, false, false]) rfl (by kernel_rfl) (by kernel_rfl) (by kernel_rfl) (fun _ _ _ h => h) (Sd.of (Mv.refl S70.at') [] rfl) rfl rfl rfl rfl (fun _ hz => (r_move rfl (F67.ev 4 rfl))) fun _ F71 => ?_
         refine g_take F71 rfl (i := 2) (listed' := #[false, true, true, false, false, false, false, false, false, false, false]) rfl (by kernel_rfl) (by kernel_rfl) (by kernel_rfl) (fun _ _ _ h => h) (Sd.of (Mv.refl S70.at') [] rfl) rfl rfl rfl rfl (fun _ hz => (r_move rfl (F71.ev 6 rfl))) fun _ F72 => ?_
         refine g_take F72 rfl (i := 3) (listed' := #[false, true, true, true, false, false, false, false, false, false, false]) rfl (by kernel_rfl) (by kernel_rfl) (by kernel_rfl) (fun _ _ _ h => h) (Sd.of (Mv.refl S70.at') [] rfl) rfl rfl rfl rfl (fun _ hz => (r_sliceS (l := 0) (h := 1 + rK) Tryd.underlying9 rfl (F72.ev 45 rfl) rfl (F72.ev 46 rfl) (by omega) (by omega) rfl)) fun _ F73 => ?_
         refine d_all (rs := [0, 8]) rfl (by kernel_rfl) (by simp) (d_cons (i := 0) (listed' := #[true, true, true, true, false, false, false, false, false, false, false]) rfl rfl ?_ (d_cons (i := 8) (listed' := #[false, true, true, true, false, false, false, false, true, false, false]) rfl rfl ?_ d_nil))
         · skip
           refine f_call F73 CF_10 rfl rfl rfl rfl rfl (laws_base_c (H := V H w [bx b63 [.slice r0_store_a_58 r0_store_n_58 r0_store_c_58, .slice r0_touch_reads_a_58 r0_touch_reads_n_58 r0_touch_reads_c_58, .slice r0_touch_writes_a_58 r0_touch_writes_n_58 r0_touch_writes_c_58] 31, ow 53 2 encC okC (.slice r0_store_a_58 r0_store_n_58 r0_store_c_58) (wfM (⟨[], (⟨[], []⟩ : TouchD)⟩ : MachD) 3 0 s).store, ow 9 1 encS okS (.slice r0_touch_reads_a_58 r0_touch_reads_n_58 r0_touch_reads_c_58) (wfM (⟨[], (⟨[], []⟩ : TouchD)⟩ : MachD) 3 0 s).touch.reads, ow 9 1 encS okS (.slice r0_touch_writes_a_58 r0_touch_writes_n_58 r0_touch_writes_c_58) (wfM (⟨[], (⟨[], []⟩ : TouchD)⟩ : MachD) 3 0 s).touch.writes])  ) ?_
           rintro _ w74 ⟨r0_store_a_74, r0_store_n_74, r0_store_c_74, r0_touch_reads_a_74, r0_touch_reads_n_74, r0_touch_reads_c_74, r0_touch_writes_a_74, r0_touch_writes_n_74, r0_touch_writes_c_74, rfl, m74, v74_0, v74_1, v74_2⟩
           refine ⟨_, rfl, fun _ F75 => ?_⟩
           have S74 := At.frame0 S70.at' m74
           have V74_0 := Rd.got0 S70.at' ((T7.trans (T16.trans (S21.trans (S55.trans (S58.trans (S63.trans (T68.trans S70))))))).kp.size) v74_0 S74
           obtain ⟨ln74_0, le74_0, mx74_0, ni74_0⟩ := Rd.inv V74_0
           have V74_1 := Rd.got0 S70.at' ((T7.trans (T16.trans (S21.trans (S55.trans (S58.trans (S63.trans (T68.trans S70))))))).kp.size) v74_1 S74
           obtain ⟨ln74_1, le74_1, mx74_1, ni74_1⟩ := Rd.inv V74_1
           have V74_2 := Rd.got0 S70.at' ((T7.trans (T16.trans (S21.trans (S55.trans (S58.trans (S63.trans (T68.trans S70))))))).kp.size) v74_2 S74
           obtain ⟨ln74_2, le74_2, mx74_2, ni74_2⟩ := Rd.inv V74_2
           clear m74 v74_0 v74_1 v74_2
           refine ⟨Sd.of S74 [] rfl, ?_⟩
           refine d_all (rs := [4, 8]) rfl (by kernel_rfl) (by simp) (d_cons (i := 4) (listed' := #[true, true, true, true, true, false, false, false, false, false, false]) rfl rfl ?_ (d_cons (i := 8) (listed' := #[true, true, true, true, false, false, false, false, true, false, false]) rfl rfl ?_ d_nil))
           · skip
             refine f_call F75 CF_9 rfl rfl rfl rfl (lc (F75.ev 44 rfl) (lc rfl (lc rfl (lc (F75.ev 47 rfl) rfl)))) (impl_WriteFile_c (m := (⟨[], (⟨[], []⟩ : TouchD)⟩ : MachD)) (id := 3) (at_ := 0) (text := s.extract 0 (1 + rK)) V74_0 V74_1 V74_2 (by first | assumption | exact ⟨by omega, by omega⟩ | (unfold i64ok at *; omega)) (by first | assumption | exact ⟨by omega, by omega⟩ | (unfold i64ok at *; omega)) (okS_ext kk21_0) (Tb.mv V_tab0 (T7.trans (T16.trans (S21.trans (S55.trans (S58.trans (S63.trans (T68.trans (S70.trans S74))))))))) (Tb.mv V_tab1 (T7.trans (T16.trans (S21.trans (S55.trans (S58.trans (S63.trans (T68.trans (S70.trans S74))))))))) (Tb.mv V_tab2 (T7.trans (T16.trans (S21.trans (S55.trans (S58.trans (S63.trans (T68.trans (S70.trans S74))))))))) (by first | assumption | omega | (refine bdC.s ?_; (repeat (first | with_reducible refine bdC.look ?_ | with_reducible refine bdC.lay ?_ | with_reducible refine bdC.set ?_ | with_reducible refine bdC.wf ?_ | with_reducible refine bdC.rf ?_ | with_reducible refine bdC.ct ?_)); exact bdC.le (by assumption) (by first | decide | omega)) | (refine bdC.r ?_; (repeat (first | with_reducible refine bdC.look ?_ | with_reducible refine bdC.lay ?_ | with_reducible refine bdC.set ?_ | with_reducible refine bdC.wf ?_ | with_reducible refine bdC.rf ?_ | with_reducible refine bdC.ct ?_)); exact bdC.le (by assumption) (by first | decide | omega)) | (refine bdC.w ?_; (repeat (first | with_reducible refine bdC.look ?_ | with_reducible refine bdC.lay ?_ | with_reducible refine bdC.set ?_ | with_reducible refine bdC.wf ?_ | with_reducible refine bdC.rf ?_ | with_reducible refine bdC.ct ?_)); exact bdC.le (by assumption) (by first | decide | omega)) | ((repeat (first | with_reducible refine bdC.look ?_ | with_reducible refine bdC.lay ?_ | with_reducible refine bdC.set ?_ | with_reducible refine bdC.wf ?_ | with_reducible refine bdC.rf ?_ | with_reducible refine bdC.ct ?_)); exact bdC.le (by assumption) (by first | decide | omega)) | decide | exact Nat.le_trans (keyNum_size _ _ (by assumption)) (by decide) | exact Nat.le_trans (keyNum_size _ _ ⟨by omega, by omega⟩) (by decide)) (by first | omega | (rw [ByteArray.size_extract]; omega))) ?_
             rintro _ w76 ⟨r0_store_a_76, r0_store_n_76, r0_store_c_76, r0_touch_reads_a_76, r0_touch_reads_n_76, r0_touch_reads_c_76, r0_touch_writes_a_76, r0_touch_writes_n_76, r0_touch_writes_c_76, rfl, m76⟩
             refine ⟨_, rfl, fun _ F77 => ?_⟩
             have S76 : Mv _ _ [ow 53 2 encC okC (.slice r0_store_a_76 r0_store_n_76 r0_store_c_76) (wfM (⟨[], (⟨[], []⟩ : TouchD)⟩ : MachD) 3 0 (s.extract 0 (1 + rK))).store, ow 9 1 encS okS (.slice r0_touch_reads_a_76 r0_touch_reads_n_76 r0_touch_reads_c_76) (wfM (⟨[], (⟨[], []⟩ : TouchD)⟩ : MachD) 3 0 (s.extract 0 (1 + rK))).touch.reads, ow 9 1 encS okS (.slice r0_touch_writes_a_76 r0_touch_writes_n_76 r0_touch_writes_c_76) (wfM (⟨[], (⟨[], []⟩ : TouchD)⟩ : MachD) 3 0 (s.extract 0 (1 + rK))).touch.writes, bx b63 [.slice r0_store_a_58 r0_store_n_58 r0_store_c_58, .slice r0_touch_reads_a_58 r0_touch_reads_n_58 r0_touch_reads_c_58, .slice r0_touch_writes_a_58 r0_touch_writes_n_58 r0_touch_writes_c_58] 31, ow 53 2 encC okC (.slice r0_store_a_58 r0_store_n_58 r0_store_c_58) (wfM (⟨[], (⟨[], []⟩ : TouchD)⟩ : MachD) 3 0 s).store, ow 9 1 encS okS (.slice r0_touch_reads_a_58 r0_touch_reads_n_58 r0_touch_reads_c_58) (wfM (⟨[], (⟨[], []⟩ : TouchD)⟩ : MachD) 3 0 s).touch.reads, ow 9 1 encS okS (.slice r0_touch_writes_a_58 r0_touch_writes_n_58 r0_touch_writes_c_58) (wfM (⟨[], (⟨[], []⟩ : TouchD)⟩ : MachD) 3 0 s).touch.writes] _ := At.frame S74.at' [] rfl m76
             obtain ⟨lo76_0, lp76_0, lq76_0⟩ := At.ownInv S76.at' ET_26.hk 0 rfl
             obtain ⟨lo76_1, lp76_1, lq76_1⟩ := At.ownInv S76.at' ET_27.hk 1 rfl
             obtain ⟨lo76_2, lp76_2, lq76_2⟩ := At.ownInv S76.at' ET_27.hk 2 rfl
             clear m76
             refine ⟨Sd.of (S74.trans S76) [] rfl, ?_⟩
             refine g_take F77 rfl (i := 5) (listed' := #[true, true, true, true, true, true, false, false, false, false, false]) rfl (by kernel_rfl) (by kernel_rfl) (by kernel_rfl) (fun _ _ _ h => h) (Sd.of (S74.trans S76) [] rfl) rfl rfl rfl rfl (fun _ hz => (r_move rfl (F77.ev 48 rfl))) fun _ F78 => ?_
             refine g_take (v := .agg #[.slice r0_store_a_76 r0_store_n_76 r0_store_c_76, .slice r0_touch_reads_a_76 r0_touch_reads_n_76 r0_touch_reads_c_76, .slice r0_touch_writes_a_76 r0_touch_writes_n_76 r0_touch_writes_c_76]) F78 rfl (i := 6) (listed' := #[true, true, true, true, true, true, true, false, false, false, false]) rfl (by kernel_rfl) (by kernel_rfl) (by kernel_rfl) (fun _ _ _ h => h) (Sd.of (S74.trans S76) [] rfl) rfl rfl rfl rfl (fun _ hz => (r_extract rfl (F78.ev 43 rfl) rfl)) fun _ F79 => ?_
             refine g_take (v := .int .i64 (wfC (⟨[], (⟨[], []⟩ : TouchD)⟩ : MachD) 3 0 (s.extract 0 (1 + rK)))) F79 rfl (i := 7) (listed' := #[true, true, true, true, true, true, true, true, false, false, false]) rfl (by kernel_rfl) (by kernel_rfl) (by kernel_rfl) (fun _ _ _ h => h) (Sd.of (S74.trans S76) [] rfl) rfl rfl rfl rfl (fun _ hz => (r_extract rfl (F79.ev 43 rfl) rfl)) fun _ F80 => ?_
             refine d_one (i := 8) (listed' := #[true, true, true, true, true, true, true, true, true, false, false]) rfl (by kernel_rfl) rfl rfl ?_
             refine f_alloc F80 S76.at' ZI_31 rfl rfl rfl rfl rfl fun b81 _ w81 F82 S81 => ?_
             refine ⟨Sd.of (S74.trans (S76.trans S81)) [] rfl, ?_⟩
             refine d_one (i := 9) (listed' := #[true, true, true, true, true, true, true, true, true, true, false]) rfl (by kernel_rfl) rfl rfl ?_
             refine s_store S81.at' 0 TI_31 rfl rfl rfl rfl rfl (F82.ev 9 rfl) (F82.ev 49 rfl) rfl rfl rfl rfl rfl fun w83 S83 => ?_
             refine ⟨Sd.of (S74.trans (S76.trans (S81.trans S83))) [] rfl, ?_⟩
             refine g_take F82 rfl (i := 10) (listed' := #[true, true, true, true, true, true, true, true, true, true, true]) rfl (by kernel_rfl) (by kernel_rfl) (by kernel_rfl) (fun _ _ _ h => h) (Sd.of (S74.trans (S76.trans (S81.trans S83))) [] rfl) rfl rfl rfl rfl (fun _ hz => (r_assign rfl (F82.ev 50 rfl))) fun _ F84 => ?_
             refine wpAnyH_done (by kernel_rfl) (x_normal ?_) _
             exact ⟨r0_store_a_74, r0_store_n_74, r0_store_c_74, r0_touch_reads_a_74, r0_touch_reads_n_74, r0_touch_reads_c_74, r0_touch_writes_a_74, r0_touch_writes_n_74, r0_touch_writes_c_74, r0_store_a_76, r0_store_n_76, r0_store_c_76, r0_touch_reads_a_76, r0_touch_reads_n_76, r0_touch_reads_c_76, r0_touch_writes_a_76, r0_touch_writes_n_76, r0_touch_writes_c_76, b81, F84.cut rfl, ((S70.trans (S74.trans (S76.trans (S81.trans S83)))).pick [4, 5, 6, 7, 1, 2, 3, 0] rfl)⟩
           · skip
             refine f_alloc F75 S74.at' ZI_31 rfl rfl rfl rfl rfl fun b85 _ w85 F86 S85 => ?_
             refine ⟨Sd.of (S74.trans S85) [] rfl, ?_⟩
             refine d_one (i := 4) (listed' := #[true, true, true, true, true, false, false, false, true, false, false]) rfl (by kernel_rfl) rfl rfl ?_
             refine f_call F86 CF_9 rfl rfl rfl rfl (lc (F86.ev 44 rfl) (lc rfl (lc rfl (lc (F86.ev 47 rfl) rfl)))) (impl_WriteFile_c (m := (⟨[], (⟨[], []⟩ : TouchD)⟩ : MachD)) (id := 3) (at_ := 0) (text := s.extract 0 (1 + rK)) (Rd.mv (Nat.succ_pos _) V74_0 S85) (Rd.mv (Nat.succ_pos _) V74_1 S85) (Rd.mv (Nat.succ_pos _) V74_2 S85) (by first | assumption | exact ⟨by omega, by omega⟩ | (unfold i64ok at *; omega)) (by first | assumption | exact ⟨by omega, by omega⟩ | (unfold i64ok at *; omega)) (okS_ext kk21_0) (Tb.mv V_tab0 (T7.trans (T16.trans (S21.trans (S55.trans (S58.trans (S63.trans (T68.trans (S70.trans (S74.trans S85)))))))))) (Tb.mv V_tab1 (T7.trans (T16.trans (S21.trans (S55.trans (S58.trans (S63.trans (T68.trans (S70.trans (S74.trans S85)))))))))) (Tb.mv V_tab2 (T7.trans (T16.trans (S21.trans (S55.trans (S58.trans (S63.trans (T68.trans (S70.trans (S74.trans S85)))))))))) (by first | assumption | omega | (refine bdC.s ?_; (repeat (first | with_reducible refine bdC.look ?_ | with_reducible refine bdC.lay ?_ | with_reducible refine bdC.set ?_ | with_reducible refine bdC.wf ?_ | with_reducible refine bdC.rf ?_ | with_reducible refine bdC.ct ?_)); exact bdC.le (by assumption) (by first | decide | omega)) | (refine bdC.r ?_; (repeat (first | with_reducible refine bdC.look ?_ | with_reducible refine bdC.lay ?_ | with_reducible refine bdC.set ?_ | with_reducible refine bdC.wf ?_ | with_reducible refine bdC.rf ?_ | with_reducible refine bdC.ct ?_)); exact bdC.le (by assumption) (by first | decide | omega)) | (refine bdC.w ?_; (repeat (first | with_reducible refine bdC.look ?_ | with_reducible refine bdC.lay ?_ | with_reducible refine bdC.set ?_ | with_reducible refine bdC.wf ?_ | with_reducible refine bdC.rf ?_ | with_reducible refine bdC.ct ?_)); exact bdC.le (by assumption) (by first | decide | omega)) | ((repeat (first | with_reducible refine bdC.look ?_ | with_reducible refine bdC.lay ?_ | with_reducible refine bdC.set ?_ | with_reducible refine bdC.wf ?_ | with_reducible refine bdC.rf ?_ | with_reducible refine bdC.ct ?_)); exact bdC.le (by assumption) (by first | decide | omega)) | decide | exact Nat.le_trans (keyNum_size _ _ (by assumption)) (by decide) | exact Nat.le_trans (keyNum_size _ _ ⟨by omega, by omega⟩) (by decide)) (by first | omega | (rw [ByteArray.size_extract]; omega))) ?_
             rintro _ w87 ⟨r0_store_a_87, r0_store_n_87, r0_store_c_87, r0_touch_reads_a_87, r0_touch_reads_n_87, r0_touch_reads_c_87, r0_touch_writes_a_87, r0_touch_writes_n_87, r0_touch_writes_c_87, rfl, m87⟩
             refine ⟨_, rfl, fun _ F88 => ?_⟩
             have S87 : Mv _ _ [ow 53 2 encC okC (.slice r0_store_a_87 r0_store_n_87 r0_store_c_87) (wfM (⟨[], (⟨[], []⟩ : TouchD)⟩ : MachD) 3 0 (s.extract 0 (1 + rK))).store, ow 9 1 encS okS (.slice r0_touch_reads_a_87 r0_touch_reads_n_87 r0_touch_reads_c_87) (wfM (⟨[], (⟨[], []⟩ : TouchD)⟩ : MachD) 3 0 (s.extract 0 (1 + rK))).touch.reads, ow 9 1 encS okS (.slice r0_touch_writes_a_87 r0_touch_writes_n_87 r0_touch_writes_c_87) (wfM (⟨[], (⟨[], []⟩ : TouchD)⟩ : MachD) 3 0 (s.extract 0 (1 + rK))).touch.writes, bx b85 [.slice none 0 0, .slice none 0 0, .slice none 0 0] 31, bx b63 [.slice r0_store_a_58 r0_store_n_58 r0_store_c_58, .slice r0_touch_reads_a_58 r0_touch_reads_n_58 r0_touch_reads_c_58, .slice r0_touch_writes_a_58 r0_touch_writes_n_58 r0_touch_writes_c_58] 31, ow 53 2 encC okC (.slice r0_store_a_58 r0_store_n_58 r0_store_c_58) (wfM (⟨[], (⟨[], []⟩ : TouchD)⟩ : MachD) 3 0 s).store, ow 9 1 encS okS (.slice r0_touch_reads_a_58 r0_touch_reads_n_58 r0_touch_reads_c_58) (wfM (⟨[], (⟨[], []⟩ : TouchD)⟩ : MachD) 3 0 s).touch.reads, ow 9 1 encS okS (.slice r0_touch_writes_a_58 r0_touch_writes_n_58 r0_touch_writes_c_58) (wfM (⟨[], (⟨[], []⟩ : TouchD)⟩ : MachD) 3 0 s).touch.writes] _ := At.frame S85.at' [] rfl m87
             obtain ⟨lo87_0, lp87_0, lq87_0⟩ := At.ownInv S87.at' ET_26.hk 0 rfl
             obtain ⟨lo87_1, lp87_1, lq87_1⟩ := At.ownInv S87.at' ET_27.hk 1 rfl
             obtain ⟨lo87_2, lp87_2, lq87_2⟩ := At.ownInv S87.at' ET_27.hk 2 rfl
             clear m87
             refine ⟨Sd.of (S74.trans (S85.trans S87)) [] rfl, ?_⟩
             refine g_take F88 rfl (i := 5) (listed' := #[true, true, true, true, true, true, false, false, true, false, false]) rfl (by kernel_rfl) (by kernel_rfl) (by kernel_rfl) (fun _ _ _ h => h) (Sd.of (S74.trans (S85.trans S87)) [] rfl) rfl rfl rfl rfl (fun _ hz => (r_move rfl (F88.ev 48 rfl))) fun _ F89 => ?_
             refine g_take (v := .agg #[.slice r0_store_a_87 r0_store_n_87 r0_store_c_87, .slice r0_touch_reads_a_87 r0_touch_reads_n_87 r0_touch_reads_c_87, .slice r0_touch_writes_a_87 r0_touch_writes_n_87 r0_touch_writes_c_87]) F89 rfl (i := 6) (listed' := #[true, true, true, true, true, true, true, false, true, false, false]) rfl (by kernel_rfl) (by kernel_rfl) (by kernel_rfl) (fun _ _ _ h => h) (Sd.of (S74.trans (S85.trans S87)) [] rfl) rfl rfl rfl rfl (fun _ hz => (r_extract rfl (F89.ev 43 rfl) rfl)) fun _ F90 => ?_
             refine g_take (v := .int .i64 (wfC (⟨[], (⟨[], []⟩ : TouchD)⟩ : MachD) 3 0 (s.extract 0 (1 + rK)))) F90 rfl (i := 7) (listed' := #[true, true, true, true, true, true, true, true, true, false, false]) rfl (by kernel_rfl) (by kernel_rfl) (by kernel_rfl) (fun _ _ _ h => h) (Sd.of (S74.trans (S85.trans S87)) [] rfl) rfl rfl rfl rfl (fun _ hz => (r_extract rfl (F90.ev 43 rfl) rfl)) fun _ F91 => ?_
             refine d_one (i := 9) (listed' := #[true, true, true, true, true, true, true, true, true, true, false]) rfl (by kernel_rfl) rfl rfl ?_
             refine s_store S87.at' 3 TI_31 rfl rfl rfl rfl rfl (F91.ev 9 rfl) (F91.ev 49 rfl) rfl rfl rfl rfl rfl fun w92 S92 => ?_
             refine ⟨Sd.of (S74.trans (S85.trans (S87.trans S92))) [] rfl, ?_⟩
             refine g_take F91 rfl (i := 10) (listed' := #[true, true, true, true, true, true, true, true, true, true, true]) rfl (by kernel_rfl) (by kernel_rfl) (by kernel_rfl) (fun _ _ _ h => h) (Sd.of (S74.trans (S85.trans (S87.trans S92))) [] rfl) rfl rfl rfl rfl (fun _ hz => (r_assign rfl (F91.ev 50 rfl))) fun _ F93 => ?_
             refine wpAnyH_done (by kernel_rfl) (x_normal ?_) _
             exact ⟨r0_store_a_74, r0_store_n_74, r0_store_c_74, r0_touch_reads_a_74, r0_touch_reads_n_74, r0_touch_reads_c_74, r0_touch_writes_a_74, r0_touch_writes_n_74, r0_touch_writes_c_74, r0_store_a_87, r0_store_n_87, r0_store_c_87, r0_touch_reads_a_87, r0_touch_reads_n_87, r0_touch_reads_c_87, r0_touch_writes_a_87, r0_touch_writes_n_87, r0_touch_writes_c_87, b85, F93.cut rfl, ((S70.trans (S74.trans (S85.trans (S87.trans S92)))).pick [4, 5, 6, 7, 1, 2, 3, 0] rfl)⟩
         · skip
           refine f_alloc F73 S70.at' ZI_31 rfl rfl rfl rfl rfl fun b94 _ w94 F95 S94 => ?_
           refine ⟨Sd.of S94 [] rfl, ?_⟩
           refine d_one (i := 0) (listed' := #[true, true, true, true, false, false, false, false, true, false, false]) rfl (by kernel_rfl) rfl rfl ?_
           refine f_call F95 CF_10 rfl rfl rfl rfl rfl (laws_base_c (H := V H w [bx b94 [.slice none 0 0, .slice none 0 0, .slice none 0 0] 31, bx b63 [.slice r0_store_a_58 r0_store_n_58 r0_store_c_58, .slice r0_touch_reads_a_58 r0_touch_reads_n_58 r0_touch_reads_c_58, .slice r0_touch_writes_a_58 r0_touch_writes_n_58 r0_touch_writes_c_58] 31, ow 53 2 encC okC (.slice r0_store_a_58 r0_store_n_58 r0_store_c_58) (wfM (⟨[], (⟨[], []⟩ : TouchD)⟩ : MachD) 3 0 s).store, ow 9 1 encS okS (.slice r0_touch_reads_a_58 r0_touch_reads_n_58 r0_touch_reads_c_58) (wfM (⟨[], (⟨[], []⟩ : TouchD)⟩ : MachD) 3 0 s).touch.reads, ow 9 1 encS okS (.slice r0_touch_writes_a_58 r0_touch_writes_n_58 r0_touch_writes_c_58) (wfM (⟨[], (⟨[], []⟩ : TouchD)⟩ : MachD) 3 0 s).touch.writes])  ) ?_
           rintro _ w96 ⟨r0_store_a_96, r0_store_n_96, r0_store_c_96, r0_touch_reads_a_96, r0_touch_reads_n_96, r0_touch_reads_c_96, r0_touch_writes_a_96, r0_touch_writes_n_96, r0_touch_writes_c_96, rfl, m96, v96_0, v96_1, v96_2⟩
           refine ⟨_, rfl, fun _ F97 => ?_⟩
           have S96 := At.frame0 S94.at' m96
           have V96_0 := Rd.got0 S94.at' ((T7.trans (T16.trans (S21.trans (S55.trans (S58.trans (S63.trans (T68.trans (S70.trans S94)))))))).kp.size) v96_0 S96
           obtain ⟨ln96_0, le96_0, mx96_0, ni96_0⟩ := Rd.inv V96_0
           have V96_1 := Rd.got0 S94.at' ((T7.trans (T16.trans (S21.trans (S55.trans (S58.trans (S63.trans (T68.trans (S70.trans S94)))))))).kp.size) v96_1 S96
           obtain ⟨ln96_1, le96_1, mx96_1, ni96_1⟩ := Rd.inv V96_1
           have V96_2 := Rd.got0 S94.at' ((T7.trans (T16.trans (S21.trans (S55.trans (S58.trans (S63.trans (T68.trans (S70.trans S94)))))))).kp.size) v96_2 S96
           obtain ⟨ln96_2, le96_2, mx96_2, ni96_2⟩ := Rd.inv V96_2
           clear m96 v96_0 v96_1 v96_2
           refine ⟨Sd.of (S94.trans S96) [] rfl, ?_⟩
           refine d_one (i := 4) (listed' := #[true, true, true, true, true, false, false, false, true, false, false]) rfl (by kernel_rfl) rfl rfl ?_
           refine f_call F97 CF_9 rfl rfl rfl rfl (lc (F97.ev 44 rfl) (lc rfl (lc rfl (lc (F97.ev 47 rfl) rfl)))) (impl_WriteFile_c (m := (⟨[], (⟨[], []⟩ : TouchD)⟩ : MachD)) (id := 3) (at_ := 0) (text := s.extract 0 (1 + rK)) V96_0 V96_1 V96_2 (by first | assumption | exact ⟨by omega, by omega⟩ | (unfold i64ok at *; omega)) (by first | assumption | exact ⟨by omega, by omega⟩ | (unfold i64ok at *; omega)) (okS_ext kk21_0) (Tb.mv V_tab0 (T7.trans (T16.trans (S21.trans (S55.trans (S58.trans (S63.trans (T68.trans (S70.trans (S94.trans S96)))))))))) (Tb.mv V_tab1 (T7.trans (T16.trans (S21.trans (S55.trans (S58.trans (S63.trans (T68.trans (S70.trans (S94.trans S96)))))))))) (Tb.mv V_tab2 (T7.trans (T16.trans (S21.trans (S55.trans (S58.trans (S63.trans (T68.trans (S70.trans (S94.trans S96)))))))))) (by first | assumption | omega | (refine bdC.s ?_; (repeat (first | with_reducible refine bdC.look ?_ | with_reducible refine bdC.lay ?_ | with_reducible refine bdC.set ?_ | with_reducible refine bdC.wf ?_ | with_reducible refine bdC.rf ?_ | with_reducible refine bdC.ct ?_)); exact bdC.le (by assumption) (by first | decide | omega)) | (refine bdC.r ?_; (repeat (first | with_reducible refine bdC.look ?_ | with_reducible refine bdC.lay ?_ | with_reducible refine bdC.set ?_ | with_reducible refine bdC.wf ?_ | with_reducible refine bdC.rf ?_ | with_reducible refine bdC.ct ?_)); exact bdC.le (by assumption) (by first | decide | omega)) | (refine bdC.w ?_; (repeat (first | with_reducible refine bdC.look ?_ | with_reducible refine bdC.lay ?_ | with_reducible refine bdC.set ?_ | with_reducible refine bdC.wf ?_ | with_reducible refine bdC.rf ?_ | with_reducible refine bdC.ct ?_)); exact bdC.le (by assumption) (by first | decide | omega)) | ((repeat (first | with_reducible refine bdC.look ?_ | with_reducible refine bdC.lay ?_ | with_reducible refine bdC.set ?_ | with_reducible refine bdC.wf ?_ | with_reducible refine bdC.rf ?_ | with_reducible refine bdC.ct ?_)); exact bdC.le (by assumption) (by first | decide | omega)) | decide | exact Nat.le_trans (keyNum_size _ _ (by assumption)) (by decide) | exact Nat.le_trans (keyNum_size _ _ ⟨by omega, by omega⟩) (by decide)) (by first | omega | (rw [ByteArray.size_extract]; omega))) ?_
           rintro _ w98 ⟨r0_store_a_98, r0_store_n_98, r0_store_c_98, r0_touch_reads_a_98, r0_touch_reads_n_98, r0_touch_reads_c_98, r0_touch_writes_a_98, r0_touch_writes_n_98, r0_touch_writes_c_98, rfl, m98⟩
           refine ⟨_, rfl, fun _ F99 => ?_⟩
           have S98 : Mv _ _ [ow 53 2 encC okC (.slice r0_store_a_98 r0_store_n_98 r0_store_c_98) (wfM (⟨[], (⟨[], []⟩ : TouchD)⟩ : MachD) 3 0 (s.extract 0 (1 + rK))).store, ow 9 1 encS okS (.slice r0_touch_reads_a_98 r0_touch_reads_n_98 r0_touch_reads_c_98) (wfM (⟨[], (⟨[], []⟩ : TouchD)⟩ : MachD) 3 0 (s.extract 0 (1 + rK))).touch.reads, ow 9 1 encS okS (.slice r0_touch_writes_a_98 r0_touch_writes_n_98 r0_touch_writes_c_98) (wfM (⟨[], (⟨[], []⟩ : TouchD)⟩ : MachD) 3 0 (s.extract 0 (1 + rK))).touch.writes, bx b94 [.slice none 0 0, .slice none 0 0, .slice none 0 0] 31, bx b63 [.slice r0_store_a_58 r0_store_n_58 r0_store_c_58, .slice r0_touch_reads_a_58 r0_touch_reads_n_58 r0_touch_reads_c_58, .slice r0_touch_writes_a_58 r0_touch_writes_n_58 r0_touch_writes_c_58] 31, ow 53 2 encC okC (.slice r0_store_a_58 r0_store_n_58 r0_store_c_58) (wfM (⟨[], (⟨[], []⟩ : TouchD)⟩ : MachD) 3 0 s).store, ow 9 1 encS okS (.slice r0_touch_reads_a_58 r0_touch_reads_n_58 r0_touch_reads_c_58) (wfM (⟨[], (⟨[], []⟩ : TouchD)⟩ : MachD) 3 0 s).touch.reads, ow 9 1 encS okS (.slice r0_touch_writes_a_58 r0_touch_writes_n_58 r0_touch_writes_c_58) (wfM (⟨[], (⟨[], []⟩ : TouchD)⟩ : MachD) 3 0 s).touch.writes] _ := At.frame S96.at' [] rfl m98
           obtain ⟨lo98_0, lp98_0, lq98_0⟩ := At.ownInv S98.at' ET_26.hk 0 rfl
           obtain ⟨lo98_1, lp98_1, lq98_1⟩ := At.ownInv S98.at' ET_27.hk 1 rfl
           obtain ⟨lo98_2, lp98_2, lq98_2⟩ := At.ownInv S98.at' ET_27.hk 2 rfl
           clear m98
           refine ⟨Sd.of (S94.trans (S96.trans S98)) [] rfl, ?_⟩
           refine g_take F99 rfl (i := 5) (listed' := #[true, true, true, true, true, true, false, false, true, false, false]) rfl (by kernel_rfl) (by kernel_rfl) (by kernel_rfl) (fun _ _ _ h => h) (Sd.of (S94.trans (S96.trans S98)) [] rfl) rfl rfl rfl rfl (fun _ hz => (r_move rfl (F99.ev 48 rfl))) fun _ F100 => ?_
           refine g_take (v := .agg #[.slice r0_store_a_98 r0_store_n_98 r0_store_c_98, .slice r0_touch_reads_a_98 r0_touch_reads_n_98 r0_touch_reads_c_98, .slice r0_touch_writes_a_98 r0_touch_writes_n_98 r0_touch_writes_c_98]) F100 rfl (i := 6) (listed' := #[true, true, true, true, true, true, true, false, true, false, false]) rfl (by kernel_rfl) (by kernel_rfl) (by kernel_rfl) (fun _ _ _ h => h) (Sd.of (S94.trans (S96.trans S98)) [] rfl) rfl rfl rfl rfl (fun _ hz => (r_extract rfl (F100.ev 43 rfl) rfl)) fun _ F101 => ?_
           refine g_take (v := .int .i64 (wfC (⟨[], (⟨[], []⟩ : TouchD)⟩ : MachD) 3 0 (s.extract 0 (1 + rK)))) F101 rfl (i := 7) (listed' := #[true, true, true, true, true, true, true, true, true, false, false]) rfl (by kernel_rfl) (by kernel_rfl) (by kernel_rfl) (fun _ _ _ h => h) (Sd.of (S94.trans (S96.trans S98)) [] rfl) rfl rfl rfl rfl (fun _ hz => (r_extract rfl (F101.ev 43 rfl) rfl)) fun _ F102 => ?_
           refine d_one (i := 9) (listed' := #[true, true, true, true, true, true, true, true, true, true, false]) rfl (by kernel_rfl) rfl rfl ?_
           refine s_store S98.at' 3 TI_31 rfl rfl rfl rfl rfl (F102.ev 9 rfl) (F102.ev 49 rfl) rfl rfl rfl rfl rfl fun w103 S103 => ?_
           refine ⟨Sd.of (S94.trans (S96.trans (S98.trans S103))) [] rfl, ?_⟩
           refine g_take F102 rfl (i := 10) (listed' := #[true, true, true, true, true, true, true, true, true, true, true]) rfl (by kernel_rfl) (by kernel_rfl) (by kernel_rfl) (fun _ _ _ h => h) (Sd.of (S94.trans (S96.trans (S98.trans S103))) [] rfl) rfl rfl rfl rfl (fun _ hz => (r_assign rfl (F102.ev 50 rfl))) fun _ F104 => ?_
           refine wpAnyH_done (by kernel_rfl) (x_normal ?_) _
           exact ⟨r0_store_a_96, r0_store_n_96, r0_store_c_96, r0_touch_reads_a_96, r0_touch_reads_n_96, r0_touch_reads_c_96, r0_touch_writes_a_96, r0_touch_writes_n_96, r0_touch_writes_c_96, r0_store_a_98, r0_store_n_98, r0_store_c_98, r0_touch_reads_a_98, r0_touch_reads_n_98, r0_touch_reads_c_98, r0_touch_writes_a_98, r0_touch_writes_n_98, r0_touch_writes_c_98, b94, F104.cut rfl, ((S70.trans (S94.trans (S96.trans (S98.trans S103)))).pick [4, 5, 6, 7, 1, 2, 3, 0] rfl)⟩
       · rintro a105 w105 ⟨r0_store_a_74, r0_store_n_74, r0_store_c_74, r0_touch_reads_a_74, r0_touch_reads_n_74, r0_touch_reads_c_74, r0_touch_writes_a_74, r0_touch_writes_n_74, r0_touch_writes_c_74, r0_store_a_76, r0_store_n_76, r0_store_c_76, r0_touch_reads_a_76, r0_touch_reads_n_76, r0_touch_reads_c_76, r0_touch_writes_a_76, r0_touch_writes_n_76, r0_touch_writes_c_76, b81, F105, S105⟩
         obtain ⟨lo105_4, lp105_4, lq105_4⟩ := At.ownInv S105.at' ET_26.hk 4 rfl
         obtain ⟨lo105_5, lp105_5, lq105_5⟩ := At.ownInv S105.at' ET_27.hk 5 rfl
         obtain ⟨lo105_6, lp105_6, lq105_6⟩ := At.ownInv S105.at' ET_27.hk 6 rfl
         refine x_normal (wp_seq ?_)
         refine x_draw (fun aZ wZ => ∃ (r0_store_a_113 : Option Addr), ∃ (r0_store_n_113 : Nat), ∃ (r0_store_c_113 : Nat), ∃ (r0_touch_reads_a_113 : Option Addr), ∃ (r0_touch_reads_n_113 : Nat), ∃ (r0_touch_reads_c_113 : Nat), ∃ (r0_touch_writes_a_113 : Option Addr), ∃ (r0_touch_writes_n_113 : Nat), ∃ (r0_touch_writes_c_113 : Nat), Fr 87 [(4, .string s), (7, .pointer (some ⟨b63, 0, none⟩)), (8, .int .i64 (wfC (⟨[], (⟨[], []⟩ : TouchD)⟩ : MachD) 3 0 s)), (9, .pointer (some ⟨b81, 0, none⟩)), (10, .int .i64 (wfC (⟨[], (⟨[], []⟩ : TouchD)⟩ : MachD) 3 0 (s.extract 0 (1 + rK)))), (11, .int .i64 (wfC (wfM (⟨[], (⟨[], []⟩ : TouchD)⟩ : MachD) 3 0 (s.extract 0 (1 + rK))) 3 ((1 + rK : Nat) : Int) (s.extract (1 + rK) s.size)))] aZ ∧ Mv [bx b63 [.slice r0_store_a_58 r0_store_n_58 r0_store_c_58, .slice r0_touch_reads_a_58 r0_touch_reads_n_58 r0_touch_reads_c_58, .slice r0_touch_writes_a_58 r0_touch_writes_n_58 r0_touch_writes_c_58] 31, ow 53 2 encC okC (.slice r0_store_a_58 r0_store_n_58 r0_store_c_58) (wfM (⟨[], (⟨[], []⟩ : TouchD)⟩ : MachD) 3 0 s).store, ow 9 1 encS okS (.slice r0_touch_reads_a_58 r0_touch_reads_n_58 r0_touch_reads_c_58) (wfM (⟨[], (⟨[], []⟩ : TouchD)⟩ : MachD) 3 0 s).touch.reads, ow 9 1 encS okS (.slice r0_touch_writes_a_58 r0_touch_writes_n_58 r0_touch_writes_c_58) (wfM (⟨[], (⟨[], []⟩ : TouchD)⟩ : MachD) 3 0 s).touch.writes, ow 53 2 encC okC (.slice r0_store_a_76 r0_store_n_76 r0_store_c_76) (wfM (⟨[], (⟨[], []⟩ : TouchD)⟩ : MachD) 3 0 (s.extract 0 (1 + rK))).store, ow 9 1 encS okS (.slice r0_touch_reads_a_76 r0_touch_reads_n_76 r0_touch_reads_c_76) (wfM (⟨[], (⟨[], []⟩ : TouchD)⟩ : MachD) 3 0 (s.extract 0 (1 + rK))).touch.reads, ow 9 1 encS okS (.slice r0_touch_writes_a_76 r0_touch_writes_n_76 r0_touch_writes_c_76) (wfM (⟨[], (⟨[], []⟩ : TouchD)⟩ : MachD) 3 0 (s.extract 0 (1 + rK))).touch.writes, bx b81 [.slice r0_store_a_76 r0_store_n_76 r0_store_c_76, .slice r0_touch_reads_a_76 r0_touch_reads_n_76 r0_touch_reads_c_76, .slice r0_touch_writes_a_76 r0_touch_writes_n_76 r0_touch_writes_c_76] 31] w105 [bx b63 [.slice r0_store_a_58 r0_store_n_58 r0_store_c_58, .slice r0_touch_reads_a_58 r0_touch_reads_n_58 r0_touch_reads_c_58, .slice r0_touch_writes_a_58 r0_touch_writes_n_58 r0_touch_writes_c_58] 31, ow 53 2 encC okC (.slice r0_store_a_58 r0_store_n_58 r0_store_c_58) (wfM (⟨[], (⟨[], []⟩ : TouchD)⟩ : MachD) 3 0 s).store, ow 9 1 encS okS (.slice r0_touch_reads_a_58 r0_touch_reads_n_58 r0_touch_reads_c_58) (wfM (⟨[], (⟨[], []⟩ : TouchD)⟩ : MachD) 3 0 s).touch.reads, ow 9 1 encS okS (.slice r0_touch_writes_a_58 r0_touch_writes_n_58 r0_touch_writes_c_58) (wfM (⟨[], (⟨[], []⟩ : TouchD)⟩ : MachD) 3 0 s).touch.writes, ow 53 2 encC okC (.slice r0_store_a_76 r0_store_n_76 r0_store_c_76) (wfM (⟨[], (⟨[], []⟩ : TouchD)⟩ : MachD) 3 0 (s.extract 0 (1 + rK))).store, ow 9 1 encS okS (.slice r0_touch_reads_a_76 r0_touch_reads_n_76 r0_touch_reads_c_76) (wfM (⟨[], (⟨[], []⟩ : TouchD)⟩ : MachD) 3 0 (s.extract 0 (1 + rK))).touch.reads, ow 9 1 encS okS (.slice r0_touch_writes_a_76 r0_touch_writes_n_76 r0_touch_writes_c_76) (wfM (⟨[], (⟨[], []⟩ : TouchD)⟩ : MachD) 3 0 (s.extract 0 (1 + rK))).touch.writes, bx b81 [.slice r0_store_a_113 r0_store_n_113 r0_store_c_113, .slice r0_touch_reads_a_113 r0_touch_reads_n_113 r0_touch_reads_c_113, .slice r0_touch_writes_a_113 r0_touch_writes_n_113 r0_touch_writes_c_113] 31, ow 53 2 encC okC (.slice r0_store_a_113 r0_store_n_113 r0_store_c_113) (wfM (wfM (⟨[], (⟨[], []⟩ : TouchD)⟩ : MachD) 3 0 (s.extract 0 (1 + rK))) 3 ((1 + rK : Nat) : Int) (s.extract (1 + rK) s.size)).store, ow 9 1 encS okS (.slice r0_touch_reads_a_113 r0_touch_reads_n_113 r0_touch_reads_c_113) (wfM (wfM (⟨[], (⟨[], []⟩ : TouchD)⟩ : MachD) 3 0 (s.extract 0 (1 + rK))) 3 ((1 + rK : Nat) : Int) (s.extract (1 + rK) s.size)).touch.reads, ow 9 1 encS okS (.slice r0_touch_writes_a_113 r0_touch_writes_n_113 r0_touch_writes_c_113) (wfM (wfM (⟨[], (⟨[], []⟩ : TouchD)⟩ : MachD) 3 0 (s.extract 0 (1 + rK))) 3 ((1 + rK : Nat) : Int) (s.extract (1 + rK) s.size)).touch.writes] wZ) [] mixed S105.at' (listed := #[false, false, false, false, false, false, false, false, false, false, false]) rfl (fun w107 S107 => ?_) [] rfl ?_
         · skip
           refine g_take F105 rfl (i := 1) (listed' := #[false, true, false, false, false, false, false, false, false, false, false]) rfl (by kernel_rfl) (by kernel_rfl) (by kernel_rfl) (fun _ _ _ h => h) (Sd.of (Mv.refl S107.at') [] rfl) rfl rfl rfl rfl (fun _ hz => (r_move rfl (F105.ev 6 rfl))) fun _ F108 => ?_
           refine g_take F108 rfl (i := 2) (listed' := #[false, true, true, false, false, false, false, false, false, false, false]) rfl (by kernel_rfl) (by kernel_rfl) (by kernel_rfl) (fun _ _ _ h => h) (Sd.of (Mv.refl S107.at') [] rfl) rfl rfl rfl rfl (fun _ hz => (r_move rfl (F108.ev 4 rfl))) fun _ F109 => ?_
           refine g_take F109 rfl (i := 3) (listed' := #[false, true, true, true, false, false, false, false, false, false, false]) rfl (by kernel_rfl) (by kernel_rfl) (by kernel_rfl) (fun _ _ _ h => h) (Sd.of (Mv.refl S107.at') [] rfl) rfl rfl rfl rfl (fun _ hz => (r_move rfl (F109.ev 6 rfl))) fun _ F110 => ?_
           refine g_take F110 rfl (i := 4) (listed' := #[false, true, true, true, true, false, false, false, false, false, false]) rfl (by kernel_rfl) (by kernel_rfl) (by kernel_rfl) (fun _ _ _ h => h) (Sd.of (Mv.refl S107.at') [] rfl) rfl rfl rfl rfl (fun _ hz => (r_sliceS (l := 1 + rK) (h := s.size) Tryd.underlying9 rfl (F110.ev 54 rfl) (F110.ev 55 rfl) rfl (by omega) (by omega) rfl)) fun _ F111 => ?_
           refine d_one (i := 0) (listed' := #[true, true, true, true, true, false, false, false, false, false, false]) rfl (by kernel_rfl) rfl rfl ?_
           refine f_val (v := .agg #[.slice r0_store_a_76 r0_store_n_76 r0_store_c_76, .slice r0_touch_reads_a_76 r0_touch_reads_n_76 r0_touch_reads_c_76, .slice r0_touch_writes_a_76 r0_touch_writes_n_76 r0_touch_writes_c_76]) F111 rfl rfl (r_loadB S107.at' 7 TI_31 rfl rfl (F111.ev 9 rfl) rfl rfl (fun h => nomatch h) rfl) rfl fun _ F112 => ?_
           refine ⟨Sd.of (Mv.refl S107.at') [] rfl, ?_⟩
           refine d_one (i := 5) (listed' := #[true, true, true, true, true, true, false, false, false, false, false]) rfl (by kernel_rfl) rfl rfl ?_
           refine f_call F112 CF_9 rfl rfl rfl rfl (lc (F112.ev 52 rfl) (lc rfl (lc (F112.ev 53 rfl) (lc (F112.ev 56 rfl) rfl)))) (impl_WriteFile_c (H := fun _ => True) (m := (wfM (⟨[], (⟨[], []⟩ : TouchD)⟩ : MachD) 3 0 (s.extract 0 (1 + rK)))) (id := 3) (at_ := ((1 + rK : Nat) : Int)) (text := s.extract (1 + rK) s.size) (At.rd S107.at' ET_26.hk 4 rfl) (At.rd S107.at' ET_27.hk 5 rfl) (At.rd S107.at' ET_27.hk 6 rfl) (by first | assumption | exact ⟨by omega, by omega⟩ | (unfold i64ok at *; omega)) (by first | assumption | exact ⟨by omega, by omega⟩ | (unfold i64ok at *; omega)) (okS_ext kk21_0) (Tb.top (Tb.mv V_tab0 (T7.trans (T16.trans (S21.trans (S55.trans (S58.trans (S63.trans (T68.trans (S105.trans S107)))))))))) (Tb.top (Tb.mv V_tab1 (T7.trans (T16.trans (S21.trans (S55.trans (S58.trans (S63.trans (T68.trans (S105.trans S107)))))))))) (Tb.top (Tb.mv V_tab2 (T7.trans (T16.trans (S21.trans (S55.trans (S58.trans (S63.trans (T68.trans (S105.trans S107)))))))))) (by first | assumption | omega | (refine bdC.s ?_; (repeat (first | with_reducible refine bdC.look ?_ | with_reducible refine bdC.lay ?_ | with_reducible refine bdC.set ?_ | with_reducible refine bdC.wf ?_ | with_reducible refine bdC.rf ?_ | with_reducible refine bdC.ct ?_)); exact bdC.le (by assumption) (by first | decide | omega)) | (refine bdC.r ?_; (repeat (first | with_reducible refine bdC.look ?_ | with_reducible refine bdC.lay ?_ | with_reducible refine bdC.set ?_ | with_reducible refine bdC.wf ?_ | with_reducible refine bdC.rf ?_ | with_reducible refine bdC.ct ?_)); exact bdC.le (by assumption) (by first | decide | omega)) | (refine bdC.w ?_; (repeat (first | with_reducible refine bdC.look ?_ | with_reducible refine bdC.lay ?_ | with_reducible refine bdC.set ?_ | with_reducible refine bdC.wf ?_ | with_reducible refine bdC.rf ?_ | with_reducible refine bdC.ct ?_)); exact bdC.le (by assumption) (by first | decide | omega)) | ((repeat (first | with_reducible refine bdC.look ?_ | with_reducible refine bdC.lay ?_ | with_reducible refine bdC.set ?_ | with_reducible refine bdC.wf ?_ | with_reducible refine bdC.rf ?_ | with_reducible refine bdC.ct ?_)); exact bdC.le (by assumption) (by first | decide | omega)) | decide | exact Nat.le_trans (keyNum_size _ _ (by assumption)) (by decide) | exact Nat.le_trans (keyNum_size _ _ ⟨by omega, by omega⟩) (by decide)) (by first | omega | (rw [ByteArray.size_extract]; omega))) ?_
           rintro _ w113 ⟨r0_store_a_113, r0_store_n_113, r0_store_c_113, r0_touch_reads_a_113, r0_touch_reads_n_113, r0_touch_reads_c_113, r0_touch_writes_a_113, r0_touch_writes_n_113, r0_touch_writes_c_113, rfl, m113⟩
           refine ⟨_, rfl, fun _ F114 => ?_⟩
           have S113 : Mv _ _ [ow 53 2 encC okC (.slice r0_store_a_113 r0_store_n_113 r0_store_c_113) (wfM (wfM (⟨[], (⟨[], []⟩ : TouchD)⟩ : MachD) 3 0 (s.extract 0 (1 + rK))) 3 ((1 + rK : Nat) : Int) (s.extract (1 + rK) s.size)).store, ow 9 1 encS okS (.slice r0_touch_reads_a_113 r0_touch_reads_n_113 r0_touch_reads_c_113) (wfM (wfM (⟨[], (⟨[], []⟩ : TouchD)⟩ : MachD) 3 0 (s.extract 0 (1 + rK))) 3 ((1 + rK : Nat) : Int) (s.extract (1 + rK) s.size)).touch.reads, ow 9 1 encS okS (.slice r0_touch_writes_a_113 r0_touch_writes_n_113 r0_touch_writes_c_113) (wfM (wfM (⟨[], (⟨[], []⟩ : TouchD)⟩ : MachD) 3 0 (s.extract 0 (1 + rK))) 3 ((1 + rK : Nat) : Int) (s.extract (1 + rK) s.size)).touch.writes, bx b63 [.slice r0_store_a_58 r0_store_n_58 r0_store_c_58, .slice r0_touch_reads_a_58 r0_touch_reads_n_58 r0_touch_reads_c_58, .slice r0_touch_writes_a_58 r0_touch_writes_n_58 r0_touch_writes_c_58] 31, ow 53 2 encC okC (.slice r0_store_a_58 r0_store_n_58 r0_store_c_58) (wfM (⟨[], (⟨[], []⟩ : TouchD)⟩ : MachD) 3 0 s).store, ow 9 1 encS okS (.slice r0_touch_reads_a_58 r0_touch_reads_n_58 r0_touch_reads_c_58) (wfM (⟨[], (⟨[], []⟩ : TouchD)⟩ : MachD) 3 0 s).touch.reads, ow 9 1 encS okS (.slice r0_touch_writes_a_58 r0_touch_writes_n_58 r0_touch_writes_c_58) (wfM (⟨[], (⟨[], []⟩ : TouchD)⟩ : MachD) 3 0 s).touch.writes, ow 53 2 encC okC (.slice r0_store_a_76 r0_store_n_76 r0_store_c_76) (wfM (⟨[], (⟨[], []⟩ : TouchD)⟩ : MachD) 3 0 (s.extract 0 (1 + rK))).store, ow 9 1 encS okS (.slice r0_touch_reads_a_76 r0_touch_reads_n_76 r0_touch_reads_c_76) (wfM (⟨[], (⟨[], []⟩ : TouchD)⟩ : MachD) 3 0 (s.extract 0 (1 + rK))).touch.reads, ow 9 1 encS okS (.slice r0_touch_writes_a_76 r0_touch_writes_n_76 r0_touch_writes_c_76) (wfM (⟨[], (⟨[], []⟩ : TouchD)⟩ : MachD) 3 0 (s.extract 0 (1 + rK))).touch.writes, bx b81 [.slice r0_store_a_76 r0_store_n_76 r0_store_c_76, .slice r0_touch_reads_a_76 r0_touch_reads_n_76 r0_touch_reads_c_76, .slice r0_touch_writes_a_76 r0_touch_writes_n_76 r0_touch_writes_c_76] 31] _ := At.frame S107.at' [] rfl m113
           obtain ⟨lo113_0, lp113_0, lq113_0⟩ := At.ownInv S113.at' ET_26.hk 0 rfl
           obtain ⟨lo113_1, lp113_1, lq113_1⟩ := At.ownInv S113.at' ET_27.hk 1 rfl
           obtain ⟨lo113_2, lp113_2, lq113_2⟩ := At.ownInv S113.at' ET_27.hk 2 rfl
           clear m113
           refine ⟨Sd.of S113 [] rfl, ?_⟩
           refine g_take F114 rfl (i := 6) (listed' := #[true, true, true, true, true, true, true, false, false, false, false]) rfl (by kernel_rfl) (by kernel_rfl) (by kernel_rfl) (fun _ _ _ h => h) (Sd.of S113 [] rfl) rfl rfl rfl rfl (fun _ hz => (r_move rfl (F114.ev 57 rfl))) fun _ F115 => ?_
           refine g_take (v := .agg #[.slice r0_store_a_113 r0_store_n_113 r0_store_c_113, .slice r0_touch_reads_a_113 r0_touch_reads_n_113 r0_touch_reads_c_113, .slice r0_touch_writes_a_113 r0_touch_writes_n_113 r0_touch_writes_c_113]) F115 rfl (i := 7) (listed' := #[true, true, true, true, true, true, true, true, false, false, false]) rfl (by kernel_rfl) (by kernel_rfl) (by kernel_rfl) (fun _ _ _ h => h) (Sd.of S113 [] rfl) rfl rfl rfl rfl (fun _ hz => (r_extract rfl (F115.ev 51 rfl) rfl)) fun _ F116 => ?_
           refine g_take (v := .int .i64 (wfC (wfM (⟨[], (⟨[], []⟩ : TouchD)⟩ : MachD) 3 0 (s.extract 0 (1 + rK))) 3 ((1 + rK : Nat) : Int) (s.extract (1 + rK) s.size))) F116 rfl (i := 8) (listed' := #[true, true, true, true, true, true, true, true, true, false, false]) rfl (by kernel_rfl) (by kernel_rfl) (by kernel_rfl) (fun _ _ _ h => h) (Sd.of S113 [] rfl) rfl rfl rfl rfl (fun _ hz => (r_extract rfl (F116.ev 51 rfl) rfl)) fun _ F117 => ?_
           refine d_one (i := 9) (listed' := #[true, true, true, true, true, true, true, true, true, true, false]) rfl (by kernel_rfl) rfl rfl ?_
           refine s_store S113.at' 10 TI_31 rfl rfl rfl rfl rfl (F117.ev 9 rfl) (F117.ev 58 rfl) rfl rfl rfl rfl rfl fun w118 S118 => ?_
           refine ⟨Sd.of (S113.trans S118) [] rfl, ?_⟩
           refine g_take F117 rfl (i := 10) (listed' := #[true, true, true, true, true, true, true, true, true, true, true]) rfl (by kernel_rfl) (by kernel_rfl) (by kernel_rfl) (fun _ _ _ h => h) (Sd.of (S113.trans S118) [] rfl) rfl rfl rfl rfl (fun _ hz => (r_assign rfl (F117.ev 59 rfl))) fun _ F119 => ?_
           refine wpAnyH_done (by kernel_rfl) (x_normal ?_) _
           exact ⟨r0_store_a_113, r0_store_n_113, r0_store_c_113, r0_touch_reads_a_113, r0_touch_reads_n_113, r0_touch_reads_c_113, r0_touch_writes_a_113, r0_touch_writes_n_113, r0_touch_writes_c_113, F119.cut rfl, ((S107.trans (S113.trans S118)).pick [4, 5, 6, 7, 8, 9, 10, 0, 1, 2, 3] rfl)⟩
         · rintro a120 w120 ⟨r0_store_a_113, r0_store_n_113, r0_store_c_113, r0_touch_reads_a_113, r0_touch_reads_n_113, r0_touch_reads_c_113, r0_touch_writes_a_113, r0_touch_writes_n_113, r0_touch_writes_c_113, F120, S120⟩
           obtain ⟨lo120_8, lp120_8, lq120_8⟩ := At.ownInv S120.at' ET_26.hk 8 rfl
           obtain ⟨lo120_9, lp120_9, lq120_9⟩ := At.ownInv S120.at' ET_27.hk 9 rfl
           obtain ⟨lo120_10, lp120_10, lq120_10⟩ := At.ownInv S120.at' ET_27.hk 10 rfl
           refine x_normal (wp_seq (wp_region_lit (l_op (f_val (v := .agg #[.slice r0_store_a_113 r0_store_n_113 r0_store_c_113, .slice r0_touch_reads_a_113 r0_touch_reads_n_113 r0_touch_reads_c_113, .slice r0_touch_writes_a_113 r0_touch_writes_n_113 r0_touch_writes_c_113]) F120 rfl rfl (r_loadB S120.at' 7 TI_31 rfl rfl (F120.ev 9 rfl) rfl rfl (fun h => nomatch h) rfl) rfl fun _ F121 => ?_))))
           refine l_op (f_call F121 CF_15 rfl rfl rfl rfl (lc (F121.ev 61 rfl) (lc rfl rfl)) (impl_TextOf_c (H := fun _ => True) (m := (wfM (wfM (⟨[], (⟨[], []⟩ : TouchD)⟩ : MachD) 3 0 (s.extract 0 (1 + rK))) 3 ((1 + rK : Nat) : Int) (s.extract (1 + rK) s.size))) (id := 3) (At.rd S120.at' ET_26.hk 8 rfl) (At.rd S120.at' ET_27.hk 9 rfl) (At.rd S120.at' ET_27.hk 10 rfl) (by first | assumption | exact ⟨by omega, by omega⟩ | (unfold i64ok at *; omega)) (Tb.top (Tb.mv V_tab0 (T7.trans (T16.trans (S21.trans (S55.trans (S58.trans (S63.trans (T68.trans (S105.trans S120)))))))))) (Tb.top (Tb.mv V_tab1 (T7.trans (T16.trans (S21.trans (S55.trans (S58.trans (S63.trans (T68.trans (S105.trans S120)))))))))) (Tb.top (Tb.mv V_tab2 (T7.trans (T16.trans (S21.trans (S55.trans (S58.trans (S63.trans (T68.trans (S105.trans S120)))))))))) (by first | assumption | omega | (refine bdC.s ?_; (repeat (first | with_reducible refine bdC.look ?_ | with_reducible refine bdC.lay ?_ | with_reducible refine bdC.set ?_ | with_reducible refine bdC.wf ?_ | with_reducible refine bdC.rf ?_ | with_reducible refine bdC.ct ?_)); exact bdC.le (by assumption) (by first | decide | omega)) | (refine bdC.r ?_; (repeat (first | with_reducible refine bdC.look ?_ | with_reducible refine bdC.lay ?_ | with_reducible refine bdC.set ?_ | with_reducible refine bdC.wf ?_ | with_reducible refine bdC.rf ?_ | with_reducible refine bdC.ct ?_)); exact bdC.le (by assumption) (by first | decide | omega)) | (refine bdC.w ?_; (repeat (first | with_reducible refine bdC.look ?_ | with_reducible refine bdC.lay ?_ | with_reducible refine bdC.set ?_ | with_reducible refine bdC.wf ?_ | with_reducible refine bdC.rf ?_ | with_reducible refine bdC.ct ?_)); exact bdC.le (by assumption) (by first | decide | omega)) | ((repeat (first | with_reducible refine bdC.look ?_ | with_reducible refine bdC.lay ?_ | with_reducible refine bdC.set ?_ | with_reducible refine bdC.wf ?_ | with_reducible refine bdC.rf ?_ | with_reducible refine bdC.ct ?_)); exact bdC.le (by assumption) (by first | decide | omega)) | decide | exact Nat.le_trans (keyNum_size _ _ (by assumption)) (by decide) | exact Nat.le_trans (keyNum_size _ _ ⟨by omega, by omega⟩) (by decide))) ?_)
           rintro _ w122 ⟨r0_store_a_122, r0_store_n_122, r0_store_c_122, r0_touch_reads_a_122, r0_touch_reads_n_122, r0_touch_reads_c_122, r0_touch_writes_a_122, r0_touch_writes_n_122, r0_touch_writes_c_122, rfl, m122, ok_r1_122⟩
           refine ⟨_, rfl, fun _ F123 => ?_⟩
           have S122 : Mv _ _ [ow 53 2 encC okC (.slice r0_store_a_122 r0_store_n_122 r0_store_c_122) (rfM (wfM (wfM (⟨[], (⟨[], []⟩ : TouchD)⟩ : MachD) 3 0 (s.extract 0 (1 + rK))) 3 ((1 + rK : Nat) : Int) (s.extract (1 + rK) s.size)) 3 0 999).store, ow 9 1 encS okS (.slice r0_touch_reads_a_122 r0_touch_reads_n_122 r0_touch_reads_c_122) (rfM (wfM (wfM (⟨[], (⟨[], []⟩ : TouchD)⟩ : MachD) 3 0 (s.extract 0 (1 + rK))) 3 ((1 + rK : Nat) : Int) (s.extract (1 + rK) s.size)) 3 0 999).touch.reads, ow 9 1 encS okS (.slice r0_touch_writes_a_122 r0_touch_writes_n_122 r0_touch_writes_c_122) (rfM (wfM (wfM (⟨[], (⟨[], []⟩ : TouchD)⟩ : MachD) 3 0 (s.extract 0 (1 + rK))) 3 ((1 + rK : Nat) : Int) (s.extract (1 + rK) s.size)) 3 0 999).touch.writes, bx b63 [.slice r0_store_a_58 r0_store_n_58 r0_store_c_58, .slice r0_touch_reads_a_58 r0_touch_reads_n_58 r0_touch_reads_c_58, .slice r0_touch_writes_a_58 r0_touch_writes_n_58 r0_touch_writes_c_58] 31, ow 53 2 encC okC (.slice r0_store_a_58 r0_store_n_58 r0_store_c_58) (wfM (⟨[], (⟨[], []⟩ : TouchD)⟩ : MachD) 3 0 s).store, ow 9 1 encS okS (.slice r0_touch_reads_a_58 r0_touch_reads_n_58 r0_touch_reads_c_58) (wfM (⟨[], (⟨[], []⟩ : TouchD)⟩ : MachD) 3 0 s).touch.reads, ow 9 1 encS okS (.slice r0_touch_writes_a_58 r0_touch_writes_n_58 r0_touch_writes_c_58) (wfM (⟨[], (⟨[], []⟩ : TouchD)⟩ : MachD) 3 0 s).touch.writes, ow 53 2 encC okC (.slice r0_store_a_76 r0_store_n_76 r0_store_c_76) (wfM (⟨[], (⟨[], []⟩ : TouchD)⟩ : MachD) 3 0 (s.extract 0 (1 + rK))).store, ow 9 1 encS okS (.slice r0_touch_reads_a_76 r0_touch_reads_n_76 r0_touch_reads_c_76) (wfM (⟨[], (⟨[], []⟩ : TouchD)⟩ : MachD) 3 0 (s.extract 0 (1 + rK))).touch.reads, ow 9 1 encS okS (.slice r0_touch_writes_a_76 r0_touch_writes_n_76 r0_touch_writes_c_76) (wfM (⟨[], (⟨[], []⟩ : TouchD)⟩ : MachD) 3 0 (s.extract 0 (1 + rK))).touch.writes, bx b81 [.slice r0_store_a_113 r0_store_n_113 r0_store_c_113, .slice r0_touch_reads_a_113 r0_touch_reads_n_113 r0_touch_reads_c_113, .slice r0_touch_writes_a_113 r0_touch_writes_n_113 r0_touch_writes_c_113] 31, ow 53 2 encC okC (.slice r0_store_a_113 r0_store_n_113 r0_store_c_113) (wfM (wfM (⟨[], (⟨[], []⟩ : TouchD)⟩ : MachD) 3 0 (s.extract 0 (1 + rK))) 3 ((1 + rK : Nat) : Int) (s.extract (1 + rK) s.size)).store, ow 9 1 encS okS (.slice r0_touch_reads_a_113 r0_touch_reads_n_113 r0_touch_reads_c_113) (wfM (wfM (⟨[], (⟨[], []⟩ : TouchD)⟩ : MachD) 3 0 (s.extract 0 (1 + rK))) 3 ((1 + rK : Nat) : Int) (s.extract (1 + rK) s.size)).touch.reads, ow 9 1 encS okS (.slice r0_touch_writes_a_113 r0_touch_writes_n_113 r0_touch_writes_c_113) (wfM (wfM (⟨[], (⟨[], []⟩ : TouchD)⟩ : MachD) 3 0 (s.extract 0 (1 + rK))) 3 ((1 + rK : Nat) : Int) (s.extract (1 + rK) s.size)).touch.writes] _ := At.frame S120.at' [] rfl m122
           obtain ⟨lo122_0, lp122_0, lq122_0⟩ := At.ownInv S122.at' ET_26.hk 0 rfl
           obtain ⟨lo122_1, lp122_1, lq122_1⟩ := At.ownInv S122.at' ET_27.hk 1 rfl
           obtain ⟨lo122_2, lp122_2, lq122_2⟩ := At.ownInv S122.at' ET_27.hk 2 rfl
           clear m122
           refine l_op (f_mv F123 rfl rfl rfl rfl rfl fun _ F124 => ?_)
           refine l_op (f_val (v := .agg #[.slice r0_store_a_122 r0_store_n_122 r0_store_c_122, .slice r0_touch_reads_a_122 r0_touch_reads_n_122 r0_touch_reads_c_122, .slice r0_touch_writes_a_122 r0_touch_writes_n_122 r0_touch_writes_c_122]) F124 rfl rfl (r_extract rfl (F124.ev 60 rfl) rfl) rfl fun _ F125 => ?_)
           refine l_op (f_val (v := .string (rfT (wfM (wfM (⟨[], (⟨[], []⟩ : TouchD)⟩ : MachD) 3 0 (s.extract 0 (1 + rK))) 3 ((1 + rK : Nat) : Int) (s.extract (1 + rK) s.size)) 3 0 999)) F125 rfl rfl (r_extract rfl (F125.ev 60 rfl) rfl) rfl fun _ F126 => ?_)
           refine l_op (f_alloc F126 S122.at' ZI_31 rfl rfl rfl rfl rfl fun b127 _ w127 F128 S127 => ?_)
           refine l_op (s_store S127.at' 0 TI_31 rfl rfl rfl rfl rfl (F128.ev 12 rfl) (F128.ev 63 rfl) rfl rfl rfl rfl rfl fun w129 S129 => ?_)
           refine l_op (f_as F128 rfl rfl rfl rfl rfl fun _ F130 => ?_)
           have F131 : Fr 87 [(13, .string (rfT (wfM (wfM (⟨[], (⟨[], []⟩ : TouchD)⟩ : MachD) 3 0 (s.extract 0 (1 + rK))) 3 ((1 + rK : Nat) : Int) (s.extract (1 + rK) s.size)) 3 0 999)), (4, .string s), (7, .pointer (some ⟨b63, 0, none⟩)), (8, .int .i64 (wfC (⟨[], (⟨[], []⟩ : TouchD)⟩ : MachD) 3 0 s)), (9, .pointer (some ⟨b81, 0, none⟩)), (10, .int .i64 (wfC (⟨[], (⟨[], []⟩ : TouchD)⟩ : MachD) 3 0 (s.extract 0 (1 + rK)))), (11, .int .i64 (wfC (wfM (⟨[], (⟨[], []⟩ : TouchD)⟩ : MachD) 3 0 (s.extract 0 (1 + rK))) 3 ((1 + rK : Nat) : Int) (s.extract (1 + rK) s.size)))] _ := F130.cut rfl
           clear F120 F121 F123 F124 F125 F126 F128 F130
           have T132 : Mv _ _ [bx b127 [.slice r0_store_a_122 r0_store_n_122 r0_store_c_122, .slice r0_touch_reads_a_122 r0_touch_reads_n_122 r0_touch_reads_c_122, .slice r0_touch_writes_a_122 r0_touch_writes_n_122 r0_touch_writes_c_122] 31, ow 53 2 encC okC (.slice r0_store_a_122 r0_store_n_122 r0_store_c_122) (rfM (wfM (wfM (⟨[], (⟨[], []⟩ : TouchD)⟩ : MachD) 3 0 (s.extract 0 (1 + rK))) 3 ((1 + rK : Nat) : Int) (s.extract (1 + rK) s.size)) 3 0 999).store, ow 9 1 encS okS (.slice r0_touch_reads_a_122 r0_touch_reads_n_122 r0_touch_reads_c_122) (rfM (wfM (wfM (⟨[], (⟨[], []⟩ : TouchD)⟩ : MachD) 3 0 (s.extract 0 (1 + rK))) 3 ((1 + rK : Nat) : Int) (s.extract (1 + rK) s.size)) 3 0 999).touch.reads, ow 9 1 encS okS (.slice r0_touch_writes_a_122 r0_touch_writes_n_122 r0_touch_writes_c_122) (rfM (wfM (wfM (⟨[], (⟨[], []⟩ : TouchD)⟩ : MachD) 3 0 (s.extract 0 (1 + rK))) 3 ((1 + rK : Nat) : Int) (s.extract (1 + rK) s.size)) 3 0 999).touch.writes, bx b63 [.slice r0_store_a_58 r0_store_n_58 r0_store_c_58, .slice r0_touch_reads_a_58 r0_touch_reads_n_58 r0_touch_reads_c_58, .slice r0_touch_writes_a_58 r0_touch_writes_n_58 r0_touch_writes_c_58] 31, ow 53 2 encC okC (.slice r0_store_a_58 r0_store_n_58 r0_store_c_58) (wfM (⟨[], (⟨[], []⟩ : TouchD)⟩ : MachD) 3 0 s).store, ow 9 1 encS okS (.slice r0_touch_reads_a_58 r0_touch_reads_n_58 r0_touch_reads_c_58) (wfM (⟨[], (⟨[], []⟩ : TouchD)⟩ : MachD) 3 0 s).touch.reads, ow 9 1 encS okS (.slice r0_touch_writes_a_58 r0_touch_writes_n_58 r0_touch_writes_c_58) (wfM (⟨[], (⟨[], []⟩ : TouchD)⟩ : MachD) 3 0 s).touch.writes, ow 53 2 encC okC (.slice r0_store_a_76 r0_store_n_76 r0_store_c_76) (wfM (⟨[], (⟨[], []⟩ : TouchD)⟩ : MachD) 3 0 (s.extract 0 (1 + rK))).store, ow 9 1 encS okS (.slice r0_touch_reads_a_76 r0_touch_reads_n_76 r0_touch_reads_c_76) (wfM (⟨[], (⟨[], []⟩ : TouchD)⟩ : MachD) 3 0 (s.extract 0 (1 + rK))).touch.reads, ow 9 1 encS okS (.slice r0_touch_writes_a_76 r0_touch_writes_n_76 r0_touch_writes_c_76) (wfM (⟨[], (⟨[], []⟩ : TouchD)⟩ : MachD) 3 0 (s.extract 0 (1 + rK))).touch.writes, bx b81 [.slice r0_store_a_113 r0_store_n_113 r0_store_c_113, .slice r0_touch_reads_a_113 r0_touch_reads_n_113 r0_touch_reads_c_113, .slice r0_touch_writes_a_113 r0_touch_writes_n_113 r0_touch_writes_c_113] 31, ow 53 2 encC okC (.slice r0_store_a_113 r0_store_n_113 r0_store_c_113) (wfM (wfM (⟨[], (⟨[], []⟩ : TouchD)⟩ : MachD) 3 0 (s.extract 0 (1 + rK))) 3 ((1 + rK : Nat) : Int) (s.extract (1 + rK) s.size)).store, ow 9 1 encS okS (.slice r0_touch_reads_a_113 r0_touch_reads_n_113 r0_touch_reads_c_113) (wfM (wfM (⟨[], (⟨[], []⟩ : TouchD)⟩ : MachD) 3 0 (s.extract 0 (1 + rK))) 3 ((1 + rK : Nat) : Int) (s.extract (1 + rK) s.size)).touch.reads, ow 9 1 encS okS (.slice r0_touch_writes_a_113 r0_touch_writes_n_113 r0_touch_writes_c_113) (wfM (wfM (⟨[], (⟨[], []⟩ : TouchD)⟩ : MachD) 3 0 (s.extract 0 (1 + rK))) 3 ((1 + rK : Nat) : Int) (s.extract (1 + rK) s.size)).touch.writes] _ := S129
           refine s_end (x_normal (wp_seq (wp_region_lit (l_op (f_mv F131 rfl rfl rfl rfl rfl fun _ F133 => ?_)))))
           refine l_op (f_val F133 rfl rfl (r_cmp (b := decide ((wfC (⟨[], (⟨[], []⟩ : TouchD)⟩ : MachD) 3 0 s) = 0)) (.inl rfl) rfl (F133.ev 65 rfl) rfl (dec_of (by omega))) rfl fun _ F134 => ?_)
           rw [show (decide ((wfC (⟨[], (⟨[], []⟩ : TouchD)⟩ : MachD) 3 0 s) = 0)) = true from decide_eq_true hW.1] at F134
           refine l_op (f_mv F134 rfl rfl rfl rfl rfl fun _ F135 => ?_)
           refine l_op (f_mv F135 (wanted_g F135 rfl rfl rfl rfl) rfl rfl rfl rfl fun _ F136 => ?_)
           refine l_op (f_val F136 (wanted_g F136 rfl rfl rfl rfl) rfl (r_cmp (b := decide ((wfC (⟨[], (⟨[], []⟩ : TouchD)⟩ : MachD) 3 0 (s.extract 0 (1 + rK))) = 0)) (.inl rfl) rfl (F136.ev 68 rfl) rfl (dec_of (by omega))) rfl fun _ F137 => ?_)
           rw [show (decide ((wfC (⟨[], (⟨[], []⟩ : TouchD)⟩ : MachD) 3 0 (s.extract 0 (1 + rK))) = 0)) = true from decide_eq_true hV.1] at F137
           refine l_op (f_val F137 rfl rfl (r_pick (b := true) rfl (F137.ev 67 rfl) (F137.ev 69 rfl)) rfl fun _ F138 => ?_)
           refine l_op (f_mv F138 rfl rfl rfl rfl rfl fun _ F139 => ?_)
           refine l_op (f_mv F139 (wanted_g F139 rfl rfl rfl rfl) rfl rfl rfl rfl fun _ F140 => ?_)
           refine l_op (f_val F140 (wanted_g F140 rfl rfl rfl rfl) rfl (r_cmp (b := decide ((wfC (wfM (⟨[], (⟨[], []⟩ : TouchD)⟩ : MachD) 3 0 (s.extract 0 (1 + rK))) 3 ((1 + rK : Nat) : Int) (s.extract (1 + rK) s.size)) = 0)) (.inl rfl) rfl (F140.ev 72 rfl) rfl (dec_of (by omega))) rfl fun _ F141 => ?_)
           rw [show (decide ((wfC (wfM (⟨[], (⟨[], []⟩ : TouchD)⟩ : MachD) 3 0 (s.extract 0 (1 + rK))) 3 ((1 + rK : Nat) : Int) (s.extract (1 + rK) s.size)) = 0)) = true from decide_eq_true hR.1] at F141
           refine l_op (f_val F141 rfl rfl (r_pick (b := true) rfl (F141.ev 71 rfl) (F141.ev 73 rfl)) rfl fun _ F142 => ?_)
           refine l_op (f_mv F142 rfl rfl rfl rfl rfl fun _ F143 => ?_)
           refine l_op (f_mv F143 (wanted_g F143 rfl rfl rfl rfl) rfl rfl rfl rfl fun _ F144 => ?_)
           refine l_op (f_mv F144 (wanted_g F144 rfl rfl rfl rfl) rfl rfl rfl rfl fun _ F145 => ?_)
           refine l_op (f_val F145 (wanted_g F145 rfl rfl rfl rfl) rfl (r_cmps (b := (decide ((rfT (wfM (wfM (⟨[], (⟨[], []⟩ : TouchD)⟩ : MachD) 3 0 (s.extract 0 (1 + rK))) 3 ((1 + rK : Nat) : Int) (s.extract (1 + rK) s.size)) 3 0 999) = s))) (.inl rfl) rfl (F145.ev 76 rfl) (F145.ev 77 rfl) rfl) rfl fun _ F146 => ?_)
           rw [show (decide ((rfT (wfM (wfM (⟨[], (⟨[], []⟩ : TouchD)⟩ : MachD) 3 0 (s.extract 0 (1 + rK))) 3 ((1 + rK : Nat) : Int) (s.extract (1 + rK) s.size)) 3 0 999) = s)) = true from decide_eq_true hR.2.textEq] at F146
           refine l_op (f_val F146 rfl rfl (r_pick (b := true) rfl (F146.ev 75 rfl) (F146.ev 78 rfl)) rfl fun _ F147 => ?_)
           refine l_op (f_mv F147 rfl rfl rfl rfl rfl fun _ F148 => ?_)
           refine l_op (f_val F148 (wanted_g F148 rfl rfl rfl rfl) rfl (r_field FI_31_0 rfl (F148.ev 7 rfl) rfl) rfl fun _ F149 => ?_)
           refine l_op (f_val (v := .slice r0_store_a_58 r0_store_n_58 r0_store_c_58) F149 (wanted_g F149 rfl rfl rfl rfl) rfl (r_loadB T132.at' 4 TI_26 rfl rfl (F149.ev 81 rfl) rfl rfl (fun _ => rfl) rfl) rfl fun _ F150 => ?_)
           refine l_op (f_val F150 (wanted_g F150 rfl rfl rfl rfl) rfl (r_field FI_31_0 rfl (F150.ev 9 rfl) rfl) rfl fun _ F151 => ?_)
           refine l_op (f_val (v := .slice r0_store_a_113 r0_store_n_113 r0_store_c_113) F151 (wanted_g F151 rfl rfl rfl rfl) rfl (r_loadB T132.at' 11 TI_26 rfl rfl (F151.ev 83 rfl) rfl rfl (fun _ => rfl) rfl) rfl fun _ F152 => ?_)
           refine l_op (f_call F152 CF_17 (wanted_g F152 rfl rfl rfl rfl) rfl rfl rfl (lc (F152.ev 82 rfl) (lc (F152.ev 84 rfl) rfl)) (laws_sameCells_c (H := fun _ => True) (a := (wfM (⟨[], (⟨[], []⟩ : TouchD)⟩ : MachD) 3 0 s).store) (b := (wfM (wfM (⟨[], (⟨[], []⟩ : TouchD)⟩ : MachD) 3 0 (s.extract 0 (1 + rK))) 3 ((1 + rK : Nat) : Int) (s.extract (1 + rK) s.size)).store) (At.rd T132.at' ET_26.hk 5 rfl) (At.rd T132.at' ET_26.hk 12 rfl)) ?_)
           rintro _ w153 ⟨rfl, m153⟩
           refine ⟨_, rfl, fun _ F154 => ?_⟩
           have S153 := At.frame0 T132.at' m153
           rw [show (decide ((wfM (⟨[], (⟨[], []⟩ : TouchD)⟩ : MachD) 3 0 s).store = (wfM (wfM (⟨[], (⟨[], []⟩ : TouchD)⟩ : MachD) 3 0 (s.extract 0 (1 + rK))) 3 ((1 + rK : Nat) : Int) (s.extract (1 + rK) s.size)).store)) = true from decide_eq_true (hW.2.same hR.2)] at F154
           clear m153
           refine l_op (f_val F154 rfl rfl (r_pick (b := true) rfl (F154.ev 80 rfl) (F154.ev 85 rfl)) rfl fun _ F155 => ?_)
           refine l_op (f_as F155 rfl rfl rfl rfl rfl fun _ F156 => ?_)
           have F157 : Fr 87 [(2, .bool true)] _ := F156.cut rfl
           clear F131 F133 F134 F135 F136 F137 F138 F139 F140 F141 F142 F143 F144 F145 F146 F147 F148 F149 F150 F151 F152 F154 F155 F156
           have T158 : Mv _ _ [bx b127 [.slice r0_store_a_122 r0_store_n_122 r0_store_c_122, .slice r0_touch_reads_a_122 r0_touch_reads_n_122 r0_touch_reads_c_122, .slice r0_touch_writes_a_122 r0_touch_writes_n_122 r0_touch_writes_c_122] 31, ow 53 2 encC okC (.slice r0_store_a_122 r0_store_n_122 r0_store_c_122) (rfM (wfM (wfM (⟨[], (⟨[], []⟩ : TouchD)⟩ : MachD) 3 0 (s.extract 0 (1 + rK))) 3 ((1 + rK : Nat) : Int) (s.extract (1 + rK) s.size)) 3 0 999).store, ow 9 1 encS okS (.slice r0_touch_reads_a_122 r0_touch_reads_n_122 r0_touch_reads_c_122) (rfM (wfM (wfM (⟨[], (⟨[], []⟩ : TouchD)⟩ : MachD) 3 0 (s.extract 0 (1 + rK))) 3 ((1 + rK : Nat) : Int) (s.extract (1 + rK) s.size)) 3 0 999).touch.reads, ow 9 1 encS okS (.slice r0_touch_writes_a_122 r0_touch_writes_n_122 r0_touch_writes_c_122) (rfM (wfM (wfM (⟨[], (⟨[], []⟩ : TouchD)⟩ : MachD) 3 0 (s.extract 0 (1 + rK))) 3 ((1 + rK : Nat) : Int) (s.extract (1 + rK) s.size)) 3 0 999).touch.writes, bx b63 [.slice r0_store_a_58 r0_store_n_58 r0_store_c_58, .slice r0_touch_reads_a_58 r0_touch_reads_n_58 r0_touch_reads_c_58, .slice r0_touch_writes_a_58 r0_touch_writes_n_58 r0_touch_writes_c_58] 31, ow 53 2 encC okC (.slice r0_store_a_58 r0_store_n_58 r0_store_c_58) (wfM (⟨[], (⟨[], []⟩ : TouchD)⟩ : MachD) 3 0 s).store, ow 9 1 encS okS (.slice r0_touch_reads_a_58 r0_touch_reads_n_58 r0_touch_reads_c_58) (wfM (⟨[], (⟨[], []⟩ : TouchD)⟩ : MachD) 3 0 s).touch.reads, ow 9 1 encS okS (.slice r0_touch_writes_a_58 r0_touch_writes_n_58 r0_touch_writes_c_58) (wfM (⟨[], (⟨[], []⟩ : TouchD)⟩ : MachD) 3 0 s).touch.writes, ow 53 2 encC okC (.slice r0_store_a_76 r0_store_n_76 r0_store_c_76) (wfM (⟨[], (⟨[], []⟩ : TouchD)⟩ : MachD) 3 0 (s.extract 0 (1 + rK))).store, ow 9 1 encS okS (.slice r0_touch_reads_a_76 r0_touch_reads_n_76 r0_touch_reads_c_76) (wfM (⟨[], (⟨[], []⟩ : TouchD)⟩ : MachD) 3 0 (s.extract 0 (1 + rK))).touch.reads, ow 9 1 encS okS (.slice r0_touch_writes_a_76 r0_touch_writes_n_76 r0_touch_writes_c_76) (wfM (⟨[], (⟨[], []⟩ : TouchD)⟩ : MachD) 3 0 (s.extract 0 (1 + rK))).touch.writes, bx b81 [.slice r0_store_a_113 r0_store_n_113 r0_store_c_113, .slice r0_touch_reads_a_113 r0_touch_reads_n_113 r0_touch_reads_c_113, .slice r0_touch_writes_a_113 r0_touch_writes_n_113 r0_touch_writes_c_113] 31, ow 53 2 encC okC (.slice r0_store_a_113 r0_store_n_113 r0_store_c_113) (wfM (wfM (⟨[], (⟨[], []⟩ : TouchD)⟩ : MachD) 3 0 (s.extract 0 (1 + rK))) 3 ((1 + rK : Nat) : Int) (s.extract (1 + rK) s.size)).store, ow 9 1 encS okS (.slice r0_touch_reads_a_113 r0_touch_reads_n_113 r0_touch_reads_c_113) (wfM (wfM (⟨[], (⟨[], []⟩ : TouchD)⟩ : MachD) 3 0 (s.extract 0 (1 + rK))) 3 ((1 + rK : Nat) : Int) (s.extract (1 + rK) s.size)).touch.reads, ow 9 1 encS okS (.slice r0_touch_writes_a_113 r0_touch_writes_n_113 r0_touch_writes_c_113) (wfM (wfM (⟨[], (⟨[], []⟩ : TouchD)⟩ : MachD) 3 0 (s.extract 0 (1 + rK))) 3 ((1 + rK : Nat) : Int) (s.extract (1 + rK) s.size)).touch.writes] _ := S153
           refine s_end (x_normal (wp_ret ?_))
           refine x_done (v := .bool true) F157 (results_1 Tryd.results5 (.tmp (F157.ev 2 rfl))) ?_
           exact ⟨rfl, (Mv.pick (T7.trans (T16.trans (S21.trans (S55.trans (S58.trans (S63.trans (T68.trans (S105.trans (S120.trans (S122.trans (S127.trans (T132.trans T158)))))))))))) [] rfl)⟩
end Go.Proofs.YtibgmijfnbnfkaaDoor
namespace Go.Proofs.YtibgmijfnbnfkaaDoor.writeparts
open Go.ChangeShapes Go.WideShapes Go.ChangeAt Go.RowKit
set_option maxRecDepth 100000
theorem cells_5 : Tryd.prog.cellsOf 5 = 1 := by kernel_rfl
theorem starE : "*" ++ "errors.errorString" = "*errors.errorString" := by decide
theorem rowE (u : TypeId) (h : Tryd.prog.typeName? 3 u = some "*errors.errorString") : u = 130 :=
  typeName_ptr_named (nm := "errors.errorString") (by rw [starE]; kernel_rfl) (by kernel_rfl) (by decide) u (by rw [starE]; exact h)
theorem cellsE : Tryd.prog.cellsOf 132 = 1 := by kernel_rfl
theorem cells_9 : Tryd.prog.cellsOf 9 = 1 := by kernel_rfl
theorem ground0 {W : World} (h : laidMet Tryd.prog [("math/bits.deBruijn32tab", Rows.laid_math_bits_deBruijn32tab), ("math/bits.deBruijn64tab", Rows.laid_math_bits_deBruijn64tab), ("internal/strconv.uint64pow10", Rows.laid_internal_strconv_uint64pow10), ("strconv.ErrRange", Rows.laid_strconv_ErrRange), ("strconv.ErrSyntax", Rows.laid_strconv_ErrSyntax), ("encoding/hex.ErrLength", Rows.laid_encoding_hex_ErrLength)] W) : Tb 0 (fun _ => True) W := by
  have e : (Rows.laid_internal_strconv_uint64pow10 : DataW Unit) = Lib.tabData .u64 Lib.pow10Tab := by kernel_rfl
  have h2 : laidMet Tryd.prog (("internal/strconv.uint64pow10", Lib.tabData .u64 Lib.pow10Tab) :: [("strconv.ErrRange", Rows.laid_strconv_ErrRange), ("strconv.ErrSyntax", Rows.laid_strconv_ErrSyntax), ("encoding/hex.ErrLength", Rows.laid_encoding_hex_ErrLength)]) W := by rw [← e]; exact h.tail.tail
  have h3 : Lib.TabIs Tryd.prog W "internal/strconv.uint64pow10" .u64 Lib.pow10Tab := Lib.tabIs_of_head laysItoa.m17 (t := 107) (e := 96) (n := 20) (by kernel_rfl) Tryd.underlying107 Tryd.underlying96 (by kernel_rfl) (by kernel_rfl) h2
  exact ⟨h3, fun g hg => by rw [List.mem_singleton.1 hg]; exact ⟨trivial, Lib.lt_of_cell (h3.cell laysItoa.m17 0 (by decide))⟩⟩
theorem ground1 {W : World} (h : laidMet Tryd.prog [("math/bits.deBruijn32tab", Rows.laid_math_bits_deBruijn32tab), ("math/bits.deBruijn64tab", Rows.laid_math_bits_deBruijn64tab), ("internal/strconv.uint64pow10", Rows.laid_internal_strconv_uint64pow10), ("strconv.ErrRange", Rows.laid_strconv_ErrRange), ("strconv.ErrSyntax", Rows.laid_strconv_ErrSyntax), ("encoding/hex.ErrLength", Rows.laid_encoding_hex_ErrLength)] W) : Tb 1 (fun _ => True) W := by
  have gS : Tryd.prog.globalNamed "strconv.ErrSyntax" = some (laysAtoi_ren.g 15) := by kernel_rfl
  obtain ⟨aS, sS, vS, -, -, -⟩ := laid_sentinel (h.tail.tail.tail.tail) gS (ti := 77) (by kernel_rfl) Tryd.underlying77 rowE Tryd.underlying130 Tryd.underlying132 rfl rfl Tryd.underlying9 cellsE cells_9
  have cS := var_cell gS vS
  have gR : Tryd.prog.globalNamed "strconv.ErrRange" = some (laysAtoi_ren.g 16) := by kernel_rfl
  obtain ⟨aR, sR, vR, -, -, -⟩ := laid_sentinel (h.tail.tail.tail) gR (ti := 77) (by kernel_rfl) Tryd.underlying77 rowE Tryd.underlying130 Tryd.underlying132 rfl rfl Tryd.underlying9 cellsE cells_9
  have cR := var_cell gR vR
  exact ⟨⟨⟨_, cS, .inr ⟨_, _, rfl⟩⟩, ⟨_, cR, .inr ⟨_, _, rfl⟩⟩⟩, fun g hg => by
    rcases List.mem_cons.1 hg with e | hg
    · rw [e]; exact ⟨trivial, Lib.lt_of_cell cS⟩
    · rw [List.mem_singleton.1 hg]; exact ⟨trivial, Lib.lt_of_cell cR⟩⟩
theorem ground2 {W : World} (h : laidMet Tryd.prog [("math/bits.deBruijn32tab", Rows.laid_math_bits_deBruijn32tab), ("math/bits.deBruijn64tab", Rows.laid_math_bits_deBruijn64tab), ("internal/strconv.uint64pow10", Rows.laid_internal_strconv_uint64pow10), ("strconv.ErrRange", Rows.laid_strconv_ErrRange), ("strconv.ErrSyntax", Rows.laid_strconv_ErrSyntax), ("encoding/hex.ErrLength", Rows.laid_encoding_hex_ErrLength)] W) : Tb 2 (fun _ => True) W := by
  have gH : Tryd.prog.globalNamed "encoding/hex.ErrLength" = some (laysUnhex_ren.g 0) := by kernel_rfl
  obtain ⟨aH, sH, vH, -, -, -⟩ := laid_sentinel (h.tail.tail.tail.tail.tail) gH (ti := 77) (by kernel_rfl) Tryd.underlying77 rowE Tryd.underlying130 Tryd.underlying132 rfl rfl Tryd.underlying9 cellsE cells_9
  have cH := var_cell gH vH
  exact ⟨⟨_, cH, .inr ⟨_, _, rfl⟩⟩, fun g hg => by rw [List.mem_singleton.1 hg]; exact ⟨trivial, Lib.lt_of_cell cH⟩⟩
theorem called (W : World) (args : Array Value) (h : ArgsRead Tryd.prog W Tryd.f5.params.toList args.toList) (t0 : Tb 0 (fun _ => True) W) (t1 : Tb 1 (fun _ => True) W) (t2 : Tb 2 (fun _ => True) W) : Calls Tryd.prog 5 args W fun e W' => e = .returned (.bool true) ∧ Bl W W' := by
  obtain ⟨hl, h⟩ := h
  rw [Tryd.params5] at hl h
  obtain ⟨v0, rfl⟩ : ∃ v0, args = #[v0] := by
    obtain ⟨l⟩ := args
    match l, hl with
    | [v0], _ => exact ⟨v0, rfl⟩
  obtain ⟨r0, o0⟩ := h 0 _ v0 rfl rfl
  have q0 := reads_one Tryd.underlying22 trivial o0 r0
  obtain ⟨a_0, n_0, c_0, l_0, e_0, v_0⟩ := rdA_of Tryd.underlying22 cells_5 (by decide) (u8_row Tryd.underlying5) q0
  cases e_0
  exact (laws_FnWriteParts_c (w := W) (H := fun _ => True) (code := l_0) v_0 t0 t1 t2).mono fun e W' ⟨h1, h2⟩ => ⟨h1, h2.bl⟩
theorem own : ownKnob Tryd.prog.godebug = none := by kernel_rfl
theorem laidOut : laidOutB Tryd.prog = true := by kernel_rfl
theorem readable : ∀ t ∈ Tryd.f5.params.toList, Tryd.prog.readableRec t = true ∧ t < Tryd.prog.types.size := of_decide_eq_true (by kernel_rfl)
theorem door_met (os : Os) (args : Array Value) : laidMetH Tryd.prog [("math/bits.deBruijn32tab", Rows.laid_math_bits_deBruijn32tab), ("math/bits.deBruijn64tab", Rows.laid_math_bits_deBruijn64tab), ("internal/strconv.uint64pow10", Rows.laid_internal_strconv_uint64pow10), ("strconv.ErrRange", Rows.laid_strconv_ErrRange), ("strconv.ErrSyntax", Rows.laid_strconv_ErrSyntax), ("encoding/hex.ErrLength", Rows.laid_encoding_hex_ErrLength)] ((World.doorLaid Tryd.prog 81 os).forCall (fun _ _ => 0) ⟨#[], args, []⟩).memory :=
  laidMetH_of_parts3 (fuel := 8) (laidMet_of_run' 8 (by kernel_rfl) (by kernel_rfl)) (by kernel_rfl) (by kernel_rfl)
theorem lifted (os : Os) (started : os.Started) (H : Type) (enc : TypeId × Value → H) :
    ReturnsInHanded {} Tryd.checked os 5 .any (fun w args => (Rows.fnWritePartsSpec.pre enc Tryd.prog Tryd.f5 [] false w args ∧ laidMetH Tryd.prog [("math/bits.deBruijn32tab", Rows.laid_math_bits_deBruijn32tab), ("math/bits.deBruijn64tab", Rows.laid_math_bits_deBruijn64tab), ("internal/strconv.uint64pow10", Rows.laid_internal_strconv_uint64pow10), ("strconv.ErrRange", Rows.laid_strconv_ErrRange), ("strconv.ErrSyntax", Rows.laid_strconv_ErrSyntax), ("encoding/hex.ErrLength", Rows.laid_encoding_hex_ErrLength)] w) ∧ sizedMet enc Tryd.prog Tryd.f5 (OpenSpec.ofChange Rows.fnWritePartsSpec) false w args)
      (Rows.fnWritePartsSpec.post enc Tryd.prog Tryd.f5 false true false false) := by
  refine returnsInHanded_of_change_and (C := Tryd.checked) (X := fun w _ => laidMetH Tryd.prog [("math/bits.deBruijn32tab", Rows.laid_math_bits_deBruijn32tab), ("math/bits.deBruijn64tab", Rows.laid_math_bits_deBruijn64tab), ("internal/strconv.uint64pow10", Rows.laid_internal_strconv_uint64pow10), ("strconv.ErrRange", Rows.laid_strconv_ErrRange), ("strconv.ErrSyntax", Rows.laid_strconv_ErrSyntax), ("encoding/hex.ErrLength", Rows.laid_encoding_hex_ErrLength)] w) (fun _ _ _ hh h => h.of_heap hh) own started (by kernel_rfl) Tryd.func5
    (ChangeSpec.witness_shaped (enc := enc) (C := Tryd.checked) (os := os) (X := fun w _ => laidMetH Tryd.prog [("math/bits.deBruijn32tab", Rows.laid_math_bits_deBruijn32tab), ("math/bits.deBruijn64tab", Rows.laid_math_bits_deBruijn64tab), ("internal/strconv.uint64pow10", Rows.laid_internal_strconv_uint64pow10), ("strconv.ErrRange", Rows.laid_strconv_ErrRange), ("strconv.ErrSyntax", Rows.laid_strconv_ErrSyntax), ("encoding/hex.ErrLength", Rows.laid_encoding_hex_ErrLength)] w) false (World.doorLaid Tryd.prog 81 os) #[.slice none 0 0] 8 rfl (World.shaped_of_RefB (by kernel_rfl) (by kernel_rfl)) (by kernel_rfl) (by kernel_rfl) (by kernel_rfl) (door_met os _)) ?_
  intro W base args ds gs before hval0 hW _ _ hL _
  have hval : ∀ (j : Nat) t v, Tryd.f5.params[j]? = some t → args[j]? = some v → Value.okWide Tryd.prog W .any 0 t v := hval0
  have hM : laidMet Tryd.prog [("math/bits.deBruijn32tab", Rows.laid_math_bits_deBruijn32tab), ("math/bits.deBruijn64tab", Rows.laid_math_bits_deBruijn64tab), ("internal/strconv.uint64pow10", Rows.laid_internal_strconv_uint64pow10), ("strconv.ErrRange", Rows.laid_strconv_ErrRange), ("strconv.ErrSyntax", Rows.laid_strconv_ErrSyntax), ("encoding/hex.ErrLength", Rows.laid_encoding_hex_ErrLength)] W := by
    have h := hL
    rw [MakeChecks.laidMetH_plain _ _ _ (by kernel_rfl)] at h
    exact h
  refine law_contractW laidOut readable Tryd.underlying4 rfl rfl ?_ H enc false true false false W args ds gs before (fun h => called W args h (ground0 hM) (ground1 hM) (ground2 hM)) hval hW
  intro H ds hd
  match ds, hd with
  | [a], _ => rfl
theorem bare : Rows.FnWritePartsSaid :=
  OpenClaim.holds_of_wide 5 Tryd.f5 rfl rfl rfl rfl rfl rfl rfl ⟨rfl, rfl, rfl, rfl, rfl⟩ rfl rfl rfl rfl rfl (by kernel_rfl) Tryd.func5 (by kernel_rfl)
    (of_decide_eq_true (by kernel_rfl)) (by unfold Func.isWrapper; first | (rw [if_pos (by decide +kernel)]; kernel_rfl) | (rw [if_neg (by decide +kernel)]; exact ⟨rfl, rfl⟩))
    (fun os started H enc _ => lifted os started H enc)
theorem proved : Rows.FnWritePartsCardSaid :=
  Claim7.holds_tied_plain_at .later [] [.data, .data, .data, .sentinel, .sentinel, .sentinel] true (true, "d0debdf2b2eb2ef0a60d3af8155b8d87dc2d4d4bf8fb552b8a2dcdb4cea35881") true
    bare (fun _ h => by cases h) (by kernel_rfl) (fun _ h => by cases h) fnWriteParts_row_tie rfl ⟨rfl, rfl⟩ (by kernel_rfl) rfl
    (fun f fn hf hfn => by
      obtain rfl : f = 5 := Option.some.inj ((show Tryd.prog.funcNamed "loop.example/g00974/laws.FnWriteParts" = some 5 by kernel_rfl).symm.trans hf) |>.symm
      obtain rfl : fn = Tryd.f5 := (Option.some.inj (Tryd.func5.symm.trans hfn)).symm
      exact ⟨by kernel_rfl, fun j t ht => by
        rw [Tryd.params5] at ht
        have hm : t ∈ [22] := by simpa using Array.mem_of_getElem? ht
        have hall : ([22].all fun u => !Tryd.prog.wantsStandIn u) = true := by kernel_rfl
        exact (show Tryd.prog.wantsStandIn t = false by simpa using List.all_eq_true.1 hall t hm)⟩)
    (by kernel_rfl)
end Go.Proofs.YtibgmijfnbnfkaaDoor.writeparts
