/-
  Walks: equal machines.
-/
import Derived.Test.YtbbkihijhdpliaaDatA
import Derived.Test.YtbbkihijhdpliaaGenTa
namespace Go.Proofs.Ytbbkihijhdpliaa
open Go.ChangeShapes Go.WideShapes Go.ChangeAt Go.RowKit
set_option maxRecDepth 100000
set_option maxHeartbeats 1000000
theorem slices_Equal_Simpl_Cell_impl_Cell_c {w : World} {H : Nat → Prop} {a : List CellD} {a_a : Option Addr} {a_n a_c : Nat} {b : List CellD} {b_a : Option Addr} {b_n b_c : Nat} (v_a : Rd 2 encC okC H w (.slice a_a a_n a_c) a) (v_b : Rd 2 encC okC H w (.slice b_a b_n b_c) b) :
    Calls Try.prog 141 #[.slice a_a a_n a_c, .slice b_a b_n b_c] w fun e w' => e = .returned (.bool (decide (a = b))) ∧ Mv [] w [] w' := by
 have V_v_a : Rd 2 encC okC (V H w []) w (.slice a_a a_n a_c) a := Rd.start v_a (fun _ _ => fps_nil _)
 obtain ⟨ln_a, le_a, mx_a, ni_a⟩ := Rd.inv v_a
 have V_v_b : Rd 2 encC okC (V H w []) w (.slice b_a b_n b_c) b := Rd.start v_b (fun _ _ => fps_nil _)
 obtain ⟨ln_b, le_b, mx_b, ni_b⟩ := Rd.inv v_b
 refine calls_enter 26 Try.func141 rfl Try.ntmps141 (Nat.le_of_ble_eq_true rfl) (fun _ F0i => ?_)
 have F0 : Fr 26 [(0, .slice a_a a_n a_c), (1, .slice b_a b_n b_c)] _ := F0i
 clear F0i
 refine wp_seq (wp_region_lit (l_op (f_val F0 rfl rfl (r_assign rfl rfl) rfl fun _ F1 => ?_)))
 have F2 : Fr 26 [(4, .bool false), (0, .slice a_a a_n a_c), (1, .slice b_a b_n b_c)] _ := F1.cut rfl
 clear F0 F1
 refine s_end (x_normal (wp_seq (wp_seq (wp_region_lit (l_op (f_mv F2 rfl rfl rfl rfl rfl fun _ F3 => ?_))))))
 refine l_op (f_val F3 rfl rfl (r_len Try.underlying46 rfl (F3.ev 6 rfl)) rfl fun _ F4 => ?_)
 refine l_op (f_mv F4 rfl rfl rfl rfl rfl fun _ F5 => ?_)
 refine l_op (f_val F5 rfl rfl (r_len Try.underlying46 rfl (F5.ev 8 rfl)) rfl fun _ F6 => ?_)
 refine l_op (f_val F6 rfl rfl (r_cmp (b := decide (a_n ≠ b_n)) (.inr (.inl rfl)) rfl (F6.ev 7 rfl) (F6.ev 9 rfl) (dec_of (by omega))) rfl fun _ F7 => ?_)
 have F8 : Fr 26 [(10, .bool (decide (a_n ≠ b_n))), (0, .slice a_a a_n a_c), (1, .slice b_a b_n b_c)] _ := F7.cut rfl
 clear F2 F3 F4 F5 F6 F7
 refine s_end (x_normal (x_cond (p := a_n ≠ b_n) (F8.ev 10 rfl) (fun h9 => ?_) (fun h9 => ?_)))
 · skip
   refine wp_seq (wp_region_lit (l_op (f_val F8 rfl rfl (r_assign rfl rfl) rfl fun _ F10 => ?_)))
   have F11 : Fr 26 [(4, .bool false)] _ := F10.cut rfl
   clear F8 F10
   refine s_end (x_normal (wp_ret (x_then_ret ?_)))
   refine x_done (v := .bool false) F11 (results_1 Try.results141 (.tmp (F11.ev 4 rfl))) ?_
   exact ⟨(by rw [(show false = (decide (a = b)) from by first | exact (eqL_len ln_a ln_b (by assumption)).symm | exact (eqL_at hx1 hx2 (by assumption)).symm | exact (eqL_end hk_1 (by omega) (by omega)).symm)]), (Mv.pick (Mv.refl (At.nil w)) [] rfl)⟩
 · skip
   refine wp_skip (x_normal (wp_seq (wp_seq (wp_region_lit (l_op (f_mv F8 rfl rfl rfl rfl rfl fun _ F12 => ?_))))))
   refine l_op (f_val F12 rfl rfl (r_len Try.underlying46 rfl (F12.ev 11 rfl)) rfl fun _ F13 => ?_)
   refine l_op (f_val F13 rfl rfl (r_move rfl rfl) rfl fun _ F14 => ?_)
   have F15 : Fr 26 [(13, .int .i64 0), (12, .int .i64 ((a_n : Nat) : Int)), (0, .slice a_a a_n a_c), (1, .slice b_a b_n b_c)] _ := F14.cut rfl
   clear F8 F12 F13 F14
   refine s_end (x_normal (wp_block ?_))
   refine x_loop (fun (k : Nat) aZ wZ => Fr 26 [(13, .int .i64 ((k : Nat) : Int)), (12, .int .i64 ((a_n : Nat) : Int)), (0, .slice a_a a_n a_c), (1, .slice b_a b_n b_c)] aZ ∧ Mv [] w [] wZ ∧ (k ≤ a_n) ∧ (a.take k = b.take k)) (fun (k : Nat) => a_n - k) (0) ?_ ?_
   · exact ⟨F15.cut rfl, (Mv.refl (At.nil w)), by omega, rfl⟩
   · rintro k a16 w16 ⟨F16, S16, hk_0, hk_1⟩
     refine wp_seq (wp_region_lit (l_op (f_val F16 rfl rfl (r_cmp (b := decide (k < a_n)) (.inr (.inr (.inl rfl))) rfl (F16.ev 13 rfl) (F16.ev 12 rfl) (dec_of (by omega))) rfl fun _ F17 => ?_)))
     have F18 : Fr 26 [(14, .bool (decide (k < a_n))), (13, .int .i64 ((k : Nat) : Int)), (12, .int .i64 ((a_n : Nat) : Int)), (0, .slice a_a a_n a_c), (1, .slice b_a b_n b_c)] _ := F17.cut rfl
     clear F16 F17
     refine s_end (x_normal (wp_seq (x_cond (p := k < a_n) (F18.ev 14 rfl) (fun h19 => ?_) (fun h19 => ?_))))
     · skip
       refine wp_skip (x_normal (wp_seq (wp_block (wp_seq (wp_region_lit (l_op (f_mv F18 rfl rfl rfl rfl rfl fun _ F20 => ?_)))))))
       refine l_op (f_as F20 rfl rfl rfl rfl rfl fun _ F21 => ?_)
       have F22 : Fr 26 [(5, .int .i64 ((k : Nat) : Int)), (13, .int .i64 ((k : Nat) : Int)), (12, .int .i64 ((a_n : Nat) : Int)), (0, .slice a_a a_n a_c), (1, .slice b_a b_n b_c)] _ := F21.cut rfl
       clear F18 F20 F21
       refine s_end (x_normal (wp_seq ?_))
       obtain ⟨x1, hx1, okx1⟩ := Rd.elem (Rd.mv (Nat.succ_pos _) V_v_a S16) k (by first | assumption | omega)
       obtain ⟨x2, hx2, okx2⟩ := Rd.elem (Rd.mv (Nat.succ_pos _) V_v_b S16) k (by first | assumption | omega)
       refine x_draw (fun aZ wZ => Fr 26 [(0, .slice a_a a_n a_c), (1, .slice b_a b_n b_c), (12, .int .i64 ((a_n : Nat) : Int)), (13, .int .i64 ((k : Nat) : Int)), (24, .bool (decide (x1 ≠ x2)))] aZ ∧ Mv [] w16 [] wZ) [] mixed S16.at' (listed := #[false, false, false, false, false, false, false, false, false]) rfl (fun w24 S24 => ?_) [] rfl ?_
       · skip
         refine g_take F22 rfl (i := 0) (listed' := #[true, false, false, false, false, false, false, false, false]) rfl (by kernel_rfl) (by kernel_rfl) (by kernel_rfl) (fun _ _ _ h => h) (Sd.of (Mv.refl S24.at') [] rfl) rfl rfl rfl rfl (fun _ hz => (r_move rfl (F22.ev 0 rfl))) fun _ F25 => ?_
         refine g_take F25 rfl (i := 1) (listed' := #[true, true, false, false, false, false, false, false, false]) rfl (by kernel_rfl) (by kernel_rfl) (by kernel_rfl) (fun _ _ _ h => h) (Sd.of (Mv.refl S24.at') [] rfl) rfl rfl rfl rfl (fun _ hz => (r_move rfl (F25.ev 5 rfl))) fun _ F26 => ?_
         obtain ⟨B27, O27, y27, ad27, hy27, oky27, ln27, cl27⟩ := Rd.atK (Nat.succ_pos _) (Rd.mv (Nat.succ_pos _) V_v_a (S16.trans S24)) k (by first | assumption | omega)
         clear ln27
         obtain rfl := Option.some.inj (hx1.symm.trans hy27)
         clear hy27 oky27
         refine g_take F26 rfl (i := 2) (listed' := #[true, true, true, false, false, false, false, false, false]) rfl (by kernel_rfl) (by kernel_rfl) (by kernel_rfl) (fun _ _ _ h => h) (Sd.of (Mv.refl S24.at') [] rfl) rfl rfl rfl rfl (fun _ hz => (r_indexAddr (i := k) ET_46 rfl ((F26.ev 16 rfl).trans (by rw [ad27])) (F26.ev 17 rfl) (by omega) (by first | assumption | omega))) fun _ F28 => ?_
         refine g_take (v := .agg #[.string x1.key, .string x1.val]) F28 rfl (i := 3) (listed' := #[true, true, true, true, false, false, false, false, false]) rfl (by kernel_rfl) (by kernel_rfl) (by kernel_rfl) (fun _ _ _ h => h) (Sd.of (Mv.refl S24.at') [] rfl) rfl rfl rfl rfl (fun _ hz => (r_load (cs := [.string x1.key, .string x1.val]) TI_98 rfl (F28.ev 18 rfl) rfl (fun h => nomatch h) (elem_sub (f := 0) (cl27 _ hz.kp) [.string x1.key, .string x1.val] rfl))) fun _ F29 => ?_
         refine g_take F29 rfl (i := 4) (listed' := #[true, true, true, true, true, false, false, false, false]) rfl (by kernel_rfl) (by kernel_rfl) (by kernel_rfl) (fun _ _ _ h => h) (Sd.of (Mv.refl S24.at') [] rfl) rfl rfl rfl rfl (fun _ hz => (r_move rfl (F29.ev 1 rfl))) fun _ F30 => ?_
         refine g_take F30 rfl (i := 5) (listed' := #[true, true, true, true, true, true, false, false, false]) rfl (by kernel_rfl) (by kernel_rfl) (by kernel_rfl) (fun _ _ _ h => h) (Sd.of (Mv.refl S24.at') [] rfl) rfl rfl rfl rfl (fun _ hz => (r_move rfl (F30.ev 5 rfl))) fun _ F31 => ?_
         obtain ⟨B32, O32, y32, ad32, hy32, oky32, ln32, cl32⟩ := Rd.atK (Nat.succ_pos _) (Rd.mv (Nat.succ_pos _) V_v_b (S16.trans S24)) k (by first | assumption | omega)
         clear ln32
         obtain rfl := Option.some.inj (hx2.symm.trans hy32)
         clear hy32 oky32
         refine g_take F31 rfl (i := 6) (listed' := #[true, true, true, true, true, true, true, false, false]) rfl (by kernel_rfl) (by kernel_rfl) (by kernel_rfl) (fun _ _ _ h => h) (Sd.of (Mv.refl S24.at') [] rfl) rfl rfl rfl rfl (fun _ hz => (r_indexAddr (i := k) ET_46 rfl ((F31.ev 20 rfl).trans (by rw [ad32])) (F31.ev 21 rfl) (by omega) (by first | assumption | omega))) fun _ F33 => ?_
         refine g_take (v := .agg #[.string x2.key, .string x2.val]) F33 rfl (i := 7) (listed' := #[true, true, true, true, true, true, true, true, false]) rfl (by kernel_rfl) (by kernel_rfl) (by kernel_rfl) (fun _ _ _ h => h) (Sd.of (Mv.refl S24.at') [] rfl) rfl rfl rfl rfl (fun _ hz => (r_load (cs := [.string x2.key, .string x2.val]) TI_98 rfl (F33.ev 22 rfl) rfl (fun h => nomatch h) (elem_sub (f := 0) (cl32 _ hz.kp) [.string x2.key, .string x2.val] rfl))) fun _ F34 => ?_
         refine g_take F34 rfl (i := 8) (listed' := #[true, true, true, true, true, true, true, true, true]) rfl (by kernel_rfl) (by kernel_rfl) (by kernel_rfl) (fun _ _ _ h => h) (Sd.of (Mv.refl S24.at') [] rfl) rfl rfl rfl rfl (fun _ hz => (r_neqC rfl (F34.ev 19 rfl) (F34.ev 23 rfl))) fun _ F35 => ?_
         refine wpAnyH_done (by kernel_rfl) (x_normal ?_) _
         exact ⟨F35.cut rfl, (S24.pick [] rfl)⟩
       · rintro a36 w36 ⟨F36, S36⟩
         refine x_normal (x_cond (p := x1 ≠ x2) (F36.ev 24 rfl) (fun h37 => ?_) (fun h37 => ?_))
         · skip
           refine wp_seq (wp_region_lit (l_op (f_val F36 rfl rfl (r_assign rfl rfl) rfl fun _ F38 => ?_)))
           have F39 : Fr 26 [(4, .bool false)] _ := F38.cut rfl
           clear F36 F38
           refine s_end (x_normal (wp_ret (x_block_ret (x_then_ret (x_then_ret (x_block_ret (x_then_ret ?_)))))))
           refine x_done (v := .bool false) F39 (results_1 Try.results141 (.tmp (F39.ev 4 rfl))) ?_
           exact ⟨(by rw [(show false = (decide (a = b)) from by first | exact (eqL_len ln_a ln_b (by assumption)).symm | exact (eqL_at hx1 hx2 (by assumption)).symm | exact (eqL_end hk_1 (by omega) (by omega)).symm)]), (Mv.pick (S16.trans S36) [] rfl)⟩
         · skip
           refine wp_skip (x_block_normal (x_normal (wp_region_lit (l_op (f_val F36 rfl rfl (r_add (z := ((k + 1 : Nat) : Int)) rfl (F36.ev 13 rfl) rfl (by first | rfl | omega) ⟨by first | omega | (unfold i64ok at *; omega), by first | omega | (unfold i64ok at *; omega)⟩) rfl fun _ F40 => ?_)))))
           refine l_op (f_mv F40 rfl rfl rfl rfl rfl fun _ F41 => ?_)
           have F42 : Fr 26 [(13, .int .i64 ((k + 1 : Nat) : Int)), (0, .slice a_a a_n a_c), (1, .slice b_a b_n b_c), (12, .int .i64 ((a_n : Nat) : Int))] _ := F41.cut rfl
           clear F36 F40 F41
           refine s_end ?_
           refine x_normal ⟨k + 1, by omega, F42.cut rfl, ((S16.trans S36).pick [] rfl), by omega, eqL_step hk_1 hx1 hx2 (by assumption)⟩
     · skip
       refine wp_exit (x_then_exit (x_then_exit (x_block_here (x_normal (wp_seq (wp_region_lit (l_op (f_val F18 rfl rfl (r_assign rfl rfl) rfl fun _ F43 => ?_))))))))
       have F44 : Fr 26 [(4, .bool true)] _ := F43.cut rfl
       clear F18 F43
       refine s_end (x_normal (wp_ret ?_))
       refine x_done (v := .bool true) F44 (results_1 Try.results141 (.tmp (F44.ev 4 rfl))) ?_
       exact ⟨(by rw [(show true = (decide (a = b)) from by first | exact (eqL_len ln_a ln_b (by assumption)).symm | exact (eqL_at hx1 hx2 (by assumption)).symm | exact (eqL_end hk_1 (by omega) (by omega)).symm)]), (Mv.pick S16 [] rfl)⟩
theorem laws_sameCells_c {w : World} {H : Nat → Prop} {a : List CellD} {a_a : Option Addr} {a_n a_c : Nat} {b : List CellD} {b_a : Option Addr} {b_n b_c : Nat} (v_a : Rd 2 encC okC H w (.slice a_a a_n a_c) a) (v_b : Rd 2 encC okC H w (.slice b_a b_n b_c) b) :
    Calls Try.prog 65 #[.slice a_a a_n a_c, .slice b_a b_n b_c] w fun e w' => e = .returned (.bool (decide (a = b))) ∧ Mv [] w [] w' := by
 have V_v_a : Rd 2 encC okC (V H w []) w (.slice a_a a_n a_c) a := Rd.start v_a (fun _ _ => fps_nil _)
 obtain ⟨ln_a, le_a, mx_a, ni_a⟩ := Rd.inv v_a
 have V_v_b : Rd 2 encC okC (V H w []) w (.slice b_a b_n b_c) b := Rd.start v_b (fun _ _ => fps_nil _)
 obtain ⟨ln_b, le_b, mx_b, ni_b⟩ := Rd.inv v_b
 refine calls_enter 26 Try.func65 rfl Try.ntmps65 (Nat.le_of_ble_eq_true rfl) (fun _ F0i => ?_)
 have F0 : Fr 26 [(0, .slice a_a a_n a_c), (1, .slice b_a b_n b_c)] _ := F0i
 clear F0i
 refine wp_seq (wp_region_lit (l_op (f_val F0 rfl rfl (r_assign rfl rfl) rfl fun _ F1 => ?_)))
 have F2 : Fr 26 [(4, .bool false), (0, .slice a_a a_n a_c), (1, .slice b_a b_n b_c)] _ := F1.cut rfl
 clear F0 F1
 refine s_end (x_normal (wp_seq (wp_seq (wp_region_lit (l_op (f_mv F2 rfl rfl rfl rfl rfl fun _ F3 => ?_))))))
 refine l_op (f_val F3 rfl rfl (r_len Try.underlying46 rfl (F3.ev 6 rfl)) rfl fun _ F4 => ?_)
 refine l_op (f_mv F4 rfl rfl rfl rfl rfl fun _ F5 => ?_)
 refine l_op (f_val F5 rfl rfl (r_len Try.underlying46 rfl (F5.ev 8 rfl)) rfl fun _ F6 => ?_)
 refine l_op (f_val F6 rfl rfl (r_cmp (b := decide (a_n ≠ b_n)) (.inr (.inl rfl)) rfl (F6.ev 7 rfl) (F6.ev 9 rfl) (dec_of (by omega))) rfl fun _ F7 => ?_)
 have F8 : Fr 26 [(10, .bool (decide (a_n ≠ b_n))), (0, .slice a_a a_n a_c), (1, .slice b_a b_n b_c)] _ := F7.cut rfl
 clear F2 F3 F4 F5 F6 F7
 refine s_end (x_normal (x_cond (p := a_n ≠ b_n) (F8.ev 10 rfl) (fun h9 => ?_) (fun h9 => ?_)))
 · skip
   refine wp_seq (wp_region_lit (l_op (f_val F8 rfl rfl (r_assign rfl rfl) rfl fun _ F10 => ?_)))
   have F11 : Fr 26 [(4, .bool false)] _ := F10.cut rfl
   clear F8 F10
   refine s_end (x_normal (wp_ret (x_then_ret ?_)))
   refine x_done (v := .bool false) F11 (results_1 Try.results65 (.tmp (F11.ev 4 rfl))) ?_
   exact ⟨(by rw [(show false = (decide (a = b)) from by first | exact (eqL_len ln_a ln_b (by assumption)).symm | exact (eqL_at hx1 hx2 (by assumption)).symm | exact (eqL_end hk_1 (by omega) (by omega)).symm)]), (Mv.pick (Mv.refl (At.nil w)) [] rfl)⟩
 · skip
   refine wp_skip (x_normal (wp_seq (wp_seq (wp_region_lit (l_op (f_val F8 rfl rfl (r_assign rfl rfl) rfl fun _ F12 => ?_))))))
   have F13 : Fr 26 [(5, .int .i64 0), (0, .slice a_a a_n a_c), (1, .slice b_a b_n b_c)] _ := F12.cut rfl
   clear F8 F12
   refine s_end (x_normal (wp_block ?_))
   refine x_loop (fun (k : Nat) aZ wZ => Fr 26 [(5, .int .i64 ((k : Nat) : Int)), (0, .slice a_a a_n a_c), (1, .slice b_a b_n b_c)] aZ ∧ Mv [] w [] wZ ∧ (k ≤ a_n) ∧ (a.take k = b.take k)) (fun (k : Nat) => a_n - k) (0) ?_ ?_
   · exact ⟨F13.cut rfl, (Mv.refl (At.nil w)), by omega, rfl⟩
   · rintro k a14 w14 ⟨F14, S14, hk_0, hk_1⟩
     refine wp_seq (wp_seq (wp_region_lit (l_op (f_mv F14 rfl rfl rfl rfl rfl fun _ F15 => ?_))))
     refine l_op (f_mv F15 rfl rfl rfl rfl rfl fun _ F16 => ?_)
     refine l_op (f_val F16 rfl rfl (r_len Try.underlying46 rfl (F16.ev 12 rfl)) rfl fun _ F17 => ?_)
     refine l_op (f_val F17 rfl rfl (r_cmp (b := decide (k < a_n)) (.inr (.inr (.inl rfl))) rfl (F17.ev 11 rfl) (F17.ev 13 rfl) (dec_of (by omega))) rfl fun _ F18 => ?_)
     have F19 : Fr 26 [(14, .bool (decide (k < a_n))), (5, .int .i64 ((k : Nat) : Int)), (0, .slice a_a a_n a_c), (1, .slice b_a b_n b_c)] _ := F18.cut rfl
     clear F14 F15 F16 F17 F18
     refine s_end (x_normal (x_cond (p := k < a_n) (F19.ev 14 rfl) (fun h20 => ?_) (fun h20 => ?_)))
     · skip
       refine wp_skip (x_normal (wp_seq (wp_block (wp_seq ?_))))
       obtain ⟨x1, hx1, okx1⟩ := Rd.elem (Rd.mv (Nat.succ_pos _) V_v_a S14) k (by first | assumption | omega)
       obtain ⟨x2, hx2, okx2⟩ := Rd.elem (Rd.mv (Nat.succ_pos _) V_v_b S14) k (by first | assumption | omega)
       refine x_draw (fun aZ wZ => Fr 26 [(0, .slice a_a a_n a_c), (1, .slice b_a b_n b_c), (5, .int .i64 ((k : Nat) : Int)), (25, .bool (decide (x1 ≠ x2)))] aZ ∧ Mv [] w14 [] wZ) [] mixed S14.at' (listed := #[false, false, false, false, false, false, false, false, false]) rfl (fun w22 S22 => ?_) [] rfl ?_
       · skip
         refine g_take F19 rfl (i := 0) (listed' := #[true, false, false, false, false, false, false, false, false]) rfl (by kernel_rfl) (by kernel_rfl) (by kernel_rfl) (fun _ _ _ h => h) (Sd.of (Mv.refl S22.at') [] rfl) rfl rfl rfl rfl (fun _ hz => (r_move rfl (F19.ev 0 rfl))) fun _ F23 => ?_
         refine g_take F23 rfl (i := 1) (listed' := #[true, true, false, false, false, false, false, false, false]) rfl (by kernel_rfl) (by kernel_rfl) (by kernel_rfl) (fun _ _ _ h => h) (Sd.of (Mv.refl S22.at') [] rfl) rfl rfl rfl rfl (fun _ hz => (r_move rfl (F23.ev 5 rfl))) fun _ F24 => ?_
         obtain ⟨B25, O25, y25, ad25, hy25, oky25, ln25, cl25⟩ := Rd.atK (Nat.succ_pos _) (Rd.mv (Nat.succ_pos _) V_v_a (S14.trans S22)) k (by first | assumption | omega)
         clear ln25
         obtain rfl := Option.some.inj (hx1.symm.trans hy25)
         clear hy25 oky25
         refine g_take F24 rfl (i := 2) (listed' := #[true, true, true, false, false, false, false, false, false]) rfl (by kernel_rfl) (by kernel_rfl) (by kernel_rfl) (fun _ _ _ h => h) (Sd.of (Mv.refl S22.at') [] rfl) rfl rfl rfl rfl (fun _ hz => (r_indexAddr (i := k) ET_46 rfl ((F24.ev 17 rfl).trans (by rw [ad25])) (F24.ev 18 rfl) (by omega) (by first | assumption | omega))) fun _ F26 => ?_
         refine g_take (v := .agg #[.string x1.key, .string x1.val]) F26 rfl (i := 3) (listed' := #[true, true, true, true, false, false, false, false, false]) rfl (by kernel_rfl) (by kernel_rfl) (by kernel_rfl) (fun _ _ _ h => h) (Sd.of (Mv.refl S22.at') [] rfl) rfl rfl rfl rfl (fun _ hz => (r_load (cs := [.string x1.key, .string x1.val]) TI_98 rfl (F26.ev 19 rfl) rfl (fun h => nomatch h) (elem_sub (f := 0) (cl25 _ hz.kp) [.string x1.key, .string x1.val] rfl))) fun _ F27 => ?_
         refine g_take F27 rfl (i := 4) (listed' := #[true, true, true, true, true, false, false, false, false]) rfl (by kernel_rfl) (by kernel_rfl) (by kernel_rfl) (fun _ _ _ h => h) (Sd.of (Mv.refl S22.at') [] rfl) rfl rfl rfl rfl (fun _ hz => (r_move rfl (F27.ev 1 rfl))) fun _ F28 => ?_
         refine g_take F28 rfl (i := 5) (listed' := #[true, true, true, true, true, true, false, false, false]) rfl (by kernel_rfl) (by kernel_rfl) (by kernel_rfl) (fun _ _ _ h => h) (Sd.of (Mv.refl S22.at') [] rfl) rfl rfl rfl rfl (fun _ hz => (r_move rfl (F28.ev 5 rfl))) fun _ F29 => ?_
         obtain ⟨B30, O30, y30, ad30, hy30, oky30, ln30, cl30⟩ := Rd.atK (Nat.succ_pos _) (Rd.mv (Nat.succ_pos _) V_v_b (S14.trans S22)) k (by first | assumption | omega)
         clear ln30
         obtain rfl := Option.some.inj (hx2.symm.trans hy30)
         clear hy30 oky30
         refine g_take F29 rfl (i := 6) (listed' := #[true, true, true, true, true, true, true, false, false]) rfl (by kernel_rfl) (by kernel_rfl) (by kernel_rfl) (fun _ _ _ h => h) (Sd.of (Mv.refl S22.at') [] rfl) rfl rfl rfl rfl (fun _ hz => (r_indexAddr (i := k) ET_46 rfl ((F29.ev 21 rfl).trans (by rw [ad30])) (F29.ev 22 rfl) (by omega) (by first | assumption | omega))) fun _ F31 => ?_
         refine g_take (v := .agg #[.string x2.key, .string x2.val]) F31 rfl (i := 7) (listed' := #[true, true, true, true, true, true, true, true, false]) rfl (by kernel_rfl) (by kernel_rfl) (by kernel_rfl) (fun _ _ _ h => h) (Sd.of (Mv.refl S22.at') [] rfl) rfl rfl rfl rfl (fun _ hz => (r_load (cs := [.string x2.key, .string x2.val]) TI_98 rfl (F31.ev 23 rfl) rfl (fun h => nomatch h) (elem_sub (f := 0) (cl30 _ hz.kp) [.string x2.key, .string x2.val] rfl))) fun _ F32 => ?_
         refine g_take F32 rfl (i := 8) (listed' := #[true, true, true, true, true, true, true, true, true]) rfl (by kernel_rfl) (by kernel_rfl) (by kernel_rfl) (fun _ _ _ h => h) (Sd.of (Mv.refl S22.at') [] rfl) rfl rfl rfl rfl (fun _ hz => (r_neqC rfl (F32.ev 20 rfl) (F32.ev 24 rfl))) fun _ F33 => ?_
         refine wpAnyH_done (by kernel_rfl) (x_normal ?_) _
         exact ⟨F33.cut rfl, (S22.pick [] rfl)⟩
       · rintro a34 w34 ⟨F34, S34⟩
         refine x_normal (x_cond (p := x1 ≠ x2) (F34.ev 25 rfl) (fun h35 => ?_) (fun h35 => ?_))
         · skip
           refine wp_seq (wp_region_lit (l_op (f_val F34 rfl rfl (r_assign rfl rfl) rfl fun _ F36 => ?_)))
           have F37 : Fr 26 [(4, .bool false)] _ := F36.cut rfl
           clear F34 F36
           refine s_end (x_normal (wp_ret (x_block_ret (x_then_ret (x_then_ret (x_block_ret (x_then_ret ?_)))))))
           refine x_done (v := .bool false) F37 (results_1 Try.results65 (.tmp (F37.ev 4 rfl))) ?_
           exact ⟨(by rw [(show false = (decide (a = b)) from by first | exact (eqL_len ln_a ln_b (by assumption)).symm | exact (eqL_at hx1 hx2 (by assumption)).symm | exact (eqL_end hk_1 (by omega) (by omega)).symm)]), (Mv.pick (S14.trans S34) [] rfl)⟩
         · skip
           refine wp_skip (x_block_normal (x_normal (wp_region_lit (l_op (f_mv F34 rfl rfl rfl rfl rfl fun _ F38 => ?_)))))
           refine l_op (f_val F38 rfl rfl (r_add (z := ((k + 1 : Nat) : Int)) rfl (F38.ev 15 rfl) rfl (by first | rfl | omega) ⟨by first | omega | (unfold i64ok at *; omega), by first | omega | (unfold i64ok at *; omega)⟩) rfl fun _ F39 => ?_)
           refine l_op (f_as F39 rfl rfl rfl rfl rfl fun _ F40 => ?_)
           have F41 : Fr 26 [(5, .int .i64 ((k + 1 : Nat) : Int)), (0, .slice a_a a_n a_c), (1, .slice b_a b_n b_c)] _ := F40.cut rfl
           clear F34 F38 F39 F40
           refine s_end ?_
           refine x_normal ⟨k + 1, by omega, F41.cut rfl, ((S14.trans S34).pick [] rfl), by omega, eqL_step hk_1 hx1 hx2 (by assumption)⟩
     · skip
       refine wp_exit (x_then_exit (x_then_exit (x_block_here (x_normal (wp_seq (wp_region_lit (l_op (f_val F19 rfl rfl (r_assign rfl rfl) rfl fun _ F42 => ?_))))))))
       have F43 : Fr 26 [(4, .bool true)] _ := F42.cut rfl
       clear F19 F42
       refine s_end (x_normal (wp_ret ?_))
       refine x_done (v := .bool true) F43 (results_1 Try.results65 (.tmp (F43.ev 4 rfl))) ?_
       exact ⟨(by rw [(show true = (decide (a = b)) from by first | exact (eqL_len ln_a ln_b (by assumption)).symm | exact (eqL_at hx1 hx2 (by assumption)).symm | exact (eqL_end hk_1 (by omega) (by omega)).symm)]), (Mv.pick S14 [] rfl)⟩
theorem impl_SameStore_c {w : World} {H : Nat → Prop} {a : List CellD} {a_a : Option Addr} {a_n a_c : Nat} {b : List CellD} {b_a : Option Addr} {b_n b_c : Nat} (v_a : Rd 2 encC okC H w (.slice a_a a_n a_c) a) (v_b : Rd 2 encC okC H w (.slice b_a b_n b_c) b) :
    Calls Try.prog 119 #[.slice a_a a_n a_c, .slice b_a b_n b_c] w fun e w' => e = .returned (.bool (decide (a = b))) ∧ Mv [] w [] w' := by
 have V_v_a : Rd 2 encC okC (V H w []) w (.slice a_a a_n a_c) a := Rd.start v_a (fun _ _ => fps_nil _)
 obtain ⟨ln_a, le_a, mx_a, ni_a⟩ := Rd.inv v_a
 have V_v_b : Rd 2 encC okC (V H w []) w (.slice b_a b_n b_c) b := Rd.start v_b (fun _ _ => fps_nil _)
 obtain ⟨ln_b, le_b, mx_b, ni_b⟩ := Rd.inv v_b
 refine calls_enter 8 Try.func119 rfl Try.ntmps119 (Nat.le_of_ble_eq_true rfl) (fun _ F0i => ?_)
 have F0 : Fr 8 [(0, .slice a_a a_n a_c), (1, .slice b_a b_n b_c)] _ := F0i
 clear F0i
 refine wp_seq (wp_region_lit (l_op (f_val F0 rfl rfl (r_assign rfl rfl) rfl fun _ F1 => ?_)))
 have F2 : Fr 8 [(4, .bool false), (0, .slice a_a a_n a_c), (1, .slice b_a b_n b_c)] _ := F1.cut rfl
 clear F0 F1
 refine s_end (x_normal (wp_seq (wp_region_lit (l_op (f_mv F2 rfl rfl rfl rfl rfl fun _ F3 => ?_)))))
 refine l_op (f_mv F3 rfl rfl rfl rfl rfl fun _ F4 => ?_)
 refine l_op (f_call F4 CF_141 rfl rfl rfl rfl (lc (F4.ev 5 rfl) (lc (F4.ev 6 rfl) rfl)) (slices_Equal_Simpl_Cell_impl_Cell_c (a := a) (b := b) V_v_a V_v_b) ?_)
 rintro _ w5 ⟨rfl, m5⟩
 refine ⟨_, rfl, fun _ F6 => ?_⟩
 have S5 := At.frame0 (At.nil w) m5
 clear m5
 refine l_op (f_as F6 rfl rfl rfl rfl rfl fun _ F7 => ?_)
 have F8 : Fr 8 [(4, .bool (decide (a = b)))] _ := F7.cut rfl
 clear F2 F3 F4 F6 F7
 have T9 : Mv _ _ [] _ := S5
 refine s_end (x_normal (wp_ret ?_))
 refine x_done (v := .bool (decide (a = b))) F8 (results_1 Try.results119 (.tmp (F8.ev 4 rfl))) ?_
 exact ⟨rfl, (Mv.pick T9 [] rfl)⟩
theorem impl_SameMach_c {w : World} {H : Nat → Prop} {a : MachD} {a_Sa : Option Addr} {a_Sn a_Sc : Nat} {a_Ra : Option Addr} {a_Rn a_Rc : Nat} {a_Wa : Option Addr} {a_Wn a_Wc : Nat} {b : MachD} {b_Sa : Option Addr} {b_Sn b_Sc : Nat} {b_Ra : Option Addr} {b_Rn b_Rc : Nat} {b_Wa : Option Addr} {b_Wn b_Wc : Nat} (v_a_store : Rd 2 encC okC H w (.slice a_Sa a_Sn a_Sc) a.store) (v_a_touch_reads : Rd 1 encS okS H w (.slice a_Ra a_Rn a_Rc) a.touch.reads) (v_a_touch_writes : Rd 1 encS okS H w (.slice a_Wa a_Wn a_Wc) a.touch.writes) (v_b_store : Rd 2 encC okC H w (.slice b_Sa b_Sn b_Sc) b.store) (v_b_touch_reads : Rd 1 encS okS H w (.slice b_Ra b_Rn b_Rc) b.touch.reads) (v_b_touch_writes : Rd 1 encS okS H w (.slice b_Wa b_Wn b_Wc) b.touch.writes) :
    Calls Try.prog 68 #[.agg #[.slice a_Sa a_Sn a_Sc, .slice a_Ra a_Rn a_Rc, .slice a_Wa a_Wn a_Wc], .agg #[.slice b_Sa b_Sn b_Sc, .slice b_Ra b_Rn b_Rc, .slice b_Wa b_Wn b_Wc]] w fun e w' => e = .returned (.bool (decide (a = b))) ∧ Mv [] w [] w' := by
 have V_v_a_store : Rd 2 encC okC (V H w []) w (.slice a_Sa a_Sn a_Sc) a.store := Rd.start v_a_store (fun _ _ => fps_nil _)
 obtain ⟨ln_a_store, le_a_store, mx_a_store, ni_a_store⟩ := Rd.inv v_a_store
 have V_v_a_touch_reads : Rd 1 encS okS (V H w []) w (.slice a_Ra a_Rn a_Rc) a.touch.reads := Rd.start v_a_touch_reads (fun _ _ => fps_nil _)
 obtain ⟨ln_a_touch_reads, le_a_touch_reads, mx_a_touch_reads, ni_a_touch_reads⟩ := Rd.inv v_a_touch_reads
 have V_v_a_touch_writes : Rd 1 encS okS (V H w []) w (.slice a_Wa a_Wn a_Wc) a.touch.writes := Rd.start v_a_touch_writes (fun _ _ => fps_nil _)
 obtain ⟨ln_a_touch_writes, le_a_touch_writes, mx_a_touch_writes, ni_a_touch_writes⟩ := Rd.inv v_a_touch_writes
 have V_v_b_store : Rd 2 encC okC (V H w []) w (.slice b_Sa b_Sn b_Sc) b.store := Rd.start v_b_store (fun _ _ => fps_nil _)
 obtain ⟨ln_b_store, le_b_store, mx_b_store, ni_b_store⟩ := Rd.inv v_b_store
 have V_v_b_touch_reads : Rd 1 encS okS (V H w []) w (.slice b_Ra b_Rn b_Rc) b.touch.reads := Rd.start v_b_touch_reads (fun _ _ => fps_nil _)
 obtain ⟨ln_b_touch_reads, le_b_touch_reads, mx_b_touch_reads, ni_b_touch_reads⟩ := Rd.inv v_b_touch_reads
 have V_v_b_touch_writes : Rd 1 encS okS (V H w []) w (.slice b_Wa b_Wn b_Wc) b.touch.writes := Rd.start v_b_touch_writes (fun _ _ => fps_nil _)
 obtain ⟨ln_b_touch_writes, le_b_touch_writes, mx_b_touch_writes, ni_b_touch_writes⟩ := Rd.inv v_b_touch_writes
 refine calls_enter 17 Try.func68 rfl Try.ntmps68 (Nat.le_of_ble_eq_true rfl) (fun _ F0i => ?_)
 have F0 : Fr 17 [(0, .agg #[.slice a_Sa a_Sn a_Sc, .slice a_Ra a_Rn a_Rc, .slice a_Wa a_Wn a_Wc]), (1, .agg #[.slice b_Sa b_Sn b_Sc, .slice b_Ra b_Rn b_Rc, .slice b_Wa b_Wn b_Wc])] _ := F0i
 clear F0i
 refine wp_seq (wp_region_lit (l_op (f_box F0 (At.nil w) rfl rfl rfl (F0.ev 0 rfl) rfl rfl fun b1 _ w1 F2 S1 => ?_)))
 refine l_op (f_box F2 S1.at' rfl rfl rfl (F2.ev 1 rfl) rfl rfl fun b3 _ w3 F4 S3 => ?_)
 refine l_op (f_val F4 rfl rfl (r_assign rfl rfl) rfl fun _ F5 => ?_)
 have F6 : Fr 17 [(4, .bool false), (3, .pointer (some ⟨b3, 0, none⟩)), (2, .pointer (some ⟨b1, 0, none⟩))] _ := F5.cut rfl
 clear F0 F2 F4 F5
 have T7 : Mv _ _ [bx b3 [.slice b_Sa b_Sn b_Sc, .slice b_Ra b_Rn b_Rc, .slice b_Wa b_Wn b_Wc] 48, bx b1 [.slice a_Sa a_Sn a_Sc, .slice a_Ra a_Rn a_Rc, .slice a_Wa a_Wn a_Wc] 48] _ := S3
 refine s_end (x_normal (wp_seq (wp_region_lit (l_op (f_val F6 rfl rfl (r_field FI_48_0 rfl (F6.ev 2 rfl) rfl) rfl fun _ F8 => ?_)))))
 refine l_op (f_val (v := .slice a_Sa a_Sn a_Sc) F8 rfl rfl (r_loadB T7.at' 1 TI_46 rfl rfl (F8.ev 5 rfl) rfl rfl (fun _ => rfl) rfl) rfl fun _ F9 => ?_)
 refine l_op (f_val F9 rfl rfl (r_field FI_48_0 rfl (F9.ev 3 rfl) rfl) rfl fun _ F10 => ?_)
 refine l_op (f_val (v := .slice b_Sa b_Sn b_Sc) F10 rfl rfl (r_loadB T7.at' 0 TI_46 rfl rfl (F10.ev 7 rfl) rfl rfl (fun _ => rfl) rfl) rfl fun _ F11 => ?_)
 refine l_op (f_call F11 CF_119 rfl rfl rfl rfl (lc (F11.ev 6 rfl) (lc (F11.ev 8 rfl) rfl)) (impl_SameStore_c (a := a.store) (b := b.store) (Rd.mv (Nat.succ_pos _) V_v_a_store (S1.trans T7)) (Rd.mv (Nat.succ_pos _) V_v_b_store (S1.trans T7))) ?_)
 rintro _ w12 ⟨rfl, m12⟩
 refine ⟨_, rfl, fun _ F13 => ?_⟩
 have S12 := At.frame0 T7.at' m12
 clear m12
 refine l_op (f_mv F13 rfl rfl rfl rfl rfl fun _ F14 => ?_)
 rcases Bool.eq_false_or_eq_true (decide (a.store = b.store)) with h15 | h15
 · rw [h15] at F14
   refine l_op (f_val F14 (wanted_g F14 rfl rfl rfl rfl) rfl (r_field FI_48_1 rfl (F14.ev 2 rfl) rfl) rfl fun _ F16 => ?_)
   refine l_op (f_val (v := .agg #[.slice a_Ra a_Rn a_Rc, .slice a_Wa a_Wn a_Wc]) F16 (wanted_g F16 rfl rfl rfl rfl) rfl (r_loadB S12.at' 1 TI_26 rfl rfl (F16.ev 11 rfl) rfl rfl (fun h => nomatch h) rfl) rfl fun _ F17 => ?_)
   refine l_op (f_val F17 (wanted_g F17 rfl rfl rfl rfl) rfl (r_field FI_48_1 rfl (F17.ev 3 rfl) rfl) rfl fun _ F18 => ?_)
   refine l_op (f_val (v := .agg #[.slice b_Ra b_Rn b_Rc, .slice b_Wa b_Wn b_Wc]) F18 (wanted_g F18 rfl rfl rfl rfl) rfl (r_loadB S12.at' 0 TI_26 rfl rfl (F18.ev 13 rfl) rfl rfl (fun h => nomatch h) rfl) rfl fun _ F19 => ?_)
   refine l_op (f_call F19 CF_26 (wanted_g F19 rfl rfl rfl rfl) rfl rfl rfl (lc (F19.ev 12 rfl) (lc (F19.ev 14 rfl) rfl)) (impl_SameTouch_c (a := a.touch) (b := b.touch) (Rd.mv (Nat.succ_pos _) V_v_a_touch_reads (S1.trans (T7.trans S12))) (Rd.mv (Nat.succ_pos _) V_v_a_touch_writes (S1.trans (T7.trans S12))) (Rd.mv (Nat.succ_pos _) V_v_b_touch_reads (S1.trans (T7.trans S12))) (Rd.mv (Nat.succ_pos _) V_v_b_touch_writes (S1.trans (T7.trans S12)))) ?_)
   rintro _ w20 ⟨rfl, m20⟩
   refine ⟨_, rfl, fun _ F21 => ?_⟩
   have S20 := At.frame0 S12.at' m20
   clear m20
   refine l_op (f_val F21 rfl rfl (r_pick (b := true) rfl (F21.ev 10 rfl) (F21.ev 15 rfl)) rfl fun _ F22 => ?_)
   refine l_op (f_as F22 rfl rfl rfl rfl rfl fun _ F23 => ?_)
   have F24 : Fr 17 [(4, .bool (decide (a.touch = b.touch)))] _ := F23.cut rfl
   clear F6 F8 F9 F10 F11 F13 F14 F16 F17 F18 F19 F21 F22 F23
   have T25 : Mv _ _ [bx b3 [.slice b_Sa b_Sn b_Sc, .slice b_Ra b_Rn b_Rc, .slice b_Wa b_Wn b_Wc] 48, bx b1 [.slice a_Sa a_Sn a_Sc, .slice a_Ra a_Rn a_Rc, .slice a_Wa a_Wn a_Wc] 48] _ := S20
   refine s_end (x_normal (wp_ret ?_))
   refine x_done (v := .bool (decide (a.touch = b.touch))) F24 (results_1 Try.results68 (.tmp (F24.ev 4 rfl))) ?_
   exact ⟨(by rw [(show (decide (a.touch = b.touch)) = (decide (a = b)) from by first | exact (mach_ne (by assumption)).symm | exact (mach_eq (by assumption)).symm)]), (Mv.pick (S1.trans (T7.trans (S12.trans T25))) [] rfl)⟩
 · rw [h15] at F14
   refine l_op (f_skip F14 (wanted_g F14 rfl rfl rfl rfl) rfl rfl fun _ F26 => ?_)
   refine l_op (f_skip F26 (wanted_g F26 rfl rfl rfl rfl) rfl rfl fun _ F27 => ?_)
   refine l_op (f_skip F27 (wanted_g F27 rfl rfl rfl rfl) rfl rfl fun _ F28 => ?_)
   refine l_op (f_skip F28 (wanted_g F28 rfl rfl rfl rfl) rfl rfl fun _ F29 => ?_)
   refine l_op (f_skip F29 (wanted_g F29 rfl rfl rfl rfl) rfl rfl fun _ F30 => ?_)
   refine l_op (f_val F30 rfl rfl (r_pick (b := false) rfl (F30.ev 10 rfl) rfl) rfl fun _ F31 => ?_)
   refine l_op (f_as F31 rfl rfl rfl rfl rfl fun _ F32 => ?_)
   have F33 : Fr 17 [(4, .bool false)] _ := F32.cut rfl
   clear F6 F8 F9 F10 F11 F13 F14 F26 F27 F28 F29 F30 F31 F32
   have T34 : Mv _ _ [bx b3 [.slice b_Sa b_Sn b_Sc, .slice b_Ra b_Rn b_Rc, .slice b_Wa b_Wn b_Wc] 48, bx b1 [.slice a_Sa a_Sn a_Sc, .slice a_Ra a_Rn a_Rc, .slice a_Wa a_Wn a_Wc] 48] _ := S12
   refine s_end (x_normal (wp_ret ?_))
   refine x_done (v := .bool false) F33 (results_1 Try.results68 (.tmp (F33.ev 4 rfl))) ?_
   exact ⟨(by rw [(show false = (decide (a = b)) from by first | exact (mach_ne (by assumption)).symm | exact (mach_eq (by assumption)).symm)]), (Mv.pick (S1.trans (T7.trans T34)) [] rfl)⟩
theorem laws_sameMach_c {w : World} {H : Nat → Prop} {a : MachD} {a_Sa : Option Addr} {a_Sn a_Sc : Nat} {a_Ra : Option Addr} {a_Rn a_Rc : Nat} {a_Wa : Option Addr} {a_Wn a_Wc : Nat} {b : MachD} {b_Sa : Option Addr} {b_Sn b_Sc : Nat} {b_Ra : Option Addr} {b_Rn b_Rc : Nat} {b_Wa : Option Addr} {b_Wn b_Wc : Nat} (v_a_store : Rd 2 encC okC H w (.slice a_Sa a_Sn a_Sc) a.store) (v_a_touch_reads : Rd 1 encS okS H w (.slice a_Ra a_Rn a_Rc) a.touch.reads) (v_a_touch_writes : Rd 1 encS okS H w (.slice a_Wa a_Wn a_Wc) a.touch.writes) (v_b_store : Rd 2 encC okC H w (.slice b_Sa b_Sn b_Sc) b.store) (v_b_touch_reads : Rd 1 encS okS H w (.slice b_Ra b_Rn b_Rc) b.touch.reads) (v_b_touch_writes : Rd 1 encS okS H w (.slice b_Wa b_Wn b_Wc) b.touch.writes) :
    Calls Try.prog 62 #[.agg #[.slice a_Sa a_Sn a_Sc, .slice a_Ra a_Rn a_Rc, .slice a_Wa a_Wn a_Wc], .agg #[.slice b_Sa b_Sn b_Sc, .slice b_Ra b_Rn b_Rc, .slice b_Wa b_Wn b_Wc]] w fun e w' => e = .returned (.bool (decide (a = b))) ∧ Mv [] w [] w' := by
 have V_v_a_store : Rd 2 encC okC (V H w []) w (.slice a_Sa a_Sn a_Sc) a.store := Rd.start v_a_store (fun _ _ => fps_nil _)
 obtain ⟨ln_a_store, le_a_store, mx_a_store, ni_a_store⟩ := Rd.inv v_a_store
 have V_v_a_touch_reads : Rd 1 encS okS (V H w []) w (.slice a_Ra a_Rn a_Rc) a.touch.reads := Rd.start v_a_touch_reads (fun _ _ => fps_nil _)
 obtain ⟨ln_a_touch_reads, le_a_touch_reads, mx_a_touch_reads, ni_a_touch_reads⟩ := Rd.inv v_a_touch_reads
 have V_v_a_touch_writes : Rd 1 encS okS (V H w []) w (.slice a_Wa a_Wn a_Wc) a.touch.writes := Rd.start v_a_touch_writes (fun _ _ => fps_nil _)
 obtain ⟨ln_a_touch_writes, le_a_touch_writes, mx_a_touch_writes, ni_a_touch_writes⟩ := Rd.inv v_a_touch_writes
 have V_v_b_store : Rd 2 encC okC (V H w []) w (.slice b_Sa b_Sn b_Sc) b.store := Rd.start v_b_store (fun _ _ => fps_nil _)
 obtain ⟨ln_b_store, le_b_store, mx_b_store, ni_b_store⟩ := Rd.inv v_b_store
 have V_v_b_touch_reads : Rd 1 encS okS (V H w []) w (.slice b_Ra b_Rn b_Rc) b.touch.reads := Rd.start v_b_touch_reads (fun _ _ => fps_nil _)
 obtain ⟨ln_b_touch_reads, le_b_touch_reads, mx_b_touch_reads, ni_b_touch_reads⟩ := Rd.inv v_b_touch_reads
 have V_v_b_touch_writes : Rd 1 encS okS (V H w []) w (.slice b_Wa b_Wn b_Wc) b.touch.writes := Rd.start v_b_touch_writes (fun _ _ => fps_nil _)
 obtain ⟨ln_b_touch_writes, le_b_touch_writes, mx_b_touch_writes, ni_b_touch_writes⟩ := Rd.inv v_b_touch_writes
 refine calls_enter 17 Try.func62 rfl Try.ntmps62 (Nat.le_of_ble_eq_true rfl) (fun _ F0i => ?_)
 have F0 : Fr 17 [(0, .agg #[.slice a_Sa a_Sn a_Sc, .slice a_Ra a_Rn a_Rc, .slice a_Wa a_Wn a_Wc]), (1, .agg #[.slice b_Sa b_Sn b_Sc, .slice b_Ra b_Rn b_Rc, .slice b_Wa b_Wn b_Wc])] _ := F0i
 clear F0i
 refine wp_seq (wp_region_lit (l_op (f_box F0 (At.nil w) rfl rfl rfl (F0.ev 0 rfl) rfl rfl fun b1 _ w1 F2 S1 => ?_)))
 refine l_op (f_box F2 S1.at' rfl rfl rfl (F2.ev 1 rfl) rfl rfl fun b3 _ w3 F4 S3 => ?_)
 refine l_op (f_val F4 rfl rfl (r_assign rfl rfl) rfl fun _ F5 => ?_)
 have F6 : Fr 17 [(4, .bool false), (3, .pointer (some ⟨b3, 0, none⟩)), (2, .pointer (some ⟨b1, 0, none⟩))] _ := F5.cut rfl
 clear F0 F2 F4 F5
 have T7 : Mv _ _ [bx b3 [.slice b_Sa b_Sn b_Sc, .slice b_Ra b_Rn b_Rc, .slice b_Wa b_Wn b_Wc] 48, bx b1 [.slice a_Sa a_Sn a_Sc, .slice a_Ra a_Rn a_Rc, .slice a_Wa a_Wn a_Wc] 48] _ := S3
 refine s_end (x_normal (wp_seq (wp_region_lit (l_op (f_val F6 rfl rfl (r_field FI_48_0 rfl (F6.ev 2 rfl) rfl) rfl fun _ F8 => ?_)))))
 refine l_op (f_val (v := .slice a_Sa a_Sn a_Sc) F8 rfl rfl (r_loadB T7.at' 1 TI_46 rfl rfl (F8.ev 5 rfl) rfl rfl (fun _ => rfl) rfl) rfl fun _ F9 => ?_)
 refine l_op (f_val F9 rfl rfl (r_field FI_48_0 rfl (F9.ev 3 rfl) rfl) rfl fun _ F10 => ?_)
 refine l_op (f_val (v := .slice b_Sa b_Sn b_Sc) F10 rfl rfl (r_loadB T7.at' 0 TI_46 rfl rfl (F10.ev 7 rfl) rfl rfl (fun _ => rfl) rfl) rfl fun _ F11 => ?_)
 refine l_op (f_call F11 CF_65 rfl rfl rfl rfl (lc (F11.ev 6 rfl) (lc (F11.ev 8 rfl) rfl)) (laws_sameCells_c (a := a.store) (b := b.store) (Rd.mv (Nat.succ_pos _) V_v_a_store (S1.trans T7)) (Rd.mv (Nat.succ_pos _) V_v_b_store (S1.trans T7))) ?_)
 rintro _ w12 ⟨rfl, m12⟩
 refine ⟨_, rfl, fun _ F13 => ?_⟩
 have S12 := At.frame0 T7.at' m12
 clear m12
 refine l_op (f_mv F13 rfl rfl rfl rfl rfl fun _ F14 => ?_)
 rcases Bool.eq_false_or_eq_true (decide (a.store = b.store)) with h15 | h15
 · rw [h15] at F14
   refine l_op (f_val F14 (wanted_g F14 rfl rfl rfl rfl) rfl (r_field FI_48_1 rfl (F14.ev 2 rfl) rfl) rfl fun _ F16 => ?_)
   refine l_op (f_val (v := .agg #[.slice a_Ra a_Rn a_Rc, .slice a_Wa a_Wn a_Wc]) F16 (wanted_g F16 rfl rfl rfl rfl) rfl (r_loadB S12.at' 1 TI_26 rfl rfl (F16.ev 11 rfl) rfl rfl (fun h => nomatch h) rfl) rfl fun _ F17 => ?_)
   refine l_op (f_val F17 (wanted_g F17 rfl rfl rfl rfl) rfl (r_field FI_48_1 rfl (F17.ev 3 rfl) rfl) rfl fun _ F18 => ?_)
   refine l_op (f_val (v := .agg #[.slice b_Ra b_Rn b_Rc, .slice b_Wa b_Wn b_Wc]) F18 (wanted_g F18 rfl rfl rfl rfl) rfl (r_loadB S12.at' 0 TI_26 rfl rfl (F18.ev 13 rfl) rfl rfl (fun h => nomatch h) rfl) rfl fun _ F19 => ?_)
   refine l_op (f_call F19 CF_23 (wanted_g F19 rfl rfl rfl rfl) rfl rfl rfl (lc (F19.ev 12 rfl) (lc (F19.ev 14 rfl) rfl)) (laws_sameTouch_c (a := a.touch) (b := b.touch) (Rd.mv (Nat.succ_pos _) V_v_a_touch_reads (S1.trans (T7.trans S12))) (Rd.mv (Nat.succ_pos _) V_v_a_touch_writes (S1.trans (T7.trans S12))) (Rd.mv (Nat.succ_pos _) V_v_b_touch_reads (S1.trans (T7.trans S12))) (Rd.mv (Nat.succ_pos _) V_v_b_touch_writes (S1.trans (T7.trans S12)))) ?_)
   rintro _ w20 ⟨rfl, m20⟩
   refine ⟨_, rfl, fun _ F21 => ?_⟩
   have S20 := At.frame0 S12.at' m20
   clear m20
   refine l_op (f_val F21 rfl rfl (r_pick (b := true) rfl (F21.ev 10 rfl) (F21.ev 15 rfl)) rfl fun _ F22 => ?_)
   refine l_op (f_as F22 rfl rfl rfl rfl rfl fun _ F23 => ?_)
   have F24 : Fr 17 [(4, .bool (decide (a.touch = b.touch)))] _ := F23.cut rfl
   clear F6 F8 F9 F10 F11 F13 F14 F16 F17 F18 F19 F21 F22 F23
   have T25 : Mv _ _ [bx b3 [.slice b_Sa b_Sn b_Sc, .slice b_Ra b_Rn b_Rc, .slice b_Wa b_Wn b_Wc] 48, bx b1 [.slice a_Sa a_Sn a_Sc, .slice a_Ra a_Rn a_Rc, .slice a_Wa a_Wn a_Wc] 48] _ := S20
   refine s_end (x_normal (wp_ret ?_))
   refine x_done (v := .bool (decide (a.touch = b.touch))) F24 (results_1 Try.results62 (.tmp (F24.ev 4 rfl))) ?_
   exact ⟨(by rw [(show (decide (a.touch = b.touch)) = (decide (a = b)) from by first | exact (mach_ne (by assumption)).symm | exact (mach_eq (by assumption)).symm)]), (Mv.pick (S1.trans (T7.trans (S12.trans T25))) [] rfl)⟩
 · rw [h15] at F14
   refine l_op (f_skip F14 (wanted_g F14 rfl rfl rfl rfl) rfl rfl fun _ F26 => ?_)
   refine l_op (f_skip F26 (wanted_g F26 rfl rfl rfl rfl) rfl rfl fun _ F27 => ?_)
   refine l_op (f_skip F27 (wanted_g F27 rfl rfl rfl rfl) rfl rfl fun _ F28 => ?_)
   refine l_op (f_skip F28 (wanted_g F28 rfl rfl rfl rfl) rfl rfl fun _ F29 => ?_)
   refine l_op (f_skip F29 (wanted_g F29 rfl rfl rfl rfl) rfl rfl fun _ F30 => ?_)
   refine l_op (f_val F30 rfl rfl (r_pick (b := false) rfl (F30.ev 10 rfl) rfl) rfl fun _ F31 => ?_)
   refine l_op (f_as F31 rfl rfl rfl rfl rfl fun _ F32 => ?_)
   have F33 : Fr 17 [(4, .bool false)] _ := F32.cut rfl
   clear F6 F8 F9 F10 F11 F13 F14 F26 F27 F28 F29 F30 F31 F32
   have T34 : Mv _ _ [bx b3 [.slice b_Sa b_Sn b_Sc, .slice b_Ra b_Rn b_Rc, .slice b_Wa b_Wn b_Wc] 48, bx b1 [.slice a_Sa a_Sn a_Sc, .slice a_Ra a_Rn a_Rc, .slice a_Wa a_Wn a_Wc] 48] _ := S12
   refine s_end (x_normal (wp_ret ?_))
   refine x_done (v := .bool false) F33 (results_1 Try.results62 (.tmp (F33.ev 4 rfl))) ?_
   exact ⟨(by rw [(show false = (decide (a = b)) from by first | exact (mach_ne (by assumption)).symm | exact (mach_eq (by assumption)).symm)]), (Mv.pick (S1.trans (T7.trans T34)) [] rfl)⟩
theorem laws_base_c {w : World} {H : Nat → Prop}   :
    Calls Try.prog 55 #[] w fun e w' => ∃ (r0_Sa : Option Addr), ∃ (r0_Sn : Nat), ∃ (r0_Sc : Nat), ∃ (r0_Ra : Option Addr), ∃ (r0_Rn : Nat), ∃ (r0_Rc : Nat), ∃ (r0_Wa : Option Addr), ∃ (r0_Wn : Nat), ∃ (r0_Wc : Nat), e = .returned (.agg #[.slice r0_Sa r0_Sn r0_Sc, .slice r0_Ra r0_Rn r0_Rc, .slice r0_Wa r0_Wn r0_Wc]) ∧ Mv [] w [] w' ∧ Rd 2 encC okC (Fsh H w) w' (.slice r0_Sa r0_Sn r0_Sc) ([]) ∧ Rd 1 encS okS (Fsh H w) w' (.slice r0_Ra r0_Rn r0_Rc) ([]) ∧ Rd 1 encS okS (Fsh H w) w' (.slice r0_Wa r0_Wn r0_Wc) ([]) := by
 refine calls_enter 3 Try.func55 rfl Try.ntmps55 (Nat.le_of_ble_eq_true rfl) (fun _ F0i => ?_)
 have F0 : Fr 3 [] _ := F0i
 clear F0i
 refine wp_seq (wp_region_lit (l_op (f_alloc F0 (At.nil w) ZI_48 rfl rfl rfl rfl rfl fun b1 _ w1 F2 S1 => ?_)))
 have F3 : Fr 3 [(0, .pointer (some ⟨b1, 0, none⟩))] _ := F2.cut rfl
 clear F0 F2
 have T4 : Mv _ _ [bx b1 [.slice none 0 0, .slice none 0 0, .slice none 0 0] 48] _ := S1
 refine s_end (x_normal (wp_seq (wp_region_lit (l_op (f_buildSl (ok := okC) (vs := []) F3 T4.at' (([] : List CellD)) ET_46 rfl rfl rfl rfl rfl rfl rfl rfl rfl (by simp) fun b5 _ w5 F6 S5 => ?_)))))
 have Z8 : Rd 2 encC okC (V H w [bx b1 [.slice none 0 0, .slice none 0 0, .slice none 0 0] 48]) w5 (.slice (some ⟨b5, 0, none⟩) 0 0) ([] : List CellD) := At.freeze (T4.trans S5) ET_46.hk 0 rfl (fun b hb => ((T4.trans S5).fresh b ⟨_, nth_mem (i := 0) rfl, hb⟩).resolve_left (fps_nil _))
 have S8 := At.drop S5.at' 0
 refine l_op (f_call F6 CF_109 rfl rfl rfl rfl (lc (F6.ev 1 rfl) rfl) (spec_MachOf_c (s := ([] : List CellD)) Z8 (by first | assumption | omega | (simp <;> omega))) ?_)
 rintro _ w7 ⟨r0_Sa_7, r0_Sn_7, r0_Sc_7, r0_Ra_7, r0_Rn_7, r0_Rc_7, r0_Wa_7, r0_Wn_7, r0_Wc_7, rfl, m7, v7_0, v7_1, v7_2⟩
 refine ⟨_, rfl, fun _ F9 => ?_⟩
 have S7 := At.frame0 S8.at' m7
 have V7_0 := Rd.got0 S8.at' ((T4.trans (S5.trans S8)).kp.size) v7_0 S7
 obtain ⟨ln7_0, le7_0, mx7_0, ni7_0⟩ := Rd.inv V7_0
 have V7_1 := Rd.got0 S8.at' ((T4.trans (S5.trans S8)).kp.size) v7_1 S7
 obtain ⟨ln7_1, le7_1, mx7_1, ni7_1⟩ := Rd.inv V7_1
 have V7_2 := Rd.got0 S8.at' ((T4.trans (S5.trans S8)).kp.size) v7_2 S7
 obtain ⟨ln7_2, le7_2, mx7_2, ni7_2⟩ := Rd.inv V7_2
 clear m7 v7_0 v7_1 v7_2
 refine l_op (s_store S7.at' 0 TI_48 rfl rfl rfl rfl rfl (F9.ev 0 rfl) (F9.ev 2 rfl) rfl rfl rfl rfl rfl fun w10 S10 => ?_)
 have F11 : Fr 3 [(2, .agg #[.slice r0_Sa_7 r0_Sn_7 r0_Sc_7, .slice r0_Ra_7 r0_Rn_7 r0_Rc_7, .slice r0_Wa_7 r0_Wn_7 r0_Wc_7]), (0, .pointer (some ⟨b1, 0, none⟩))] _ := F9.cut rfl
 clear F3 F6 F9
 have T12 : Mv _ _ [bx b1 [.slice r0_Sa_7 r0_Sn_7 r0_Sc_7, .slice r0_Ra_7 r0_Rn_7 r0_Rc_7, .slice r0_Wa_7 r0_Wn_7 r0_Wc_7] 48] _ := S10
 refine s_end (x_normal (wp_ret ?_))
 refine x_done (v := .agg #[.slice r0_Sa_7 r0_Sn_7 r0_Sc_7, .slice r0_Ra_7 r0_Rn_7 r0_Rc_7, .slice r0_Wa_7 r0_Wn_7 r0_Wc_7]) F11 (results_1 Try.results55 (.cell (F11.ev 0 rfl) (run_loadVar' TI_48 _ [.slice r0_Sa_7 r0_Sn_7 r0_Sc_7, .slice r0_Ra_7 r0_Rn_7 r0_Rc_7, .slice r0_Wa_7 r0_Wn_7 r0_Wc_7] rfl (fun h => nomatch h) (At.cells T12.at' 0 rfl 0 [.slice r0_Sa_7 r0_Sn_7 r0_Sc_7, .slice r0_Ra_7 r0_Rn_7 r0_Rc_7, .slice r0_Wa_7 r0_Wn_7 r0_Wc_7] rfl)))) ?_
 exact ⟨r0_Sa_7, r0_Sn_7, r0_Sc_7, r0_Ra_7, r0_Rn_7, r0_Rc_7, r0_Wa_7, r0_Wn_7, r0_Wc_7, rfl, (Mv.pick (T4.trans (S5.trans (S8.trans (S7.trans T12)))) [] rfl), (Rd.cast (Rd.give (Rd.mv (Nat.succ_pos _) V7_0 T12)) (show ([] : List CellD) = ([]) from by rfl)), (Rd.give (Rd.mv (Nat.succ_pos _) V7_1 T12)), (Rd.give (Rd.mv (Nat.succ_pos _) V7_2 T12))⟩
end Go.Proofs.Ytbbkihijhdpliaa
