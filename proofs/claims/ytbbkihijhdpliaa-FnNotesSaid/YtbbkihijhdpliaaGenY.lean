/-
  Walks: clashes, covers, equal lists.
-/
import Derived.Test.YtbbkihijhdpliaaDat7
import Derived.Test.YtbbkihijhdpliaaGenX
namespace Go.Proofs.Ytbbkihijhdpliaa
open Go.ChangeShapes Go.WideShapes Go.ChangeAt Go.RowKit
set_option maxRecDepth 100000
set_option maxHeartbeats 1000000
theorem slices_Equal_Sstring_string_c {w : World} {H : Nat → Prop} {a : List ByteArray} {a_a : Option Addr} {a_n a_c : Nat} {b : List ByteArray} {b_a : Option Addr} {b_n b_c : Nat} (v_a : Rd 1 encS okS H w (.slice a_a a_n a_c) a) (v_b : Rd 1 encS okS H w (.slice b_a b_n b_c) b) :
    Calls Try.prog 74 #[.slice a_a a_n a_c, .slice b_a b_n b_c] w fun e w' => e = .returned (.bool (decide (a = b))) ∧ Mv [] w [] w' := by
 have V_v_a : Rd 1 encS okS (V H w []) w (.slice a_a a_n a_c) a := Rd.start v_a (fun _ _ => fps_nil _)
 obtain ⟨ln_a, le_a, mx_a, ni_a⟩ := Rd.inv v_a
 have V_v_b : Rd 1 encS okS (V H w []) w (.slice b_a b_n b_c) b := Rd.start v_b (fun _ _ => fps_nil _)
 obtain ⟨ln_b, le_b, mx_b, ni_b⟩ := Rd.inv v_b
 refine calls_enter 26 Try.func74 rfl Try.ntmps74 (Nat.le_of_ble_eq_true rfl) (fun _ F0i => ?_)
 have F0 : Fr 26 [(0, .slice a_a a_n a_c), (1, .slice b_a b_n b_c)] _ := F0i
 clear F0i
 refine wp_seq (wp_region_lit (l_op (f_val F0 rfl rfl (r_assign rfl rfl) rfl fun _ F1 => ?_)))
 have F2 : Fr 26 [(4, .bool false), (0, .slice a_a a_n a_c), (1, .slice b_a b_n b_c)] _ := F1.cut rfl
 clear F0 F1
 refine s_end (x_normal (wp_seq (wp_seq (wp_region_lit (l_op (f_mv F2 rfl rfl rfl rfl rfl fun _ F3 => ?_))))))
 refine l_op (f_val F3 rfl rfl (r_len Try.underlying22 rfl (F3.ev 6 rfl)) rfl fun _ F4 => ?_)
 refine l_op (f_mv F4 rfl rfl rfl rfl rfl fun _ F5 => ?_)
 refine l_op (f_val F5 rfl rfl (r_len Try.underlying22 rfl (F5.ev 8 rfl)) rfl fun _ F6 => ?_)
 refine l_op (f_val F6 rfl rfl (r_cmp (b := decide (a_n ≠ b_n)) (.inr (.inl rfl)) rfl (F6.ev 7 rfl) (F6.ev 9 rfl) (dec_of (by omega))) rfl fun _ F7 => ?_)
 have F8 : Fr 26 [(10, .bool (decide (a_n ≠ b_n))), (0, .slice a_a a_n a_c), (1, .slice b_a b_n b_c)] _ := F7.cut rfl
 clear F2 F3 F4 F5 F6 F7
 refine s_end (x_normal (x_cond (p := a_n ≠ b_n) (F8.ev 10 rfl) (fun h9 => ?_) (fun h9 => ?_)))
 · skip
   refine wp_seq (wp_region_lit (l_op (f_val F8 rfl rfl (r_assign rfl rfl) rfl fun _ F10 => ?_)))
   have F11 : Fr 26 [(4, .bool false)] _ := F10.cut rfl
   clear F8 F10
   refine s_end (x_normal (wp_ret (x_then_ret ?_)))
   refine x_done (v := .bool false) F11 (results_1 Try.results74 (.tmp (F11.ev 4 rfl))) ?_
   exact ⟨(by rw [(show false = (decide (a = b)) from by first | exact (eqL_len ln_a ln_b (by assumption)).symm | exact (eqL_at hx1 hx2 (by assumption)).symm | exact (eqL_end hk_1 (by omega) (by omega)).symm)]), (Mv.pick (Mv.refl (At.nil w)) [] rfl)⟩
 · skip
   refine wp_skip (x_normal (wp_seq (wp_seq (wp_region_lit (l_op (f_mv F8 rfl rfl rfl rfl rfl fun _ F12 => ?_))))))
   refine l_op (f_val F12 rfl rfl (r_len Try.underlying22 rfl (F12.ev 11 rfl)) rfl fun _ F13 => ?_)
   refine l_op (f_val F13 rfl rfl (r_move rfl rfl) rfl fun _ F14 => ?_)
   have F15 : Fr 26 [(13, .int .i64 0), (12, .int .i64 ((a_n : Nat) : Int)), (0, .slice a_a a_n a_c), (1, .slice b_a b_n b_c)] _ := F14.cut rfl
   clear F8 F12 F13 F14
   refine s_end (x_normal (wp_block ?_))
   refine x_loop (fun (k : Nat) aZ wZ => Fr 26 [(13, .int .i64 ((k : Nat) : Int)), (12, .int .i64 ((a_n : Nat) : Int)), (0, .slice a_a a_n a_c), (1, .slice b_a b_n b_c)] aZ ∧ Mv [] w [] wZ ∧ (k ≤ a_n) ∧ (a.take k = b.take k)) (fun (k : Nat) => a_n - k) (0) ?_ ?_
   · exact ⟨F15.cut rfl, (Mv.refl (At.nil w)), by omega, rfl⟩
   · rintro k a16 w16 ⟨F16, S16, hk_0, hk_1⟩
     refine wp_seq (wp_region_lit (l_op (f_val F16 rfl rfl (r_cmp (b := decide (k < a_n)) (.inr (.inr (.inl rfl))) rfl (F16.ev 13 rfl) (F16.ev 12 rfl) (dec_of (by omega))) rfl fun _ F17 => ?_)))
     have F18 : Fr 26 [(14, .bool (decide (k < a_n))), (13, .int .i64 ((k : Nat) : Int)), (12, .int .i64 ((a_n : Nat) : Int)), (0, .slice a_a a_n a_c), (1, .slice b_a b_n b_c)] _ := F17.cut rfl
     clear F16 F17
     refine s_end (x_normal (wp_seq (x_cond (p := k < a_n) (F18.ev 14 rfl) (fun h19 => ?_) (fun h19 => ?_))))
     · skip
       refine wp_skip (x_normal (wp_seq (wp_block (wp_seq (wp_region_lit (l_op (f_mv F18 rfl rfl rfl rfl rfl fun _ F20 => ?_)))))))
       refine l_op (f_as F20 rfl rfl rfl rfl rfl fun _ F21 => ?_)
       have F22 : Fr 26 [(5, .int .i64 ((k : Nat) : Int)), (13, .int .i64 ((k : Nat) : Int)), (12, .int .i64 ((a_n : Nat) : Int)), (0, .slice a_a a_n a_c), (1, .slice b_a b_n b_c)] _ := F21.cut rfl
       clear F18 F20 F21
       refine s_end (x_normal (wp_seq ?_))
       obtain ⟨x1, hx1, okx1⟩ := Rd.elem (Rd.mv (Nat.succ_pos _) V_v_a S16) k (by first | assumption | omega)
       obtain ⟨x2, hx2, okx2⟩ := Rd.elem (Rd.mv (Nat.succ_pos _) V_v_b S16) k (by first | assumption | omega)
       refine x_draw (fun aZ wZ => Fr 26 [(0, .slice a_a a_n a_c), (1, .slice b_a b_n b_c), (12, .int .i64 ((a_n : Nat) : Int)), (13, .int .i64 ((k : Nat) : Int)), (24, .bool (decide (x1 ≠ x2)))] aZ ∧ Mv [] w16 [] wZ) [] mixed S16.at' (listed := #[false, false, false, false, false, false, false, false, false]) rfl (fun w24 S24 => ?_) [] rfl ?_
       · skip
         refine g_take F22 rfl (i := 0) (listed' := #[true, false, false, false, false, false, false, false, false]) rfl (by kernel_rfl) (by kernel_rfl) (by kernel_rfl) (fun _ _ _ h => h) (Sd.of (Mv.refl S24.at') [] rfl) rfl rfl rfl rfl (fun _ hz => (r_move rfl (F22.ev 0 rfl))) fun _ F25 => ?_
         refine g_take F25 rfl (i := 1) (listed' := #[true, true, false, false, false, false, false, false, false]) rfl (by kernel_rfl) (by kernel_rfl) (by kernel_rfl) (fun _ _ _ h => h) (Sd.of (Mv.refl S24.at') [] rfl) rfl rfl rfl rfl (fun _ hz => (r_move rfl (F25.ev 5 rfl))) fun _ F26 => ?_
         obtain ⟨B27, O27, y27, ad27, hy27, oky27, ln27, cl27⟩ := Rd.atK (Nat.succ_pos _) (Rd.mv (Nat.succ_pos _) V_v_a (S16.trans S24)) k (by first | assumption | omega)
         clear ln27
         obtain rfl := Option.some.inj (hx1.symm.trans hy27)
         clear hy27 oky27
         refine g_take F26 rfl (i := 2) (listed' := #[true, true, true, false, false, false, false, false, false]) rfl (by kernel_rfl) (by kernel_rfl) (by kernel_rfl) (fun _ _ _ h => h) (Sd.of (Mv.refl S24.at') [] rfl) rfl rfl rfl rfl (fun _ hz => (r_indexAddr (i := k) ET_22 rfl ((F26.ev 16 rfl).trans (by rw [ad27])) (F26.ev 17 rfl) (by omega) (by first | assumption | omega))) fun _ F28 => ?_
         refine g_take (v := .string x1) F28 rfl (i := 3) (listed' := #[true, true, true, true, false, false, false, false, false]) rfl (by kernel_rfl) (by kernel_rfl) (by kernel_rfl) (fun _ _ _ h => h) (Sd.of (Mv.refl S24.at') [] rfl) rfl rfl rfl rfl (fun _ hz => (r_load (cs := [.string x1]) TI_9 rfl (F28.ev 18 rfl) rfl (fun _ => rfl) (elem_sub (f := 0) (cl27 _ hz.kp) [.string x1] rfl))) fun _ F29 => ?_
         refine g_take F29 rfl (i := 4) (listed' := #[true, true, true, true, true, false, false, false, false]) rfl (by kernel_rfl) (by kernel_rfl) (by kernel_rfl) (fun _ _ _ h => h) (Sd.of (Mv.refl S24.at') [] rfl) rfl rfl rfl rfl (fun _ hz => (r_move rfl (F29.ev 1 rfl))) fun _ F30 => ?_
         refine g_take F30 rfl (i := 5) (listed' := #[true, true, true, true, true, true, false, false, false]) rfl (by kernel_rfl) (by kernel_rfl) (by kernel_rfl) (fun _ _ _ h => h) (Sd.of (Mv.refl S24.at') [] rfl) rfl rfl rfl rfl (fun _ hz => (r_move rfl (F30.ev 5 rfl))) fun _ F31 => ?_
         obtain ⟨B32, O32, y32, ad32, hy32, oky32, ln32, cl32⟩ := Rd.atK (Nat.succ_pos _) (Rd.mv (Nat.succ_pos _) V_v_b (S16.trans S24)) k (by first | assumption | omega)
         clear ln32
         obtain rfl := Option.some.inj (hx2.symm.trans hy32)
         clear hy32 oky32
         refine g_take F31 rfl (i := 6) (listed' := #[true, true, true, true, true, true, true, false, false]) rfl (by kernel_rfl) (by kernel_rfl) (by kernel_rfl) (fun _ _ _ h => h) (Sd.of (Mv.refl S24.at') [] rfl) rfl rfl rfl rfl (fun _ hz => (r_indexAddr (i := k) ET_22 rfl ((F31.ev 20 rfl).trans (by rw [ad32])) (F31.ev 21 rfl) (by omega) (by first | assumption | omega))) fun _ F33 => ?_
         refine g_take (v := .string x2) F33 rfl (i := 7) (listed' := #[true, true, true, true, true, true, true, true, false]) rfl (by kernel_rfl) (by kernel_rfl) (by kernel_rfl) (fun _ _ _ h => h) (Sd.of (Mv.refl S24.at') [] rfl) rfl rfl rfl rfl (fun _ hz => (r_load (cs := [.string x2]) TI_9 rfl (F33.ev 22 rfl) rfl (fun _ => rfl) (elem_sub (f := 0) (cl32 _ hz.kp) [.string x2] rfl))) fun _ F34 => ?_
         refine g_take F34 rfl (i := 8) (listed' := #[true, true, true, true, true, true, true, true, true]) rfl (by kernel_rfl) (by kernel_rfl) (by kernel_rfl) (fun _ _ _ h => h) (Sd.of (Mv.refl S24.at') [] rfl) rfl rfl rfl rfl (fun _ hz => (r_cmps (b := (decide (x1 ≠ x2))) (.inr (.inl rfl)) rfl (F34.ev 19 rfl) (F34.ev 23 rfl) rfl)) fun _ F35 => ?_
         refine wpAnyH_done (by kernel_rfl) (x_normal ?_) _
         exact ⟨F35.cut rfl, (S24.pick [] rfl)⟩
       · rintro a36 w36 ⟨F36, S36⟩
         refine x_normal (x_cond (p := x1 ≠ x2) (F36.ev 24 rfl) (fun h37 => ?_) (fun h37 => ?_))
         · skip
           refine wp_seq (wp_region_lit (l_op (f_val F36 rfl rfl (r_assign rfl rfl) rfl fun _ F38 => ?_)))
           have F39 : Fr 26 [(4, .bool false)] _ := F38.cut rfl
           clear F36 F38
           refine s_end (x_normal (wp_ret (x_block_ret (x_then_ret (x_then_ret (x_block_ret (x_then_ret ?_)))))))
           refine x_done (v := .bool false) F39 (results_1 Try.results74 (.tmp (F39.ev 4 rfl))) ?_
           exact ⟨(by rw [(show false = (decide (a = b)) from by first | exact (eqL_len ln_a ln_b (by assumption)).symm | exact (eqL_at hx1 hx2 (by assumption)).symm | exact (eqL_end hk_1 (by omega) (by omega)).symm)]), (Mv.pick (S16.trans S36) [] rfl)⟩
         · skip
           refine wp_skip (x_block_normal (x_normal (wp_region_lit (l_op (f_val F36 rfl rfl (r_add (z := ((k + 1 : Nat) : Int)) rfl (F36.ev 13 rfl) rfl (by first | rfl | omega) ⟨by first | omega | (unfold i64ok at *; omega), by first | omega | (unfold i64ok at *; omega)⟩) rfl fun _ F40 => ?_)))))
           refine l_op (f_mv F40 rfl rfl rfl rfl rfl fun _ F41 => ?_)
           have F42 : Fr 26 [(13, .int .i64 ((k + 1 : Nat) : Int)), (0, .slice a_a a_n a_c), (1, .slice b_a b_n b_c), (12, .int .i64 ((a_n : Nat) : Int))] _ := F41.cut rfl
           clear F36 F40 F41
           refine s_end ?_
           refine x_normal ⟨k + 1, by omega, F42.cut rfl, ((S16.trans S36).pick [] rfl), by omega, eqL_step hk_1 hx1 hx2 (by assumption)⟩
     · skip
       refine wp_exit (x_then_exit (x_then_exit (x_block_here (x_normal (wp_seq (wp_region_lit (l_op (f_val F18 rfl rfl (r_assign rfl rfl) rfl fun _ F43 => ?_))))))))
       have F44 : Fr 26 [(4, .bool true)] _ := F43.cut rfl
       clear F18 F43
       refine s_end (x_normal (wp_ret ?_))
       refine x_done (v := .bool true) F44 (results_1 Try.results74 (.tmp (F44.ev 4 rfl))) ?_
       exact ⟨(by rw [(show true = (decide (a = b)) from by first | exact (eqL_len ln_a ln_b (by assumption)).symm | exact (eqL_at hx1 hx2 (by assumption)).symm | exact (eqL_end hk_1 (by omega) (by omega)).symm)]), (Mv.pick S16 [] rfl)⟩
theorem laws_sameTexts_c {w : World} {H : Nat → Prop} {a : List ByteArray} {a_a : Option Addr} {a_n a_c : Nat} {b : List ByteArray} {b_a : Option Addr} {b_n b_c : Nat} (v_a : Rd 1 encS okS H w (.slice a_a a_n a_c) a) (v_b : Rd 1 encS okS H w (.slice b_a b_n b_c) b) :
    Calls Try.prog 31 #[.slice a_a a_n a_c, .slice b_a b_n b_c] w fun e w' => e = .returned (.bool (decide (a = b))) ∧ Mv [] w [] w' := by
 have V_v_a : Rd 1 encS okS (V H w []) w (.slice a_a a_n a_c) a := Rd.start v_a (fun _ _ => fps_nil _)
 obtain ⟨ln_a, le_a, mx_a, ni_a⟩ := Rd.inv v_a
 have V_v_b : Rd 1 encS okS (V H w []) w (.slice b_a b_n b_c) b := Rd.start v_b (fun _ _ => fps_nil _)
 obtain ⟨ln_b, le_b, mx_b, ni_b⟩ := Rd.inv v_b
 refine calls_enter 26 Try.func31 rfl Try.ntmps31 (Nat.le_of_ble_eq_true rfl) (fun _ F0i => ?_)
 have F0 : Fr 26 [(0, .slice a_a a_n a_c), (1, .slice b_a b_n b_c)] _ := F0i
 clear F0i
 refine wp_seq (wp_region_lit (l_op (f_val F0 rfl rfl (r_assign rfl rfl) rfl fun _ F1 => ?_)))
 have F2 : Fr 26 [(4, .bool false), (0, .slice a_a a_n a_c), (1, .slice b_a b_n b_c)] _ := F1.cut rfl
 clear F0 F1
 refine s_end (x_normal (wp_seq (wp_seq (wp_region_lit (l_op (f_mv F2 rfl rfl rfl rfl rfl fun _ F3 => ?_))))))
 refine l_op (f_val F3 rfl rfl (r_len Try.underlying22 rfl (F3.ev 6 rfl)) rfl fun _ F4 => ?_)
 refine l_op (f_mv F4 rfl rfl rfl rfl rfl fun _ F5 => ?_)
 refine l_op (f_val F5 rfl rfl (r_len Try.underlying22 rfl (F5.ev 8 rfl)) rfl fun _ F6 => ?_)
 refine l_op (f_val F6 rfl rfl (r_cmp (b := decide (a_n ≠ b_n)) (.inr (.inl rfl)) rfl (F6.ev 7 rfl) (F6.ev 9 rfl) (dec_of (by omega))) rfl fun _ F7 => ?_)
 have F8 : Fr 26 [(10, .bool (decide (a_n ≠ b_n))), (0, .slice a_a a_n a_c), (1, .slice b_a b_n b_c)] _ := F7.cut rfl
 clear F2 F3 F4 F5 F6 F7
 refine s_end (x_normal (x_cond (p := a_n ≠ b_n) (F8.ev 10 rfl) (fun h9 => ?_) (fun h9 => ?_)))
 · skip
   refine wp_seq (wp_region_lit (l_op (f_val F8 rfl rfl (r_assign rfl rfl) rfl fun _ F10 => ?_)))
   have F11 : Fr 26 [(4, .bool false)] _ := F10.cut rfl
   clear F8 F10
   refine s_end (x_normal (wp_ret (x_then_ret ?_)))
   refine x_done (v := .bool false) F11 (results_1 Try.results31 (.tmp (F11.ev 4 rfl))) ?_
   exact ⟨(by rw [(show false = (decide (a = b)) from by first | exact (eqL_len ln_a ln_b (by assumption)).symm | exact (eqL_at hx1 hx2 (by assumption)).symm | exact (eqL_end hk_1 (by omega) (by omega)).symm)]), (Mv.pick (Mv.refl (At.nil w)) [] rfl)⟩
 · skip
   refine wp_skip (x_normal (wp_seq (wp_seq (wp_region_lit (l_op (f_val F8 rfl rfl (r_assign rfl rfl) rfl fun _ F12 => ?_))))))
   have F13 : Fr 26 [(5, .int .i64 0), (0, .slice a_a a_n a_c), (1, .slice b_a b_n b_c)] _ := F12.cut rfl
   clear F8 F12
   refine s_end (x_normal (wp_block ?_))
   refine x_loop (fun (k : Nat) aZ wZ => Fr 26 [(5, .int .i64 ((k : Nat) : Int)), (0, .slice a_a a_n a_c), (1, .slice b_a b_n b_c)] aZ ∧ Mv [] w [] wZ ∧ (k ≤ a_n) ∧ (a.take k = b.take k)) (fun (k : Nat) => a_n - k) (0) ?_ ?_
   · exact ⟨F13.cut rfl, (Mv.refl (At.nil w)), by omega, rfl⟩
   · rintro k a14 w14 ⟨F14, S14, hk_0, hk_1⟩
     refine wp_seq (wp_seq (wp_region_lit (l_op (f_mv F14 rfl rfl rfl rfl rfl fun _ F15 => ?_))))
     refine l_op (f_mv F15 rfl rfl rfl rfl rfl fun _ F16 => ?_)
     refine l_op (f_val F16 rfl rfl (r_len Try.underlying22 rfl (F16.ev 12 rfl)) rfl fun _ F17 => ?_)
     refine l_op (f_val F17 rfl rfl (r_cmp (b := decide (k < a_n)) (.inr (.inr (.inl rfl))) rfl (F17.ev 11 rfl) (F17.ev 13 rfl) (dec_of (by omega))) rfl fun _ F18 => ?_)
     have F19 : Fr 26 [(14, .bool (decide (k < a_n))), (5, .int .i64 ((k : Nat) : Int)), (0, .slice a_a a_n a_c), (1, .slice b_a b_n b_c)] _ := F18.cut rfl
     clear F14 F15 F16 F17 F18
     refine s_end (x_normal (x_cond (p := k < a_n) (F19.ev 14 rfl) (fun h20 => ?_) (fun h20 => ?_)))
     · skip
       refine wp_skip (x_normal (wp_seq (wp_block (wp_seq ?_))))
       obtain ⟨x1, hx1, okx1⟩ := Rd.elem (Rd.mv (Nat.succ_pos _) V_v_a S14) k (by first | assumption | omega)
       obtain ⟨x2, hx2, okx2⟩ := Rd.elem (Rd.mv (Nat.succ_pos _) V_v_b S14) k (by first | assumption | omega)
       refine x_draw (fun aZ wZ => Fr 26 [(0, .slice a_a a_n a_c), (1, .slice b_a b_n b_c), (5, .int .i64 ((k : Nat) : Int)), (25, .bool (decide (x1 ≠ x2)))] aZ ∧ Mv [] w14 [] wZ) [] mixed S14.at' (listed := #[false, false, false, false, false, false, false, false, false]) rfl (fun w22 S22 => ?_) [] rfl ?_
       · skip
         refine g_take F19 rfl (i := 0) (listed' := #[true, false, false, false, false, false, false, false, false]) rfl (by kernel_rfl) (by kernel_rfl) (by kernel_rfl) (fun _ _ _ h => h) (Sd.of (Mv.refl S22.at') [] rfl) rfl rfl rfl rfl (fun _ hz => (r_move rfl (F19.ev 0 rfl))) fun _ F23 => ?_
         refine g_take F23 rfl (i := 1) (listed' := #[true, true, false, false, false, false, false, false, false]) rfl (by kernel_rfl) (by kernel_rfl) (by kernel_rfl) (fun _ _ _ h => h) (Sd.of (Mv.refl S22.at') [] rfl) rfl rfl rfl rfl (fun _ hz => (r_move rfl (F23.ev 5 rfl))) fun _ F24 => ?_
         obtain ⟨B25, O25, y25, ad25, hy25, oky25, ln25, cl25⟩ := Rd.atK (Nat.succ_pos _) (Rd.mv (Nat.succ_pos _) V_v_a (S14.trans S22)) k (by first | assumption | omega)
         clear ln25
         obtain rfl := Option.some.inj (hx1.symm.trans hy25)
         clear hy25 oky25
         refine g_take F24 rfl (i := 2) (listed' := #[true, true, true, false, false, false, false, false, false]) rfl (by kernel_rfl) (by kernel_rfl) (by kernel_rfl) (fun _ _ _ h => h) (Sd.of (Mv.refl S22.at') [] rfl) rfl rfl rfl rfl (fun _ hz => (r_indexAddr (i := k) ET_22 rfl ((F24.ev 17 rfl).trans (by rw [ad25])) (F24.ev 18 rfl) (by omega) (by first | assumption | omega))) fun _ F26 => ?_
         refine g_take (v := .string x1) F26 rfl (i := 3) (listed' := #[true, true, true, true, false, false, false, false, false]) rfl (by kernel_rfl) (by kernel_rfl) (by kernel_rfl) (fun _ _ _ h => h) (Sd.of (Mv.refl S22.at') [] rfl) rfl rfl rfl rfl (fun _ hz => (r_load (cs := [.string x1]) TI_9 rfl (F26.ev 19 rfl) rfl (fun _ => rfl) (elem_sub (f := 0) (cl25 _ hz.kp) [.string x1] rfl))) fun _ F27 => ?_
         refine g_take F27 rfl (i := 4) (listed' := #[true, true, true, true, true, false, false, false, false]) rfl (by kernel_rfl) (by kernel_rfl) (by kernel_rfl) (fun _ _ _ h => h) (Sd.of (Mv.refl S22.at') [] rfl) rfl rfl rfl rfl (fun _ hz => (r_move rfl (F27.ev 1 rfl))) fun _ F28 => ?_
         refine g_take F28 rfl (i := 5) (listed' := #[true, true, true, true, true, true, false, false, false]) rfl (by kernel_rfl) (by kernel_rfl) (by kernel_rfl) (fun _ _ _ h => h) (Sd.of (Mv.refl S22.at') [] rfl) rfl rfl rfl rfl (fun _ hz => (r_move rfl (F28.ev 5 rfl))) fun _ F29 => ?_
         obtain ⟨B30, O30, y30, ad30, hy30, oky30, ln30, cl30⟩ := Rd.atK (Nat.succ_pos _) (Rd.mv (Nat.succ_pos _) V_v_b (S14.trans S22)) k (by first | assumption | omega)
         clear ln30
         obtain rfl := Option.some.inj (hx2.symm.trans hy30)
         clear hy30 oky30
         refine g_take F29 rfl (i := 6) (listed' := #[true, true, true, true, true, true, true, false, false]) rfl (by kernel_rfl) (by kernel_rfl) (by kernel_rfl) (fun _ _ _ h => h) (Sd.of (Mv.refl S22.at') [] rfl) rfl rfl rfl rfl (fun _ hz => (r_indexAddr (i := k) ET_22 rfl ((F29.ev 21 rfl).trans (by rw [ad30])) (F29.ev 22 rfl) (by omega) (by first | assumption | omega))) fun _ F31 => ?_
         refine g_take (v := .string x2) F31 rfl (i := 7) (listed' := #[true, true, true, true, true, true, true, true, false]) rfl (by kernel_rfl) (by kernel_rfl) (by kernel_rfl) (fun _ _ _ h => h) (Sd.of (Mv.refl S22.at') [] rfl) rfl rfl rfl rfl (fun _ hz => (r_load (cs := [.string x2]) TI_9 rfl (F31.ev 23 rfl) rfl (fun _ => rfl) (elem_sub (f := 0) (cl30 _ hz.kp) [.string x2] rfl))) fun _ F32 => ?_
         refine g_take F32 rfl (i := 8) (listed' := #[true, true, true, true, true, true, true, true, true]) rfl (by kernel_rfl) (by kernel_rfl) (by kernel_rfl) (fun _ _ _ h => h) (Sd.of (Mv.refl S22.at') [] rfl) rfl rfl rfl rfl (fun _ hz => (r_cmps (b := (decide (x1 ≠ x2))) (.inr (.inl rfl)) rfl (F32.ev 20 rfl) (F32.ev 24 rfl) rfl)) fun _ F33 => ?_
         refine wpAnyH_done (by kernel_rfl) (x_normal ?_) _
         exact ⟨F33.cut rfl, (S22.pick [] rfl)⟩
       · rintro a34 w34 ⟨F34, S34⟩
         refine x_normal (x_cond (p := x1 ≠ x2) (F34.ev 25 rfl) (fun h35 => ?_) (fun h35 => ?_))
         · skip
           refine wp_seq (wp_region_lit (l_op (f_val F34 rfl rfl (r_assign rfl rfl) rfl fun _ F36 => ?_)))
           have F37 : Fr 26 [(4, .bool false)] _ := F36.cut rfl
           clear F34 F36
           refine s_end (x_normal (wp_ret (x_block_ret (x_then_ret (x_then_ret (x_block_ret (x_then_ret ?_)))))))
           refine x_done (v := .bool false) F37 (results_1 Try.results31 (.tmp (F37.ev 4 rfl))) ?_
           exact ⟨(by rw [(show false = (decide (a = b)) from by first | exact (eqL_len ln_a ln_b (by assumption)).symm | exact (eqL_at hx1 hx2 (by assumption)).symm | exact (eqL_end hk_1 (by omega) (by omega)).symm)]), (Mv.pick (S14.trans S34) [] rfl)⟩
         · skip
           refine wp_skip (x_block_normal (x_normal (wp_region_lit (l_op (f_mv F34 rfl rfl rfl rfl rfl fun _ F38 => ?_)))))
           refine l_op (f_val F38 rfl rfl (r_add (z := ((k + 1 : Nat) : Int)) rfl (F38.ev 15 rfl) rfl (by first | rfl | omega) ⟨by first | omega | (unfold i64ok at *; omega), by first | omega | (unfold i64ok at *; omega)⟩) rfl fun _ F39 => ?_)
           refine l_op (f_as F39 rfl rfl rfl rfl rfl fun _ F40 => ?_)
           have F41 : Fr 26 [(5, .int .i64 ((k + 1 : Nat) : Int)), (0, .slice a_a a_n a_c), (1, .slice b_a b_n b_c)] _ := F40.cut rfl
           clear F34 F38 F39 F40
           refine s_end ?_
           refine x_normal ⟨k + 1, by omega, F41.cut rfl, ((S14.trans S34).pick [] rfl), by omega, eqL_step hk_1 hx1 hx2 (by assumption)⟩
     · skip
       refine wp_exit (x_then_exit (x_then_exit (x_block_here (x_normal (wp_seq (wp_region_lit (l_op (f_val F19 rfl rfl (r_assign rfl rfl) rfl fun _ F42 => ?_))))))))
       have F43 : Fr 26 [(4, .bool true)] _ := F42.cut rfl
       clear F19 F42
       refine s_end (x_normal (wp_ret ?_))
       refine x_done (v := .bool true) F43 (results_1 Try.results31 (.tmp (F43.ev 4 rfl))) ?_
       exact ⟨(by rw [(show true = (decide (a = b)) from by first | exact (eqL_len ln_a ln_b (by assumption)).symm | exact (eqL_at hx1 hx2 (by assumption)).symm | exact (eqL_end hk_1 (by omega) (by omega)).symm)]), (Mv.pick S14 [] rfl)⟩
end Go.Proofs.Ytbbkihijhdpliaa
