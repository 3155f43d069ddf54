/-
  Walks: clashes, covers, equal lists.
-/
import Derived.Test.YtbbkihijhdpliaaDat7
import Derived.Test.YtbbkihijhdpliaaGenX
namespace Go.Proofs.Ytbbkihijhdpliaa
open Go.ChangeShapes Go.WideShapes Go.ChangeAt Go.RowKit
set_option maxRecDepth 100000
set_option maxHeartbeats 1000000
theorem slices_Equal_Sstring_string_c {w : World} {H : Nat → Prop} {a : List ByteArray} {a_a : Option Addr} {a_n a_c : Nat} {b : List ByteArray} {b_a : Option Addr} {b_n b_c : Nat} (v_a : Rd 1 encS okS H w (.slice a_a a_n a_c) a) (v_b : Rd 1 encS okS H w (.slice b_a b_n b_c) b) :
    Calls Try.prog 74 #[.slice a_a a_n a_c, .slice b_a b_n b_c] w fun e w' => e = .returned (.bool (decide (a = b))) ∧ Mv [] w [] w' := by
 have V_v_a : Rd 1 encS okS (V H w []) w (.slice a_a a_n a_c) a := Rd.start v_a (fun _ _ => fps_nil _)
 obtain ⟨ln_a, le_a, mx_a, ni_a⟩ := Rd.inv v_a
 have V_v_b : Rd 1 encS okS (V H w []) w (.slice b_a b_n b_c) b := Rd.start v_b (fun _ _ => fps_nil _)
 obtain ⟨ln_b, le_b, mx_b, ni_b⟩ := Rd.inv v_b
 refine calls_enter 26 Try.func74 rfl Try.ntmps74 (Nat.le_of_ble_eq_true rfl) (fun _ F0i => ?_)
 have F0 : Fr 26 [(0, .slice a_a a_n a_c), (1, .slice b_a b_n b_c)] _ := F0i
 clear F0i
 refine wp_seq (wp_region_lit (l_op (f_val F0 rfl rfl (r_assign rfl rfl) rfl fun _ F1 => ?_)))
 have F2 : Fr 26 [(4, .bool false), (0, .slice a_a a_n a_c), (1, .slice b_a b_n b_c)] _ := F1.cut rfl
 clear F0 F1
 refine s_end (x_normal (wp_seq (wp_seq (wp_region_lit (l_op (f_mv F2 rfl rfl rfl rfl rfl fun _ F3 => ?_))))))
 refine l_op (f_val F3 rfl rfl (r_len Try.underlying22 rfl (F3.ev 6 rfl)) rfl fun _ F4 => ?_)
 refine l_op (f_mv F4 rfl rfl rfl rfl rfl fun _ F5 => ?_)
 refine l_op (f_val F5 rfl rfl (r_len Try.underlying22 rfl (F5.ev 8 rfl)) rfl fun _ F6 => ?_)
 refine l_op (f_val F6 rfl rfl (r_cmp (b := decide (a_n ≠ b_n)) (.inr (.inl rfl)) rfl (F6.ev 7 rfl) (F6.ev 9 rfl) (dec_of (by omega))) rfl fun _ F7 => ?_)
 have F8 : Fr 26 [(10, .bool (decide (a_n ≠ b_n))), (0, .slice a_a a_n a_c), (1, .slice b_a b_n b_c)] _ := F7.cut rfl
 clear F2 F3 F4 F5 F6 F7
 refine s_end (x_normal (x_cond (p := a_n ≠ b_n) (F8.ev 10 rfl) (fun h9 => ?_) (fun h9 => ?_)))
 · skip
   refine wp_seq (wp_region_lit (l_op (f_val F8 rfl rfl (r_assign rfl rfl) rfl fun _ F10 => ?_)))
   have F11 : Fr 26 [(4, .bool false)] _ := F10.cut rfl
   clear F8 F10
   refine s_end (x_normal (wp_ret (x_then_ret ?_)))
   refine x_done (v := .bool false) F11 (results_1 Try.results74 (.tmp (F11.ev 4 rfl))) ?_
   exact ⟨(by rw [(show false = (decide (a = b)) from by first | exact (eqL_len ln_a ln_b (by assumption)).symm | exact (eqL_at hx1 hx2 (by assumption)).symm | exact (eqL_end hk_1 (by omega) (by omega)).symm)]), (Mv.pick (Mv.refl (At.nil w)) [] rfl)⟩
 · skip
   refine wp_skip (x_normal (wp_seq (wp_seq (wp_region_lit (l_op (f_mv F8 rfl rfl rfl rfl rfl fun _ F12 => ?_))))))
   refine l_op (f_val F12 rfl rfl (r_len Try.underlying22 rfl (F12.ev 11 rfl)) rfl fun _ F13 => ?_)
   refine l_op (f_val F13 rfl rfl (r_move rfl rfl) rfl fun _ F14 => ?_)
   have F15 : Fr 26 [(13, .int .i64 0), (12, .int .i64 ((a_n : Nat) : Int)), (0, .slice a_a a_n a_c), (1, .slice b_a b_n b_c)] _ := F14.cut rfl
   clear F8 F12 F13 F14
   refine s_end (x_normal (wp_block ?_))
   refine x_loop (fun (k : Nat) aZ wZ => Fr 26 [(13, .int .i64 ((k : Nat) : Int)), (12, .int .i64 ((a_n : Nat) : Int)), (0, .slice a_a a_n a_c), (1, .slice b_a b_n b_c)] aZ ∧ Mv [] w [] wZ ∧ (k ≤ a_n) ∧ (a.take k = b.take k)) (fun (k : Nat) => a_n - k) (0) ?_ ?_
   · exact ⟨F15.cut rfl, (Mv.refl (At.nil w)), by omega, rfl⟩
   · rintro k a16 w16 ⟨F16, S16, hk_0, hk_1⟩
     refine wp_seq (wp_region_lit (l_op (f_val F16 rfl rfl (r_cmp (b := decide (k < a_n)) (.inr (.inr (.inl rfl))) rfl (F16.ev 13 rfl) (F16.ev 12 rfl) (dec_of (by omega))) rfl fun _ F17 => ?_)))
     have F18 : Fr 26 [(14, .bool (decide (k < a_n))), (13, .int .i64 ((k : Nat) : Int)), (12, .int .i64 ((a_n : Nat) : Int)), (0, .slice a_a a_n a_c), (1, .slice b_a b_n b_c)] _ := F17.cut rfl
     clear F16 F17
     refine s_end (x_normal (wp_seq (x_cond (p := k < a_n) (F18.ev 14 rfl) (fun h19 => ?_) (fun h19 => ?_))))
     · skip
       refine wp_skip (x_normal (wp_seq (wp_block (wp_seq (wp_region_lit (l_op (f_mv F18 rfl rfl rfl rfl rfl fun _ F20 => ?_)))))))
       refine l_op (f_as F20 rfl rfl rfl rfl rfl fun _ F21 => ?_)
       have F22 : Fr 26 [(5, .int .i64 ((k : Nat) : Int)), (13, .int .i64 ((k : Nat) : Int)), (12, .int .i64 ((a_n : Nat) : Int)), (0, .slice a_a a_n a_c), (1, .slice b_a b_n b_c)] _ := F21.cut rfl
       clear F18 F20 F21
       refine s_end (x_normal (wp_seq ?_))
       obtain ⟨x1, hx1, okx1⟩ := Rd.elem (Rd.mv (Nat.succ_pos _) V_v_a S16) k (by first | assumption | omega)
       obtain ⟨x2, hx2, okx2⟩ := Rd.elem (Rd.mv (Nat.succ_pos _) V_v_b S16) k (by first | assumption | omega)
       refine x_draw (fun aZ wZ => Fr 26 [(0, .slice a_a a_n a_c), (1, .slice b_a b_n b_c), (12, .int .i64 ((a_n : Nat) : Int)), (13, .int .i64 ((k : Nat) : Int)), (24, .bool (decide (x1 ≠ x2)))] aZ ∧ Mv [] w16 [] wZ) [] mixed S16.at' (listed := #[false, false, false, false, false, false, false, false, false]) rfl (fun w24 S24 => ?_) [] rfl ?_
       · skip
         refine g_take F22 rfl (i := 0) (listed' := #[true, false, false, false, false, false, false, false, false]) rfl (by kernel_rfl) (by kernel_rfl) (by kernel_rfl) (fun _ _ _ h => h) (Sd.of (Mv.refl S24.at') [] rfl) rfl rfl rfl rfl (fun _ hz => (r_move rfl (F22.ev 0 rfl))) fun _ F25 => ?_
         refine g_take F25 rfl (i := 1) (listed' := #[true, true, false, false, false, false, false, false, false]) rfl (by kernel_rfl) (by kernel_rfl) (by kernel_rfl) (fun _ _ _ h => h) (Sd.of (Mv.refl S24.at') [] rfl) rfl rfl rfl rfl (fun _ hz => (r_move rfl (F25.ev 5 rfl))) fun _ F26 => ?_
         obtain ⟨B27, O27, y27, ad27, hy27, oky27, ln27, cl27⟩ := Rd.atK (Nat.succ_pos _) (Rd.mv (Nat.succ_pos _) V_v_a (S16.trans S24)) k (by first | assumption | omega)
         clear ln27
         obtain rfl := Option.some.inj (hx1.symm.trans hy27)
         clear hy27 oky27
         refine g_take F26 rfl (i := 2) (listed' := #[true, true, true, false, false, false, false, false, false]) rfl (by kernel_rfl) (by kernel_rfl) (by kernel_rfl) (fun _ _ _ h => h) (Sd.of (Mv.refl S24.at') [] rfl) rfl rfl rfl rfl (fun _ hz => (r_indexAddr (i := k) ET_22 rfl ((F26.ev 16 rfl).trans (by rw [ad27])) (F26.ev 17 rfl) (by omega) (by first | assumption | omega))) fun _ F28 => ?_
         refine g_take (v := .string x1) F28 rfl (i := 3) (listed' := #[true, true, true, true, false, false, false, false, false]) rfl (by kernel_rfl) (by kernel_rfl) (by kernel_rfl) (fun _ _ _ h => h) (Sd.of (Mv.refl S24.at') [] rfl) rfl rfl rfl rfl (fun _ hz => (r_load (cs := [.string x1]) TI_9 rfl (F28.ev 18 rfl) rfl (fun _ => rfl) (elem_sub (f := 0) (cl27 _ hz.kp) [.string x1] rfl))) fun _ F29 => ?_
         refine g_take F29 rfl (i := 4) (listed' := #[true, true, true, true, true, false, false, false, false]) rfl (by kernel_rfl) (by kernel_rfl) (by kernel_rfl) (fun _ _ _ h => h) (Sd.of (Mv.refl S24.at') [] rfl) rfl rfl rfl rfl (fun _ hz => (r_move rfl (F29.ev 1 rfl))) fun _ F30 => ?_
         refine g_take F30 rfl (i := 5) (listed' := #[true, true, true, true, true, true, false, false, false]) rfl (by kernel_rfl) (by kernel_rfl) (by kernel_rfl) (fun _ _ _ h => h) (Sd.of (Mv.refl S24.at') [] rfl) rfl rfl rfl rfl (fun _ hz => (r_move rfl (F30.ev 5 rfl))) fun _ F31 => ?_
         obtain ⟨B32, O32, y32, ad32, hy32, oky32, ln32, cl32⟩ := Rd.atK (Nat.succ_pos _) (Rd.mv (Nat.succ_pos _) V_v_b (S16.trans S24)) k (by first | assumption | omega)
         clear ln32
         obtain rfl := Option.some.inj (hx2.symm.trans hy32)
         clear hy32 oky32
         refine g_take F31 rfl (i := 6) (listed' := #[true, true, true, true, true, true, true, false, false]) rfl (by kernel_rfl) (by kernel_rfl) (by kernel_rfl) (fun _ _ _ h => h) (Sd.of (Mv.refl S24.at') [] rfl) rfl rfl rfl rfl (fun _ hz => (r_indexAddr (i := k) ET_22 rfl ((F31.ev 20 rfl).trans (by rw [ad32])) (F31.ev 21 rfl) (by omega) (by first | assumption | omega))) fun _ F33 => ?_
         refine g_take (v := .string x2) F33 rfl (i := 7) (listed' := #[true, true, true, true, true, true, true, true, false]) rfl (by kernel_rfl) (by kernel_rfl) (by kernel_rfl) (fun _ _ _ h => h) (Sd.of (Mv.refl S24.at') [] rfl) rfl rfl rfl rfl (fun _ hz => (r_load (cs := [.string x2]) TI_9 rfl (F33.ev 22 rfl) rfl (fun _ => rfl) (elem_sub (f := 0) (cl32 _ hz.kp) [.string x2] rfl))) fun _ F34 => ?_
         refine g_take F34 rfl (i := 8) (listed' := #[true, true, true, true, true, true, true, true, true]) rfl (by kernel_rfl) (by kernel_rfl) (by kernel_rfl) (fun _ _ _ h => h) (Sd.of (Mv.refl S24.at') [] rfl) rfl rfl rfl rfl (fun _ hz => (r_cmps (b := (decide (x1 ≠ x2))) (.inr (.inl rfl)) rfl (F34.ev 19 rfl) (F34.ev 23 rfl) rfl)) fun _ F35 => ?_
         refine wpAnyH_done (by kernel_rfl) (x_normal ?_) _
         exact ⟨F35.cut rfl, (S24.pick [] rfl)⟩
       · rintro a36 w36 ⟨F36, S36⟩
         refine x_normal (x_cond (p := x1 ≠ x2) (F36.ev 24 rfl) (fun h37 => ?_) (fun h37 => ?_))
         · skip
           refine wp_seq (wp_region_lit (l_op (f_val F36 rfl rfl (r_assign rfl rfl) rfl fun _ F38 => ?_)))
           have F39 : Fr 26 [(4, .bool false)] _ := F38.cut rfl
           clear F36 F38
           refine s_end (x_normal (wp_ret (x_block_ret (x_then_ret (x_then_ret (x_block_ret (x_then_ret ?_)))))))
           refine x_done (v := .bool false) F39 (results_1 Try.results74 (.tmp (F39.ev 4 rfl))) ?_
           exact ⟨(by rw [(show false = (decide (a = b)) from by first | exact (eqL_len ln_a ln_b (by assumption)).symm | exact (eqL_at hx1 hx2 (by assumption)).symm | exact (eqL_end hk_1 (by omega) (by omega)).symm)]), (Mv.pick (S16.trans S36) [] rfl)⟩
         · skip
           refine wp_skip (x_block_normal (x_normal (wp_region_lit (l_op (f_val F36 rfl rfl (r_add (z := ((k + 1 : Nat) : Int)) rfl (F36.ev 13 rfl) rfl (by first | rfl | omega) ⟨by first | omega | (unfold i64ok at *; omega), by first | omega | (unfold i64ok at *; omega)⟩) rfl fun _ F40 => ?_)))))
           refine l_op (f_mv F40 rfl rfl rfl rfl rfl fun _ F41 => ?_)
           have F42 : Fr 26 [(13, .int .i64 ((k + 1 : Nat) : Int)), (0, .slice a_a a_n a_c), (1, .slice b_a b_n b_c), (12, .int .i64 ((a_n : Nat) : Int))] _ := F41.cut rfl
           clear F36 F40 F41
           refine s_end ?_
           refine x_normal ⟨k + 1, by omega, F42.cut rfl, ((S16.trans S36).pick [] rfl), by omega, eqL_step hk_1 hx1 hx2 (by assumption)⟩
     · skip
       refine wp_exit (x_then_exit (x_then_exit (x_block_here (x_normal (wp_seq (wp_region_lit (l_op (f_val F18 rfl rfl (r_assign rfl rfl) rfl fun _ F43 => ?_))))))))
       have F44 : Fr 26 [(4, .bool true)] _ := F43.cut rfl
       clear F18 F43
       refine s_end (x_normal (wp_ret ?_))
       refine x_done (v := .bool true) F44 (results_1 Try.results74 (.tmp (F44.ev 4 rfl))) ?_
       exact ⟨(by rw [(show true = (decide (a = b)) from by first | exact (eqL_len ln_a ln_b (by assumption)).symm | exact (eqL_at hx1 hx2 (by assumption)).symm | exact (eqL_end hk_1 (by omega) (by omega)).symm)]), (Mv.pick S16 [] rfl)⟩
theorem laws_sameTexts_c {w : World} {H : Nat → Prop} {a : List ByteArray} {a_a : Option Addr} {a_n a_c : Nat} {b : List ByteArray} {b_a : Option Addr} {b_n b_c : Nat} (v_a : Rd 1 encS okS H w (.slice a_a a_n a_c) a) (v_b : Rd 1 encS okS H w (.slice b_a b_n b_c) b) :
    Calls Try.prog 31 #[.slice a_a a_n a_c, .slice b_a b_n b_c] w fun e w' => e = .returned (.bool (decide (a = b))) ∧ Mv [] w [] w' := by
 have V_v_a : Rd 1 encS okS (V H w []) w (.slice a_a a_n a_c) a := Rd.start v_a (fun _ _ => fps_nil _)
 obtain ⟨ln_a, le_a, mx_a, ni_a⟩ := Rd.inv v_a
 have V_v_b : Rd 1 encS okS (V H w []) w (.slice b_a b_n b_c) b := Rd.start v_b (fun _ _ => fps_nil _)
 obtain ⟨ln_b, le_b, mx_b, ni_b⟩ := Rd.inv v_b
 refine calls_enter 26 Try.func31 rfl Try.ntmps31 (Nat.le_of_ble_eq_true rfl) (fun _ F0i => ?_)
 have F0 : Fr 26 [(0, .slice a_a a_n a_c), (1, .slice b_a b_n b_c)] _ := F0i
 clear F0i
 refine wp_seq (wp_region_lit (l_op (f_val F0 rfl rfl (r_assign rfl rfl) rfl fun _ F1 => ?_)))
 have F2 : Fr 26 [(4, .bool false), (0, .slice a_a a_n a_c), (1, .slice b_a b_n b_c)] _ := F1.cut rfl
 clear F0 F1
 refine s_end (x_normal (wp_seq (wp_seq (wp_region_lit (l_op (f_mv F2 rfl rfl rfl rfl rfl fun _ F3 => ?_))))))
 refine l_op (f_val F3 rfl rfl (r_len Try.underlying22 rfl (F3.ev 6 rfl)) rfl fun _ F4 => ?_)
 refine l_op (f_mv F4 rfl rfl rfl rfl rfl fun _ F5 => ?_)
 refine l_op (f_val F5 rfl rfl (r_len Try.underlying22 rfl (F5.ev 8 rfl)) rfl fun _ F6 => ?_)
 refine l_op (f_val F6 rfl rfl (r_cmp (b := decide (a_n ≠ b_n)) (.inr (.inl rfl)) rfl (F6.ev 7 rfl) (F6.ev 9 rfl) (dec_of (by omega))) rfl fun _ F7 => ?_)
 have F8 : Fr 26 [(10, .bool (decide (a_n ≠ b_n))), (0, .slice a_a a_n a_c), (1, .slice b_a b_n b_c)] _ := F7.cut rfl
 clear F2 F3 F4 F5 F6 F7
 refine s_end (x_normal (x_cond (p := a_n ≠ b_n) (F8.ev 10 rfl) (fun h9 => ?_) (fun h9 => ?_)))
 · skip
   refine wp_seq (wp_region_lit (l_op (f_val F8 rfl rfl (r_assign rfl rfl) rfl fun _ F10 => ?_)))
   have F11 : Fr 26 [(4, .bool false)] _ := F10.cut rfl
   clear F8 F10
   refine s_end (x_normal (wp_ret (x_then_ret ?_)))
   refine x_done (v := .bool false) F11 (results_1 Try.results31 (.tmp (F11.ev 4 rfl))) ?_
   exact ⟨(by rw [(show false = (decide (a = b)) from by first | exact (eqL_len ln_a ln_b (by assumption)).symm | exact (eqL_at hx1 hx2 (by assumption)).symm | exact (eqL_end hk_1 (by omega) (by omega)).symm)]), (Mv.pick (Mv.refl (At.nil w)) [] rfl)⟩
 · skip
   refine wp_skip (x_normal (wp_seq (wp_seq (wp_region_lit (l_op (f_val F8 rfl rfl (r_assign rfl rfl) rfl fun _ F12 => ?_))))))
   have F13 : Fr 26 [(5, .int .i64 0), (0, .slice a_a a_n a_c), (1, .slice b_a b_n b_c)] _ := F12.cut rfl
   clear F8 F12
   refine s_end (x_normal (wp_block ?_))
   refine x_loop (fun (k : Nat) aZ wZ => Fr 26 [(5, .int .i64 ((k : Nat) : Int)), (0, .slice a_a a_n a_c), (1, .slice b_a b_n b_c)] aZ ∧ Mv [] w [] wZ ∧ (k ≤ a_n) ∧ (a.take k = b.take k)) (fun (k : Nat) => a_n - k) (0) ?_ ?_
   · exact ⟨F13.cut rfl, (Mv.refl (At.nil w)), by omega, rfl⟩
   · rintro k a14 w14 ⟨F14, S14, hk_0, hk_1⟩
     refine wp_seq (wp_seq (wp_region_lit (l_op (f_mv F14 rfl rfl rfl rfl rfl fun _ F15 => ?_))))
     refine l_op (f_mv F15 rfl rfl rfl rfl rfl fun _ F16 => ?_)
     refine l_op (f_val F16 rfl rfl (r_len Try.underlying22 rfl (F16.ev 12 rfl)) rfl fun _ F17 => ?_)
     refine l_op (f_val F17 rfl rfl (r_cmp (b := decide (k < a_n)) (.inr (.inr (.inl rfl))) rfl (F17.ev 11 rfl) (F17.ev 13 rfl) (dec_of (by omega))) rfl fun _ F18 => ?_)
     have F19 : Fr 26 [(14, .bool (decide (k < a_n))), (5, .int .i64 ((k : Nat) : Int)), (0, .slice a_a a_n a_c), (1, .slice b_a b_n b_c)] _ := F18.cut rfl
     clear F14 F15 F16 F17 F18
     refine s_end (x_normal (x_cond (p := k < a_n) (F19.ev 14 rfl) (fun h20 => ?_) (fun h20 => ?_)))
     · skip
       refine wp_skip (x_normal (wp_seq (wp_block (wp_seq ?_))))
       obtain ⟨x1, hx1, okx1⟩ := Rd.elem (Rd.mv (Nat.succ_pos _) V_v_a S14) k (by first | assumption | omega)
       obtain ⟨x2, hx2, okx2⟩ := Rd.elem (Rd.mv (Nat.succ_pos _) V_v_b S14) k (by first | assumption | omega)
       refine x_draw (fun aZ wZ => Fr 26 [(0, .slice a_a a_n a_c), (1, .slice b_a b_n b_c), (5, .int .i64 ((k : Nat) : Int)), (25, .bool (decide (x1 ≠ x2)))] aZ ∧ Mv [] w14 [] wZ) [] mixed S14.at' (listed := #[false, false, false, false, false, false, false, false, false]) rfl (fun w22 S22 => ?_) [] rfl ?_
       · skip
         refine g_take F19 rfl (i := 0) (listed' := #[true, false, false, false, false, false, false, false, false]) rfl (by kernel_rfl) (by kernel_rfl) (by kernel_rfl) (fun _ _ _ h => h) (Sd.of (Mv.refl S22.at') [] rfl) rfl rfl rfl rfl (fun _ hz => (r_move rfl (F19.ev 0 rfl))) fun _ F23 => ?_
         refine g_take F23 rfl (i := 1) (listed' := #[true, true, false, false, false, false, false, false, false]) rfl (by kernel_rfl) (by kernel_rfl) (by kernel_rfl) (fun _ _ _ h => h) (Sd.of (Mv.refl S22.at') [] rfl) rfl rfl rfl rfl (fun _ hz => (r_move rfl (F23.ev 5 rfl))) fun _ F24 => ?_
         obtain ⟨B25, O25, y25, ad25, hy25, oky25, ln25, cl25⟩ := Rd.atK (Nat.succ_pos _) (Rd.mv (Nat.succ_pos _) V_v_a (S14.trans S22)) k (by first | assumption | omega)
         clear ln25
         obtain rfl := Option.some.inj (hx1.symm.trans hy25)
         clear hy25 oky25
         refine g_take F24 rfl (i := 2) (listed' := #[true, true, true, false, false, false, false, false, false]) rfl (by kernel_rfl) (by kernel_rfl) (by kernel_rfl) (fun _ _ _ h => h) (Sd.of (Mv.refl S22.at') [] rfl) rfl rfl rfl rfl (fun _ hz => (r_indexAddr (i := k) ET_22 rfl ((F24.ev 17 rfl).trans (by rw [ad25])) (F24.ev 18 rfl) (by omega) (by first | assumption | omega))) fun _ F26 => ?_
         refine g_take (v := .string x1) F26 rfl (i := 3) (listed' := #[true, true, true, true, false, false, false, false, false]) rfl (by kernel_rfl) (by kernel_rfl) (by kernel_rfl) (fun _ _ _ h => h) (Sd.of (Mv.refl S22.at') [] rfl) rfl rfl rfl rfl (fun _ hz => (r_load (cs := [.string x1]) TI_9 rfl (F26.ev 19 rfl) rfl (fun _ => rfl) (elem_sub (f := 0) (cl25 _ hz.kp) [.string x1] rfl))) fun _ F27 => ?_
         refine g_take F27 rfl (i := 4) (listed' := #[true, true, true, true, true, false, false, false, false]) rfl (by kernel_rfl) (by kernel_rfl) (by kernel_rfl) (fun _ _ _ h => h) (Sd.of (Mv.refl S22.at') [] rfl) rfl rfl rfl rfl (fun _ hz => (r_move rfl (F27.ev 1 rfl))) fun _ F28 => ?_
         refine g_take F28 rfl (i := 5) (listed' := #[true, true, true, true, true, true, false, false, false]) rfl (by kernel_rfl) (by kernel_rfl) (by kernel_rfl) (fun _ _ _ h => h) (Sd.of (Mv.refl S22.at') [] rfl) rfl rfl rfl rfl (fun _ hz => (r_move rfl (F28.ev 5 rfl))) fun _ F29 => ?_
         obtain ⟨B30, O30, y30, ad30, hy30, oky30, ln30, cl30⟩ := Rd.atK (Nat.succ_pos _) (Rd.mv (Nat.succ_pos _) V_v_b (S14.trans S22)) k (by first | assumption | omega)
         clear ln30
         obtain rfl := Option.some.inj (hx2.symm.trans hy30)
         clear hy30 oky30
         refine g_take F29 rfl (i := 6) (listed' := #[true, true, true, true, true, true, true, false, false]) rfl (by kernel_rfl) (by kernel_rfl) (by kernel_rfl) (fun _ _ _ h => h) (Sd.of (Mv.refl S22.at') [] rfl) rfl rfl rfl rfl (fun _ hz => (r_indexAddr (i := k) ET_22 rfl ((F29.ev 21 rfl).trans (by rw [ad30])) (F29.ev 22 rfl) (by omega) (by first | assumption | omega))) fun _ F31 => ?_
         refine g_take (v := .string x2) F31 rfl (i := 7) (listed' := #[true, true, true, true, true, true, true, true, false]) rfl (by kernel_rfl) (by kernel_rfl) (by kernel_rfl) (fun _ _ _ h => h) (Sd.of (Mv.refl S22.at') [] rfl) rfl rfl rfl rfl (fun _ hz => (r_load (cs := [.string x2]) TI_9 rfl (F31.ev 23 rfl) rfl (fun _ => rfl) (elem_sub (f := 0) (cl30 _ hz.kp) [.string x2] rfl))) fun _ F32 => ?_
         refine g_take F32 rfl (i := 8) (listed' := #[true, true, true, true, true, true, true, true, true]) rfl (by kernel_rfl) (by kernel_rfl) (by kernel_rfl) (fun _ _ _ h => h) (Sd.of (Mv.refl S22.at') [] rfl) rfl rfl rfl rfl (fun _ hz => (r_cmps (b := (decide (x1 ≠ x2))) (.inr (.inl rfl)) rfl (F32.ev 20 rfl) (F32.ev 24 rfl) rfl)) fun _ F33 => ?_
         refine wpAnyH_done (by kernel_rfl) (x_normal ?_) _
         exact ⟨F33.cut rfl, (S22.pick [] rfl)⟩
       · rintro a34 w34 ⟨F34, S34⟩
         refine x_normal (x_cond (p := x1 ≠ x2) (F34.ev 25 rfl) (fun h35 => ?_) (fun h35 => ?_))
         · skip
           refine wp_seq (wp_region_lit (l_op (f_val F34 rfl rfl (r_assign rfl rfl) rfl fun _ F36 => ?_)))
           have F37 : Fr 26 [(4, .bool false)] _ := F36.cut rfl
           clear F34 F36
           refine s_end (x_normal (wp_ret (x_block_ret (x_then_ret (x_then_ret (x_block_ret (x_then_ret ?_)))))))
           refine x_done (v := .bool false) F37 (results_1 Try.results31 (.tmp (F37.ev 4 rfl))) ?_
           exact ⟨(by rw [(show false = (decide (a = b)) from by first | exact (eqL_len ln_a ln_b (by assumption)).symm | exact (eqL_at hx1 hx2 (by assumption)).symm | exact (eqL_end hk_1 (by omega) (by omega)).symm)]), (Mv.pick (S14.trans S34) [] rfl)⟩
         · skip
           refine wp_skip (x_block_normal (x_normal (wp_region_lit (l_op (f_mv F34 rfl rfl rfl rfl rfl fun _ F38 => ?_)))))
           refine l_op (f_val F38 rfl rfl (r_add (z := ((k + 1 : Nat) : Int)) rfl (F38.ev 15 rfl) rfl (by first | rfl | omega) ⟨by first | omega | (unfold i64ok at *; omega), by first | omega | (unfold i64ok at *; omega)⟩) rfl fun _ F39 => ?_)
           refine l_op (f_as F39 rfl rfl rfl rfl rfl fun _ F40 => ?_)
           have F41 : Fr 26 [(5, .int .i64 ((k + 1 : Nat) : Int)), (0, .slice a_a a_n a_c), (1, .slice b_a b_n b_c)] _ := F40.cut rfl
           clear F34 F38 F39 F40
           refine s_end ?_
           refine x_normal ⟨k + 1, by omega, F41.cut rfl, ((S14.trans S34).pick [] rfl), by omega, eqL_step hk_1 hx1 hx2 (by assumption)⟩
     · skip
       refine wp_exit (x_then_exit (x_then_exit (x_block_here (x_normal (wp_seq (wp_region_lit (l_op (f_val F19 rfl rfl (r_assign rfl rfl) rfl fun _ F42 => ?_))))))))
       have F43 : Fr 26 [(4, .bool true)] _ := F42.cut rfl
       clear F19 F42
       refine s_end (x_normal (wp_ret ?_))
       refine x_done (v := .bool true) F43 (results_1 Try.results31 (.tmp (F43.ev 4 rfl))) ?_
       exact ⟨(by rw [(show true = (decide (a = b)) from by first | exact (eqL_len ln_a ln_b (by assumption)).symm | exact (eqL_at hx1 hx2 (by assumption)).symm | exact (eqL_end hk_1 (by omega) (by omega)).symm)]), (Mv.pick S14 [] rfl)⟩
theorem impl_Clash_c {w : World} {H : Nat → Prop} {a : TouchD} {a_reads_a : Option Addr} {a_reads_n a_reads_c : Nat} {a_writes_a : Option Addr} {a_writes_n a_writes_c : Nat} {b : TouchD} {b_reads_a : Option Addr} {b_reads_n b_reads_c : Nat} {b_writes_a : Option Addr} {b_writes_n b_writes_c : Nat} (v_a_reads : Rd 1 encS okS H w (.slice a_reads_a a_reads_n a_reads_c) a.reads) (v_a_writes : Rd 1 encS okS H w (.slice a_writes_a a_writes_n a_writes_c) a.writes) (v_b_reads : Rd 1 encS okS H w (.slice b_reads_a b_reads_n b_reads_c) b.reads) (v_b_writes : Rd 1 encS okS H w (.slice b_writes_a b_writes_n b_writes_c) b.writes) :
    Calls Try.prog 24 #[.agg #[.slice a_reads_a a_reads_n a_reads_c, .slice a_writes_a a_writes_n a_writes_c], .agg #[.slice b_reads_a b_reads_n b_reads_c, .slice b_writes_a b_writes_n b_writes_c]] w fun e w' => e = .returned (.bool (clashT a b)) ∧ Mv [] w [] w' := by
 have V_v_a_reads : Rd 1 encS okS (V H w []) w (.slice a_reads_a a_reads_n a_reads_c) a.reads := Rd.start v_a_reads (fun _ _ => fps_nil _)
 obtain ⟨ln_a_reads, le_a_reads, mx_a_reads, ni_a_reads⟩ := Rd.inv v_a_reads
 have V_v_a_writes : Rd 1 encS okS (V H w []) w (.slice a_writes_a a_writes_n a_writes_c) a.writes := Rd.start v_a_writes (fun _ _ => fps_nil _)
 obtain ⟨ln_a_writes, le_a_writes, mx_a_writes, ni_a_writes⟩ := Rd.inv v_a_writes
 have V_v_b_reads : Rd 1 encS okS (V H w []) w (.slice b_reads_a b_reads_n b_reads_c) b.reads := Rd.start v_b_reads (fun _ _ => fps_nil _)
 obtain ⟨ln_b_reads, le_b_reads, mx_b_reads, ni_b_reads⟩ := Rd.inv v_b_reads
 have V_v_b_writes : Rd 1 encS okS (V H w []) w (.slice b_writes_a b_writes_n b_writes_c) b.writes := Rd.start v_b_writes (fun _ _ => fps_nil _)
 obtain ⟨ln_b_writes, le_b_writes, mx_b_writes, ni_b_writes⟩ := Rd.inv v_b_writes
 refine calls_enter 24 Try.func24 rfl Try.ntmps24 (Nat.le_of_ble_eq_true rfl) (fun _ F0i => ?_)
 have F0 : Fr 24 [(0, .agg #[.slice a_reads_a a_reads_n a_reads_c, .slice a_writes_a a_writes_n a_writes_c]), (1, .agg #[.slice b_reads_a b_reads_n b_reads_c, .slice b_writes_a b_writes_n b_writes_c])] _ := F0i
 clear F0i
 refine wp_seq (wp_region_lit (l_op (f_box F0 (At.nil w) rfl rfl rfl (F0.ev 0 rfl) rfl rfl fun b1 _ w1 F2 S1 => ?_)))
 refine l_op (f_box F2 S1.at' rfl rfl rfl (F2.ev 1 rfl) rfl rfl fun b3 _ w3 F4 S3 => ?_)
 refine l_op (f_val F4 rfl rfl (r_assign rfl rfl) rfl fun _ F5 => ?_)
 have F6 : Fr 24 [(4, .bool false), (3, .pointer (some ⟨b3, 0, none⟩)), (2, .pointer (some ⟨b1, 0, none⟩))] _ := F5.cut rfl
 clear F0 F2 F4 F5
 have T7 : Mv _ _ [bx b3 [.slice b_reads_a b_reads_n b_reads_c, .slice b_writes_a b_writes_n b_writes_c] 26, bx b1 [.slice a_reads_a a_reads_n a_reads_c, .slice a_writes_a a_writes_n a_writes_c] 26] _ := S3
 refine s_end (x_normal (wp_seq (wp_region_lit (l_op (f_val F6 rfl rfl (r_field FI_26_1 rfl (F6.ev 2 rfl) rfl) rfl fun _ F8 => ?_)))))
 refine l_op (f_val (v := .slice a_writes_a a_writes_n a_writes_c) F8 rfl rfl (r_loadB T7.at' 1 TI_22 rfl rfl (F8.ev 5 rfl) rfl rfl (fun _ => rfl) rfl) rfl fun _ F9 => ?_)
 refine l_op (f_val F9 rfl rfl (r_field FI_26_0 rfl (F9.ev 3 rfl) rfl) rfl fun _ F10 => ?_)
 refine l_op (f_val (v := .slice b_reads_a b_reads_n b_reads_c) F10 rfl rfl (r_loadB T7.at' 0 TI_22 rfl rfl (F10.ev 7 rfl) rfl rfl (fun _ => rfl) rfl) rfl fun _ F11 => ?_)
 refine l_op (f_call F11 CF_33 rfl rfl rfl rfl (lc (F11.ev 6 rfl) (lc (F11.ev 8 rfl) rfl)) (impl_MeetAny_c (a := a.writes) (b := b.reads) (Rd.mv (Nat.succ_pos _) V_v_a_writes (S1.trans T7)) (Rd.mv (Nat.succ_pos _) V_v_b_reads (S1.trans T7))) ?_)
 rintro _ w12 ⟨rfl, m12⟩
 refine ⟨_, rfl, fun _ F13 => ?_⟩
 have S12 := At.frame0 T7.at' m12
 clear m12
 refine l_op (f_mv F13 rfl rfl rfl rfl rfl fun _ F14 => ?_)
 rcases Bool.eq_false_or_eq_true (meetAny a.writes b.reads) with h15 | h15
 · rw [h15] at F14
   refine l_op (f_skip F14 (wanted_g F14 rfl rfl rfl rfl) rfl rfl fun _ F16 => ?_)
   refine l_op (f_skip F16 (wanted_g F16 rfl rfl rfl rfl) rfl rfl fun _ F17 => ?_)
   refine l_op (f_skip F17 (wanted_g F17 rfl rfl rfl rfl) rfl rfl fun _ F18 => ?_)
   refine l_op (f_skip F18 (wanted_g F18 rfl rfl rfl rfl) rfl rfl fun _ F19 => ?_)
   refine l_op (f_skip F19 (wanted_g F19 rfl rfl rfl rfl) rfl rfl fun _ F20 => ?_)
   refine l_op (f_val F20 rfl rfl (r_pick (b := true) rfl (F20.ev 10 rfl) rfl) rfl fun _ F21 => ?_)
   refine l_op (f_mv F21 rfl rfl rfl rfl rfl fun _ F22 => ?_)
   refine l_op (f_skip F22 (wanted_g F22 rfl rfl rfl rfl) rfl rfl fun _ F23 => ?_)
   refine l_op (f_skip F23 (wanted_g F23 rfl rfl rfl rfl) rfl rfl fun _ F24 => ?_)
   refine l_op (f_skip F24 (wanted_g F24 rfl rfl rfl rfl) rfl rfl fun _ F25 => ?_)
   refine l_op (f_skip F25 (wanted_g F25 rfl rfl rfl rfl) rfl rfl fun _ F26 => ?_)
   refine l_op (f_skip F26 (wanted_g F26 rfl rfl rfl rfl) rfl rfl fun _ F27 => ?_)
   refine l_op (f_val F27 rfl rfl (r_pick (b := true) rfl (F27.ev 17 rfl) rfl) rfl fun _ F28 => ?_)
   refine l_op (f_as F28 rfl rfl rfl rfl rfl fun _ F29 => ?_)
   have F30 : Fr 24 [(4, .bool true)] _ := F29.cut rfl
   clear F6 F8 F9 F10 F11 F13 F14 F16 F17 F18 F19 F20 F21 F22 F23 F24 F25 F26 F27 F28 F29
   have T31 : Mv _ _ [bx b3 [.slice b_reads_a b_reads_n b_reads_c, .slice b_writes_a b_writes_n b_writes_c] 26, bx b1 [.slice a_reads_a a_reads_n a_reads_c, .slice a_writes_a a_writes_n a_writes_c] 26] _ := S12
   refine s_end (x_normal (wp_ret ?_))
   refine x_done (v := .bool true) F30 (results_1 Try.results24 (.tmp (F30.ev 4 rfl))) ?_
   exact ⟨(by rw [(show true = (clashT a b) from by first | exact (cl_1 (by assumption)).symm | exact (cl_2 (by assumption)).symm | exact (cl_3 (by assumption) (by assumption)).symm | exact (cl_4 (by assumption) (by assumption)).symm)]), (Mv.pick (S1.trans (T7.trans T31)) [] rfl)⟩
 · rw [h15] at F14
   refine l_op (f_val F14 (wanted_g F14 rfl rfl rfl rfl) rfl (r_field FI_26_1 rfl (F14.ev 2 rfl) rfl) rfl fun _ F32 => ?_)
   refine l_op (f_val (v := .slice a_writes_a a_writes_n a_writes_c) F32 (wanted_g F32 rfl rfl rfl rfl) rfl (r_loadB S12.at' 1 TI_22 rfl rfl (F32.ev 11 rfl) rfl rfl (fun _ => rfl) rfl) rfl fun _ F33 => ?_)
   refine l_op (f_val F33 (wanted_g F33 rfl rfl rfl rfl) rfl (r_field FI_26_1 rfl (F33.ev 3 rfl) rfl) rfl fun _ F34 => ?_)
   refine l_op (f_val (v := .slice b_writes_a b_writes_n b_writes_c) F34 (wanted_g F34 rfl rfl rfl rfl) rfl (r_loadB S12.at' 0 TI_22 rfl rfl (F34.ev 13 rfl) rfl rfl (fun _ => rfl) rfl) rfl fun _ F35 => ?_)
   refine l_op (f_call F35 CF_33 (wanted_g F35 rfl rfl rfl rfl) rfl rfl rfl (lc (F35.ev 12 rfl) (lc (F35.ev 14 rfl) rfl)) (impl_MeetAny_c (a := a.writes) (b := b.writes) (Rd.mv (Nat.succ_pos _) V_v_a_writes (S1.trans (T7.trans S12))) (Rd.mv (Nat.succ_pos _) V_v_b_writes (S1.trans (T7.trans S12)))) ?_)
   rintro _ w36 ⟨rfl, m36⟩
   refine ⟨_, rfl, fun _ F37 => ?_⟩
   have S36 := At.frame0 S12.at' m36
   clear m36
   refine l_op (f_val F37 rfl rfl (r_pick (b := false) rfl (F37.ev 10 rfl) (F37.ev 15 rfl)) rfl fun _ F38 => ?_)
   refine l_op (f_mv F38 rfl rfl rfl rfl rfl fun _ F39 => ?_)
   rcases Bool.eq_false_or_eq_true (meetAny a.writes b.writes) with h40 | h40
   · rw [h40] at F39
     refine l_op (f_skip F39 (wanted_g F39 rfl rfl rfl rfl) rfl rfl fun _ F41 => ?_)
     refine l_op (f_skip F41 (wanted_g F41 rfl rfl rfl rfl) rfl rfl fun _ F42 => ?_)
     refine l_op (f_skip F42 (wanted_g F42 rfl rfl rfl rfl) rfl rfl fun _ F43 => ?_)
     refine l_op (f_skip F43 (wanted_g F43 rfl rfl rfl rfl) rfl rfl fun _ F44 => ?_)
     refine l_op (f_skip F44 (wanted_g F44 rfl rfl rfl rfl) rfl rfl fun _ F45 => ?_)
     refine l_op (f_val F45 rfl rfl (r_pick (b := true) rfl (F45.ev 17 rfl) rfl) rfl fun _ F46 => ?_)
     refine l_op (f_as F46 rfl rfl rfl rfl rfl fun _ F47 => ?_)
     have F48 : Fr 24 [(4, .bool true)] _ := F47.cut rfl
     clear F6 F8 F9 F10 F11 F13 F14 F32 F33 F34 F35 F37 F38 F39 F41 F42 F43 F44 F45 F46 F47
     have T49 : Mv _ _ [bx b3 [.slice b_reads_a b_reads_n b_reads_c, .slice b_writes_a b_writes_n b_writes_c] 26, bx b1 [.slice a_reads_a a_reads_n a_reads_c, .slice a_writes_a a_writes_n a_writes_c] 26] _ := S36
     refine s_end (x_normal (wp_ret ?_))
     refine x_done (v := .bool true) F48 (results_1 Try.results24 (.tmp (F48.ev 4 rfl))) ?_
     exact ⟨(by rw [(show true = (clashT a b) from by first | exact (cl_1 (by assumption)).symm | exact (cl_2 (by assumption)).symm | exact (cl_3 (by assumption) (by assumption)).symm | exact (cl_4 (by assumption) (by assumption)).symm)]), (Mv.pick (S1.trans (T7.trans (S12.trans T49))) [] rfl)⟩
   · rw [h40] at F39
     refine l_op (f_val F39 (wanted_g F39 rfl rfl rfl rfl) rfl (r_field FI_26_1 rfl (F39.ev 3 rfl) rfl) rfl fun _ F50 => ?_)
     refine l_op (f_val (v := .slice b_writes_a b_writes_n b_writes_c) F50 (wanted_g F50 rfl rfl rfl rfl) rfl (r_loadB S36.at' 0 TI_22 rfl rfl (F50.ev 18 rfl) rfl rfl (fun _ => rfl) rfl) rfl fun _ F51 => ?_)
     refine l_op (f_val F51 (wanted_g F51 rfl rfl rfl rfl) rfl (r_field FI_26_0 rfl (F51.ev 2 rfl) rfl) rfl fun _ F52 => ?_)
     refine l_op (f_val (v := .slice a_reads_a a_reads_n a_reads_c) F52 (wanted_g F52 rfl rfl rfl rfl) rfl (r_loadB S36.at' 1 TI_22 rfl rfl (F52.ev 20 rfl) rfl rfl (fun _ => rfl) rfl) rfl fun _ F53 => ?_)
     refine l_op (f_call F53 CF_33 (wanted_g F53 rfl rfl rfl rfl) rfl rfl rfl (lc (F53.ev 19 rfl) (lc (F53.ev 21 rfl) rfl)) (impl_MeetAny_c (a := b.writes) (b := a.reads) (Rd.mv (Nat.succ_pos _) V_v_b_writes (S1.trans (T7.trans (S12.trans S36)))) (Rd.mv (Nat.succ_pos _) V_v_a_reads (S1.trans (T7.trans (S12.trans S36))))) ?_)
     rintro _ w54 ⟨rfl, m54⟩
     refine ⟨_, rfl, fun _ F55 => ?_⟩
     have S54 := At.frame0 S36.at' m54
     clear m54
     refine l_op (f_val F55 rfl rfl (r_pick (b := false) rfl (F55.ev 17 rfl) (F55.ev 22 rfl)) rfl fun _ F56 => ?_)
     refine l_op (f_as F56 rfl rfl rfl rfl rfl fun _ F57 => ?_)
     have F58 : Fr 24 [(4, .bool (meetAny b.writes a.reads))] _ := F57.cut rfl
     clear F6 F8 F9 F10 F11 F13 F14 F32 F33 F34 F35 F37 F38 F39 F50 F51 F52 F53 F55 F56 F57
     have T59 : Mv _ _ [bx b3 [.slice b_reads_a b_reads_n b_reads_c, .slice b_writes_a b_writes_n b_writes_c] 26, bx b1 [.slice a_reads_a a_reads_n a_reads_c, .slice a_writes_a a_writes_n a_writes_c] 26] _ := S54
     refine s_end (x_normal (wp_ret ?_))
     refine x_done (v := .bool (meetAny b.writes a.reads)) F58 (results_1 Try.results24 (.tmp (F58.ev 4 rfl))) ?_
     exact ⟨(by rw [(show (meetAny b.writes a.reads) = (clashT a b) from by first | exact (cl_1 (by assumption)).symm | exact (cl_2 (by assumption)).symm | exact (cl_3 (by assumption) (by assumption)).symm | exact (cl_4 (by assumption) (by assumption)).symm)]), (Mv.pick (S1.trans (T7.trans (S12.trans (S36.trans T59)))) [] rfl)⟩
theorem spec_Clash_c {w : World} {H : Nat → Prop} {a : TouchD} {a_reads_a : Option Addr} {a_reads_n a_reads_c : Nat} {a_writes_a : Option Addr} {a_writes_n a_writes_c : Nat} {b : TouchD} {b_reads_a : Option Addr} {b_reads_n b_reads_c : Nat} {b_writes_a : Option Addr} {b_writes_n b_writes_c : Nat} (v_a_reads : Rd 1 encS okS H w (.slice a_reads_a a_reads_n a_reads_c) a.reads) (v_a_writes : Rd 1 encS okS H w (.slice a_writes_a a_writes_n a_writes_c) a.writes) (v_b_reads : Rd 1 encS okS H w (.slice b_reads_a b_reads_n b_reads_c) b.reads) (v_b_writes : Rd 1 encS okS H w (.slice b_writes_a b_writes_n b_writes_c) b.writes) :
    Calls Try.prog 25 #[.agg #[.slice a_reads_a a_reads_n a_reads_c, .slice a_writes_a a_writes_n a_writes_c], .agg #[.slice b_reads_a b_reads_n b_reads_c, .slice b_writes_a b_writes_n b_writes_c]] w fun e w' => e = .returned (.bool (clashT a b)) ∧ Mv [] w [] w' := by
 have V_v_a_reads : Rd 1 encS okS (V H w []) w (.slice a_reads_a a_reads_n a_reads_c) a.reads := Rd.start v_a_reads (fun _ _ => fps_nil _)
 obtain ⟨ln_a_reads, le_a_reads, mx_a_reads, ni_a_reads⟩ := Rd.inv v_a_reads
 have V_v_a_writes : Rd 1 encS okS (V H w []) w (.slice a_writes_a a_writes_n a_writes_c) a.writes := Rd.start v_a_writes (fun _ _ => fps_nil _)
 obtain ⟨ln_a_writes, le_a_writes, mx_a_writes, ni_a_writes⟩ := Rd.inv v_a_writes
 have V_v_b_reads : Rd 1 encS okS (V H w []) w (.slice b_reads_a b_reads_n b_reads_c) b.reads := Rd.start v_b_reads (fun _ _ => fps_nil _)
 obtain ⟨ln_b_reads, le_b_reads, mx_b_reads, ni_b_reads⟩ := Rd.inv v_b_reads
 have V_v_b_writes : Rd 1 encS okS (V H w []) w (.slice b_writes_a b_writes_n b_writes_c) b.writes := Rd.start v_b_writes (fun _ _ => fps_nil _)
 obtain ⟨ln_b_writes, le_b_writes, mx_b_writes, ni_b_writes⟩ := Rd.inv v_b_writes
 refine calls_enter 24 Try.func25 rfl Try.ntmps25 (Nat.le_of_ble_eq_true rfl) (fun _ F0i => ?_)
 have F0 : Fr 24 [(0, .agg #[.slice a_reads_a a_reads_n a_reads_c, .slice a_writes_a a_writes_n a_writes_c]), (1, .agg #[.slice b_reads_a b_reads_n b_reads_c, .slice b_writes_a b_writes_n b_writes_c])] _ := F0i
 clear F0i
 refine wp_seq (wp_region_lit (l_op (f_box F0 (At.nil w) rfl rfl rfl (F0.ev 0 rfl) rfl rfl fun b1 _ w1 F2 S1 => ?_)))
 refine l_op (f_box F2 S1.at' rfl rfl rfl (F2.ev 1 rfl) rfl rfl fun b3 _ w3 F4 S3 => ?_)
 refine l_op (f_val F4 rfl rfl (r_assign rfl rfl) rfl fun _ F5 => ?_)
 have F6 : Fr 24 [(4, .bool false), (3, .pointer (some ⟨b3, 0, none⟩)), (2, .pointer (some ⟨b1, 0, none⟩))] _ := F5.cut rfl
 clear F0 F2 F4 F5
 have T7 : Mv _ _ [bx b3 [.slice b_reads_a b_reads_n b_reads_c, .slice b_writes_a b_writes_n b_writes_c] 26, bx b1 [.slice a_reads_a a_reads_n a_reads_c, .slice a_writes_a a_writes_n a_writes_c] 26] _ := S3
 refine s_end (x_normal (wp_seq (wp_region_lit (l_op (f_val F6 rfl rfl (r_field FI_26_1 rfl (F6.ev 2 rfl) rfl) rfl fun _ F8 => ?_)))))
 refine l_op (f_val (v := .slice a_writes_a a_writes_n a_writes_c) F8 rfl rfl (r_loadB T7.at' 1 TI_22 rfl rfl (F8.ev 5 rfl) rfl rfl (fun _ => rfl) rfl) rfl fun _ F9 => ?_)
 refine l_op (f_val F9 rfl rfl (r_field FI_26_0 rfl (F9.ev 3 rfl) rfl) rfl fun _ F10 => ?_)
 refine l_op (f_val (v := .slice b_reads_a b_reads_n b_reads_c) F10 rfl rfl (r_loadB T7.at' 0 TI_22 rfl rfl (F10.ev 7 rfl) rfl rfl (fun _ => rfl) rfl) rfl fun _ F11 => ?_)
 refine l_op (f_call F11 CF_34 rfl rfl rfl rfl (lc (F11.ev 6 rfl) (lc (F11.ev 8 rfl) rfl)) (spec_MeetAny_c (a := a.writes) (b := b.reads) (Rd.mv (Nat.succ_pos _) V_v_a_writes (S1.trans T7)) (Rd.mv (Nat.succ_pos _) V_v_b_reads (S1.trans T7))) ?_)
 rintro _ w12 ⟨rfl, m12⟩
 refine ⟨_, rfl, fun _ F13 => ?_⟩
 have S12 := At.frame0 T7.at' m12
 clear m12
 refine l_op (f_mv F13 rfl rfl rfl rfl rfl fun _ F14 => ?_)
 rcases Bool.eq_false_or_eq_true (meetAny a.writes b.reads) with h15 | h15
 · rw [h15] at F14
   refine l_op (f_skip F14 (wanted_g F14 rfl rfl rfl rfl) rfl rfl fun _ F16 => ?_)
   refine l_op (f_skip F16 (wanted_g F16 rfl rfl rfl rfl) rfl rfl fun _ F17 => ?_)
   refine l_op (f_skip F17 (wanted_g F17 rfl rfl rfl rfl) rfl rfl fun _ F18 => ?_)
   refine l_op (f_skip F18 (wanted_g F18 rfl rfl rfl rfl) rfl rfl fun _ F19 => ?_)
   refine l_op (f_skip F19 (wanted_g F19 rfl rfl rfl rfl) rfl rfl fun _ F20 => ?_)
   refine l_op (f_val F20 rfl rfl (r_pick (b := true) rfl (F20.ev 10 rfl) rfl) rfl fun _ F21 => ?_)
   refine l_op (f_mv F21 rfl rfl rfl rfl rfl fun _ F22 => ?_)
   refine l_op (f_skip F22 (wanted_g F22 rfl rfl rfl rfl) rfl rfl fun _ F23 => ?_)
   refine l_op (f_skip F23 (wanted_g F23 rfl rfl rfl rfl) rfl rfl fun _ F24 => ?_)
   refine l_op (f_skip F24 (wanted_g F24 rfl rfl rfl rfl) rfl rfl fun _ F25 => ?_)
   refine l_op (f_skip F25 (wanted_g F25 rfl rfl rfl rfl) rfl rfl fun _ F26 => ?_)
   refine l_op (f_skip F26 (wanted_g F26 rfl rfl rfl rfl) rfl rfl fun _ F27 => ?_)
   refine l_op (f_val F27 rfl rfl (r_pick (b := true) rfl (F27.ev 17 rfl) rfl) rfl fun _ F28 => ?_)
   refine l_op (f_as F28 rfl rfl rfl rfl rfl fun _ F29 => ?_)
   have F30 : Fr 24 [(4, .bool true)] _ := F29.cut rfl
   clear F6 F8 F9 F10 F11 F13 F14 F16 F17 F18 F19 F20 F21 F22 F23 F24 F25 F26 F27 F28 F29
   have T31 : Mv _ _ [bx b3 [.slice b_reads_a b_reads_n b_reads_c, .slice b_writes_a b_writes_n b_writes_c] 26, bx b1 [.slice a_reads_a a_reads_n a_reads_c, .slice a_writes_a a_writes_n a_writes_c] 26] _ := S12
   refine s_end (x_normal (wp_ret ?_))
   refine x_done (v := .bool true) F30 (results_1 Try.results25 (.tmp (F30.ev 4 rfl))) ?_
   exact ⟨(by rw [(show true = (clashT a b) from by first | exact (cl_1 (by assumption)).symm | exact (cl_2 (by assumption)).symm | exact (cl_3 (by assumption) (by assumption)).symm | exact (cl_4 (by assumption) (by assumption)).symm)]), (Mv.pick (S1.trans (T7.trans T31)) [] rfl)⟩
 · rw [h15] at F14
   refine l_op (f_val F14 (wanted_g F14 rfl rfl rfl rfl) rfl (r_field FI_26_1 rfl (F14.ev 2 rfl) rfl) rfl fun _ F32 => ?_)
   refine l_op (f_val (v := .slice a_writes_a a_writes_n a_writes_c) F32 (wanted_g F32 rfl rfl rfl rfl) rfl (r_loadB S12.at' 1 TI_22 rfl rfl (F32.ev 11 rfl) rfl rfl (fun _ => rfl) rfl) rfl fun _ F33 => ?_)
   refine l_op (f_val F33 (wanted_g F33 rfl rfl rfl rfl) rfl (r_field FI_26_1 rfl (F33.ev 3 rfl) rfl) rfl fun _ F34 => ?_)
   refine l_op (f_val (v := .slice b_writes_a b_writes_n b_writes_c) F34 (wanted_g F34 rfl rfl rfl rfl) rfl (r_loadB S12.at' 0 TI_22 rfl rfl (F34.ev 13 rfl) rfl rfl (fun _ => rfl) rfl) rfl fun _ F35 => ?_)
   refine l_op (f_call F35 CF_34 (wanted_g F35 rfl rfl rfl rfl) rfl rfl rfl (lc (F35.ev 12 rfl) (lc (F35.ev 14 rfl) rfl)) (spec_MeetAny_c (a := a.writes) (b := b.writes) (Rd.mv (Nat.succ_pos _) V_v_a_writes (S1.trans (T7.trans S12))) (Rd.mv (Nat.succ_pos _) V_v_b_writes (S1.trans (T7.trans S12)))) ?_)
   rintro _ w36 ⟨rfl, m36⟩
   refine ⟨_, rfl, fun _ F37 => ?_⟩
   have S36 := At.frame0 S12.at' m36
   clear m36
   refine l_op (f_val F37 rfl rfl (r_pick (b := false) rfl (F37.ev 10 rfl) (F37.ev 15 rfl)) rfl fun _ F38 => ?_)
   refine l_op (f_mv F38 rfl rfl rfl rfl rfl fun _ F39 => ?_)
   rcases Bool.eq_false_or_eq_true (meetAny a.writes b.writes) with h40 | h40
   · rw [h40] at F39
     refine l_op (f_skip F39 (wanted_g F39 rfl rfl rfl rfl) rfl rfl fun _ F41 => ?_)
     refine l_op (f_skip F41 (wanted_g F41 rfl rfl rfl rfl) rfl rfl fun _ F42 => ?_)
     refine l_op (f_skip F42 (wanted_g F42 rfl rfl rfl rfl) rfl rfl fun _ F43 => ?_)
     refine l_op (f_skip F43 (wanted_g F43 rfl rfl rfl rfl) rfl rfl fun _ F44 => ?_)
     refine l_op (f_skip F44 (wanted_g F44 rfl rfl rfl rfl) rfl rfl fun _ F45 => ?_)
     refine l_op (f_val F45 rfl rfl (r_pick (b := true) rfl (F45.ev 17 rfl) rfl) rfl fun _ F46 => ?_)
     refine l_op (f_as F46 rfl rfl rfl rfl rfl fun _ F47 => ?_)
     have F48 : Fr 24 [(4, .bool true)] _ := F47.cut rfl
     clear F6 F8 F9 F10 F11 F13 F14 F32 F33 F34 F35 F37 F38 F39 F41 F42 F43 F44 F45 F46 F47
     have T49 : Mv _ _ [bx b3 [.slice b_reads_a b_reads_n b_reads_c, .slice b_writes_a b_writes_n b_writes_c] 26, bx b1 [.slice a_reads_a a_reads_n a_reads_c, .slice a_writes_a a_writes_n a_writes_c] 26] _ := S36
     refine s_end (x_normal (wp_ret ?_))
     refine x_done (v := .bool true) F48 (results_1 Try.results25 (.tmp (F48.ev 4 rfl))) ?_
     exact ⟨(by rw [(show true = (clashT a b) from by first | exact (cl_1 (by assumption)).symm | exact (cl_2 (by assumption)).symm | exact (cl_3 (by assumption) (by assumption)).symm | exact (cl_4 (by assumption) (by assumption)).symm)]), (Mv.pick (S1.trans (T7.trans (S12.trans T49))) [] rfl)⟩
   · rw [h40] at F39
     refine l_op (f_val F39 (wanted_g F39 rfl rfl rfl rfl) rfl (r_field FI_26_0 rfl (F39.ev 2 rfl) rfl) rfl fun _ F50 => ?_)
     refine l_op (f_val (v := .slice a_reads_a a_reads_n a_reads_c) F50 (wanted_g F50 rfl rfl rfl rfl) rfl (r_loadB S36.at' 1 TI_22 rfl rfl (F50.ev 18 rfl) rfl rfl (fun _ => rfl) rfl) rfl fun _ F51 => ?_)
     refine l_op (f_val F51 (wanted_g F51 rfl rfl rfl rfl) rfl (r_field FI_26_1 rfl (F51.ev 3 rfl) rfl) rfl fun _ F52 => ?_)
     refine l_op (f_val (v := .slice b_writes_a b_writes_n b_writes_c) F52 (wanted_g F52 rfl rfl rfl rfl) rfl (r_loadB S36.at' 0 TI_22 rfl rfl (F52.ev 20 rfl) rfl rfl (fun _ => rfl) rfl) rfl fun _ F53 => ?_)
     refine l_op (f_call F53 CF_34 (wanted_g F53 rfl rfl rfl rfl) rfl rfl rfl (lc (F53.ev 19 rfl) (lc (F53.ev 21 rfl) rfl)) (spec_MeetAny_c (a := a.reads) (b := b.writes) (Rd.mv (Nat.succ_pos _) V_v_a_reads (S1.trans (T7.trans (S12.trans S36)))) (Rd.mv (Nat.succ_pos _) V_v_b_writes (S1.trans (T7.trans (S12.trans S36))))) ?_)
     rintro _ w54 ⟨rfl, m54⟩
     refine ⟨_, rfl, fun _ F55 => ?_⟩
     have S54 := At.frame0 S36.at' m54
     clear m54
     refine l_op (f_val F55 rfl rfl (r_pick (b := false) rfl (F55.ev 17 rfl) (F55.ev 22 rfl)) rfl fun _ F56 => ?_)
     refine l_op (f_as F56 rfl rfl rfl rfl rfl fun _ F57 => ?_)
     have F58 : Fr 24 [(4, .bool (meetAny a.reads b.writes))] _ := F57.cut rfl
     clear F6 F8 F9 F10 F11 F13 F14 F32 F33 F34 F35 F37 F38 F39 F50 F51 F52 F53 F55 F56 F57
     have T59 : Mv _ _ [bx b3 [.slice b_reads_a b_reads_n b_reads_c, .slice b_writes_a b_writes_n b_writes_c] 26, bx b1 [.slice a_reads_a a_reads_n a_reads_c, .slice a_writes_a a_writes_n a_writes_c] 26] _ := S54
     refine s_end (x_normal (wp_ret ?_))
     refine x_done (v := .bool (meetAny a.reads b.writes)) F58 (results_1 Try.results25 (.tmp (F58.ev 4 rfl))) ?_
     exact ⟨(by rw [(show (meetAny a.reads b.writes) = (clashT a b) from by first | exact (cl_1 (by assumption)).symm | exact (cl_2 (by assumption)).symm | exact (cl_3 (by assumption) (by assumption)).symm | exact (cl_4 (by assumption) (by assumption)).symm)]), (Mv.pick (S1.trans (T7.trans (S12.trans (S36.trans T59)))) [] rfl)⟩
theorem impl_spansHave_1_c {w : World} {H : Nat → Prop} {span : ByteArray} {key_b : Nat} {key : ByteArray} (h_span : okS span) (h_key : okS key) (hA : At w [bx key_b [.string key] 9]) :
    Calls Try.prog 130 #[.string span, .pointer (some ⟨key_b, 0, none⟩)] w fun e w' => e = .returned (.bool (spanHas span key)) ∧ Mv [bx key_b [.string key] 9] w [bx key_b [.string key] 9] w' := by
 refine calls_enter 7 Try.func130 rfl Try.ntmps130 (Nat.le_of_ble_eq_true rfl) (fun _ F0i => ?_)
 have F0 : Fr 7 [(0, .string span), (1, .pointer (some ⟨key_b, 0, none⟩))] _ := F0i
 clear F0i
 refine wp_seq (wp_region_lit (l_op (f_val F0 rfl rfl (r_assign rfl rfl) rfl fun _ F1 => ?_)))
 have F2 : Fr 7 [(3, .bool false), (0, .string span), (1, .pointer (some ⟨key_b, 0, none⟩))] _ := F1.cut rfl
 clear F0 F1
 refine s_end (x_normal (wp_seq (wp_region_lit (l_op (f_mv F2 rfl rfl rfl rfl rfl fun _ F3 => ?_)))))
 refine l_op (f_val (v := .string key) F3 rfl rfl (r_loadB hA 0 TI_9 rfl rfl (F3.ev 1 rfl) rfl rfl (fun _ => rfl) rfl) rfl fun _ F4 => ?_)
 refine l_op (f_call F4 CF_128 rfl rfl rfl rfl (lc (F4.ev 4 rfl) (lc (F4.ev 5 rfl) rfl)) (impl_SpanHas_c (H := fun _ => True) (span := span) (key := key) h_span h_key) ?_)
 rintro _ w5 ⟨rfl, m5⟩
 refine ⟨_, rfl, fun _ F6 => ?_⟩
 have S5 := At.frame0 hA m5
 clear m5
 refine l_op (f_as F6 rfl rfl rfl rfl rfl fun _ F7 => ?_)
 have F8 : Fr 7 [(3, .bool (spanHas span key))] _ := F7.cut rfl
 clear F2 F3 F4 F6 F7
 have T9 : Mv _ _ [bx key_b [.string key] 9] _ := S5
 refine s_end (x_normal (wp_ret ?_))
 refine x_done (v := .bool (spanHas span key)) F8 (results_1 Try.results130 (.tmp (F8.ev 3 rfl))) ?_
 exact ⟨rfl, (Mv.pick T9 [0] rfl)⟩
theorem IndexFuncS_impl_spansHave_1_c {w : World} {H : Nat → Prop} {s : List ByteArray} {s_a : Option Addr} {s_n s_c : Nat} {f_b : Nat} {f : ByteArray} (v_s : Rd 1 encS okS H w (.slice s_a s_n s_c) s) (h_f : okS f) (hA : At w [bx f_b [.string f] 9]) (hD : ∀ b, H b → ¬ fps [bx f_b [.string f] 9] b) :
    Calls Try.prog 122 #[.slice s_a s_n s_c, .func (.func 130) #[] #[.pointer (some ⟨f_b, 0, none⟩)]] w fun e w' => e = .returned (.int .i64 (idxP (fun c : ByteArray => spanHas c f) s)) ∧ Mv [bx f_b [.string f] 9] w [bx f_b [.string f] 9] w' ∧ i64ok (idxP (fun c : ByteArray => spanHas c f) s) := by
 have V_v_s : Rd 1 encS okS (V H w [bx f_b [.string f] 9]) w (.slice s_a s_n s_c) s := Rd.start v_s hD
 obtain ⟨ln_s, le_s, mx_s, ni_s⟩ := Rd.inv v_s
 refine calls_enter 19 Try.func122 rfl Try.ntmps122 (Nat.le_of_ble_eq_true rfl) (fun _ F0i => ?_)
 have F0 : Fr 19 [(0, .slice s_a s_n s_c), (1, .func (.func 130) #[] #[.pointer (some ⟨f_b, 0, none⟩)])] _ := F0i
 clear F0i
 refine wp_seq (wp_region_lit (l_op (f_val F0 rfl rfl (r_assign rfl rfl) rfl fun _ F1 => ?_)))
 have F2 : Fr 19 [(4, .int .i64 0), (0, .slice s_a s_n s_c), (1, .func (.func 130) #[] #[.pointer (some ⟨f_b, 0, none⟩)])] _ := F1.cut rfl
 clear F0 F1
 refine s_end (x_normal (wp_seq (wp_seq (wp_region_lit (l_op (f_mv F2 rfl rfl rfl rfl rfl fun _ F3 => ?_))))))
 refine l_op (f_val F3 rfl rfl (r_len Try.underlying22 rfl (F3.ev 6 rfl)) rfl fun _ F4 => ?_)
 refine l_op (f_val F4 rfl rfl (r_move rfl rfl) rfl fun _ F5 => ?_)
 have F6 : Fr 19 [(8, .int .i64 0), (7, .int .i64 ((s_n : Nat) : Int)), (0, .slice s_a s_n s_c), (1, .func (.func 130) #[] #[.pointer (some ⟨f_b, 0, none⟩)])] _ := F5.cut rfl
 clear F2 F3 F4 F5
 refine s_end (x_normal (wp_block ?_))
 refine x_loop (fun (k : Nat) aZ wZ => Fr 19 [(8, .int .i64 ((k : Nat) : Int)), (7, .int .i64 ((s_n : Nat) : Int)), (0, .slice s_a s_n s_c), (1, .func (.func 130) #[] #[.pointer (some ⟨f_b, 0, none⟩)])] aZ ∧ Mv [bx f_b [.string f] 9] w [bx f_b [.string f] 9] wZ ∧ (k ≤ s_n) ∧ (∀ j, j < k → ∀ c, nth s j = some c → spanHas c f = false)) (fun (k : Nat) => s_n - k) (0) ?_ ?_
 · exact ⟨F6.cut rfl, (Mv.refl hA), by omega, all_none⟩
 · rintro k a7 w7 ⟨F7, S7, hk_0, hk_1⟩
   refine wp_seq (wp_region_lit (l_op (f_val F7 rfl rfl (r_cmp (b := decide (k < s_n)) (.inr (.inr (.inl rfl))) rfl (F7.ev 8 rfl) (F7.ev 7 rfl) (dec_of (by omega))) rfl fun _ F8 => ?_)))
   have F9 : Fr 19 [(9, .bool (decide (k < s_n))), (8, .int .i64 ((k : Nat) : Int)), (7, .int .i64 ((s_n : Nat) : Int)), (0, .slice s_a s_n s_c), (1, .func (.func 130) #[] #[.pointer (some ⟨f_b, 0, none⟩)])] _ := F8.cut rfl
   clear F7 F8
   refine s_end (x_normal (wp_seq (x_cond (p := k < s_n) (F9.ev 9 rfl) (fun h10 => ?_) (fun h10 => ?_))))
   · skip
     refine wp_skip (x_normal (wp_seq (wp_block (wp_seq (wp_region_lit (l_op (f_mv F9 rfl rfl rfl rfl rfl fun _ F11 => ?_)))))))
     refine l_op (f_as F11 rfl rfl rfl rfl rfl fun _ F12 => ?_)
     have F13 : Fr 19 [(5, .int .i64 ((k : Nat) : Int)), (8, .int .i64 ((k : Nat) : Int)), (7, .int .i64 ((s_n : Nat) : Int)), (0, .slice s_a s_n s_c), (1, .func (.func 130) #[] #[.pointer (some ⟨f_b, 0, none⟩)])] _ := F12.cut rfl
     clear F9 F11 F12
     refine s_end (x_normal (wp_seq (wp_region_lit (l_op (f_mv F13 rfl rfl rfl rfl rfl fun _ F14 => ?_)))))
     refine l_op (f_mv F14 rfl rfl rfl rfl rfl fun _ F15 => ?_)
     refine l_op (f_mv F15 rfl rfl rfl rfl rfl fun _ F16 => ?_)
     obtain ⟨B17, O17, x1, ad17, hx1, okx1, ln17, cl17⟩ := Rd.at (Rd.mv (Nat.succ_pos _) V_v_s S7) k (by first | assumption | omega)
     clear ln17
     refine l_op (f_val F16 rfl rfl (r_indexAddr (i := k) ET_22 rfl ((F16.ev 12 rfl).trans (by rw [ad17])) (F16.ev 13 rfl) (by omega) (by first | assumption | omega)) rfl fun _ F18 => ?_)
     refine l_op (f_val (v := .string x1) F18 rfl rfl (r_load (cs := [.string x1]) TI_9 rfl (F18.ev 14 rfl) rfl (fun _ => rfl) (elem_sub (f := 0) cl17 [.string x1] rfl)) rfl fun _ F19 => ?_)
     refine l_op (f_callv F19 CF_130 rfl rfl rfl rfl (F19.ev 11 rfl) (lc (F19.ev 15 rfl) rfl) (impl_spansHave_1_c (H := fun _ => True) (span := x1) (key := f) okx1 h_f (At.pick (is := [0]) S7.at' rfl)) ?_)
     rintro _ w20 ⟨rfl, m20⟩
     refine ⟨_, rfl, fun _ F21 => ?_⟩
     have S20 : Mv _ _ [bx f_b [.string f] 9] _ := At.frame S7.at' [0] rfl m20
     clear m20
     have F22 : Fr 19 [(16, .bool (spanHas x1 f)), (5, .int .i64 ((k : Nat) : Int)), (8, .int .i64 ((k : Nat) : Int)), (7, .int .i64 ((s_n : Nat) : Int)), (0, .slice s_a s_n s_c), (1, .func (.func 130) #[] #[.pointer (some ⟨f_b, 0, none⟩)])] _ := F21.cut rfl
     clear F13 F14 F15 F16 F18 F19 F21
     refine s_end (x_normal (x_condb (b := (spanHas x1 f)) (F22.ev 16 rfl) (fun h23 => ?_) (fun h23 => ?_)))
     · skip
       refine wp_seq (wp_region_lit (l_op (f_mv F22 rfl rfl rfl rfl rfl fun _ F24 => ?_)))
       refine l_op (f_as F24 rfl rfl rfl rfl rfl fun _ F25 => ?_)
       have F26 : Fr 19 [(4, .int .i64 ((k : Nat) : Int))] _ := F25.cut rfl
       clear F22 F24 F25
       refine s_end (x_normal (wp_ret (x_block_ret (x_then_ret (x_then_ret (x_block_ret (x_then_ret ?_)))))))
       refine x_done (v := .int .i64 ((k : Nat) : Int)) F26 (results_1 Try.results122 (.tmp (F26.ev 4 rfl))) ?_
       exact ⟨(by rw [(show ((k : Nat) : Int) = (idxP (fun c : ByteArray => spanHas c f) s) from by exact (idxP_found _ s k _ (by rw [← nth_eq]; exact hx1) (by assumption) (fun q hq y hy => hk_1 q hq y (by rw [nth_eq]; exact hy))).symm)]), (Mv.pick (S7.trans S20) [0] rfl), idxP_ok _ s (by omega)⟩
     · skip
       refine wp_skip (x_block_normal (x_normal (wp_region_lit (l_op (f_val F22 rfl rfl (r_add (z := ((k + 1 : Nat) : Int)) rfl (F22.ev 8 rfl) rfl (by first | rfl | omega) ⟨by first | omega | (unfold i64ok at *; omega), by first | omega | (unfold i64ok at *; omega)⟩) rfl fun _ F27 => ?_)))))
       refine l_op (f_mv F27 rfl rfl rfl rfl rfl fun _ F28 => ?_)
       have F29 : Fr 19 [(8, .int .i64 ((k + 1 : Nat) : Int)), (7, .int .i64 ((s_n : Nat) : Int)), (0, .slice s_a s_n s_c), (1, .func (.func 130) #[] #[.pointer (some ⟨f_b, 0, none⟩)])] _ := F28.cut rfl
       clear F22 F27 F28
       refine s_end ?_
       refine x_normal ⟨k + 1, by omega, F29.cut rfl, ((S7.trans S20).pick [0] rfl), by omega, all_step hk_1 (fun c hc => by obtain rfl := Option.some.inj (hx1.symm.trans hc); assumption)⟩
   · skip
     refine wp_exit (x_then_exit (x_then_exit (x_block_here (x_normal (wp_seq (wp_region_lit (l_op (f_val F9 rfl rfl (r_assign rfl rfl) rfl fun _ F30 => ?_))))))))
     have F31 : Fr 19 [(4, .int .i64 (-1))] _ := F30.cut rfl
     clear F9 F30
     refine s_end (x_normal (wp_ret ?_))
     refine x_done (v := .int .i64 (-1)) F31 (results_1 Try.results122 (.tmp (F31.ev 4 rfl))) ?_
     exact ⟨(by rw [(show (-1) = (idxP (fun c : ByteArray => spanHas c f) s) from by exact (idxP_none _ s (fun q hq y hy => hk_1 q (by omega) y (by rw [nth_eq]; exact hy))).symm)]), (Mv.pick S7 [0] rfl), idxP_ok _ s (by omega)⟩
theorem ContainsFunc_impl_spansHave_1_c {w : World} {H : Nat → Prop} {s : List ByteArray} {s_a : Option Addr} {s_n s_c : Nat} {f_b : Nat} {f : ByteArray} (v_s : Rd 1 encS okS H w (.slice s_a s_n s_c) s) (h_f : okS f) (hA : At w [bx f_b [.string f] 9]) (hD : ∀ b, H b → ¬ fps [bx f_b [.string f] 9] b) :
    Calls Try.prog 83 #[.slice s_a s_n s_c, .func (.func 130) #[] #[.pointer (some ⟨f_b, 0, none⟩)]] w fun e w' => e = .returned (.bool (s.any (fun c : ByteArray => spanHas c f))) ∧ Mv [bx f_b [.string f] 9] w [bx f_b [.string f] 9] w' := by
 have V_v_s : Rd 1 encS okS (V H w [bx f_b [.string f] 9]) w (.slice s_a s_n s_c) s := Rd.start v_s hD
 obtain ⟨ln_s, le_s, mx_s, ni_s⟩ := Rd.inv v_s
 refine calls_enter 9 Try.func83 rfl Try.ntmps83 (Nat.le_of_ble_eq_true rfl) (fun _ F0i => ?_)
 have F0 : Fr 9 [(0, .slice s_a s_n s_c), (1, .func (.func 130) #[] #[.pointer (some ⟨f_b, 0, none⟩)])] _ := F0i
 clear F0i
 refine wp_seq (wp_region_lit (l_op (f_val F0 rfl rfl (r_assign rfl rfl) rfl fun _ F1 => ?_)))
 have F2 : Fr 9 [(4, .bool false), (0, .slice s_a s_n s_c), (1, .func (.func 130) #[] #[.pointer (some ⟨f_b, 0, none⟩)])] _ := F1.cut rfl
 clear F0 F1
 refine s_end (x_normal (wp_seq (wp_region_lit (l_op (f_mv F2 rfl rfl rfl rfl rfl fun _ F3 => ?_)))))
 refine l_op (f_mv F3 rfl rfl rfl rfl rfl fun _ F4 => ?_)
 refine l_op (f_call F4 CF_122 rfl rfl rfl rfl (lc (F4.ev 5 rfl) (lc (F4.ev 6 rfl) rfl)) (IndexFuncS_impl_spansHave_1_c (s := s) (f := f) V_v_s h_f (At.pick (is := [0]) hA rfl) (V_off (is := [0]))) ?_)
 rintro _ w5 ⟨rfl, m5, q5_0⟩
 refine ⟨_, rfl, fun _ F6 => ?_⟩
 have S5 : Mv _ _ [bx f_b [.string f] 9] _ := At.frame hA [0] rfl m5
 clear m5
 refine l_op (f_val F6 rfl rfl (r_cmp (b := decide ((idxP (fun c : ByteArray => spanHas c f) s) ≥ 0)) (.inr (.inr (.inr (.inr (.inr rfl))))) rfl (F6.ev 7 rfl) rfl (dec_of (by omega))) rfl fun _ F7 => ?_)
 refine l_op (f_as F7 rfl rfl rfl rfl rfl fun _ F8 => ?_)
 have F9 : Fr 9 [(4, .bool (decide ((idxP (fun c : ByteArray => spanHas c f) s) ≥ 0)))] _ := F8.cut rfl
 clear F2 F3 F4 F6 F7 F8
 refine s_end (x_normal (wp_ret ?_))
 refine x_done (v := .bool (decide ((idxP (fun c : ByteArray => spanHas c f) s) ≥ 0))) F9 (results_1 Try.results83 (.tmp (F9.ev 4 rfl))) ?_
 exact ⟨(by rw [(show (decide ((idxP (fun c : ByteArray => spanHas c f) s) ≥ 0)) = (s.any (fun c : ByteArray => spanHas c f)) from by exact any_idx)]), (Mv.pick S5 [0] rfl)⟩
theorem impl_spansHave_c {w : World} {H : Nat → Prop} {list : List ByteArray} {list_a : Option Addr} {list_n list_c : Nat} {key : ByteArray} (v_list : Rd 1 encS okS H w (.slice list_a list_n list_c) list) (h_key : okS key) :
    Calls Try.prog 87 #[.slice list_a list_n list_c, .string key] w fun e w' => e = .returned (.bool (list.any fun c : ByteArray => spanHas c key)) ∧ Mv [] w [] w' := by
 have V_v_list : Rd 1 encS okS (V H w []) w (.slice list_a list_n list_c) list := Rd.start v_list (fun _ _ => fps_nil _)
 obtain ⟨ln_list, le_list, mx_list, ni_list⟩ := Rd.inv v_list
 refine calls_enter 8 Try.func87 rfl Try.ntmps87 (Nat.le_of_ble_eq_true rfl) (fun _ F0i => ?_)
 have F0 : Fr 8 [(0, .slice list_a list_n list_c), (1, .string key)] _ := F0i
 clear F0i
 refine wp_seq (wp_region_lit (l_op (f_box F0 (At.nil w) rfl rfl rfl (F0.ev 1 rfl) rfl rfl fun b1 _ w1 F2 S1 => ?_)))
 refine l_op (f_val F2 rfl rfl (r_assign rfl rfl) rfl fun _ F3 => ?_)
 have F4 : Fr 8 [(4, .bool false), (3, .pointer (some ⟨b1, 0, none⟩)), (0, .slice list_a list_n list_c)] _ := F3.cut rfl
 clear F0 F2 F3
 have T5 : Mv _ _ [bx b1 [.string key] 9] _ := S1
 refine s_end (x_normal (wp_seq (wp_region_lit (l_op (f_mv F4 rfl rfl rfl rfl rfl fun _ F6 => ?_)))))
 refine l_op (f_val F6 rfl rfl (r_makeFuncL rfl (lc (F6.ev 3 rfl) rfl)) rfl fun _ F7 => ?_)
 refine l_op (f_call F7 CF_83 rfl rfl rfl rfl (lc (F7.ev 5 rfl) (lc (F7.ev 6 rfl) rfl)) (ContainsFunc_impl_spansHave_1_c (s := list) (f := key) (Rd.mv (Nat.succ_pos _) V_v_list T5) h_key (At.pick (is := [0]) T5.at' rfl) (V_off (is := [0]))) ?_)
 rintro _ w8 ⟨rfl, m8⟩
 refine ⟨_, rfl, fun _ F9 => ?_⟩
 have S8 : Mv _ _ [bx b1 [.string key] 9] _ := At.frame T5.at' [0] rfl m8
 clear m8
 refine l_op (f_as F9 rfl rfl rfl rfl rfl fun _ F10 => ?_)
 have F11 : Fr 8 [(4, .bool (list.any (fun c : ByteArray => spanHas c key)))] _ := F10.cut rfl
 clear F4 F6 F7 F9 F10
 refine s_end (x_normal (wp_ret ?_))
 refine x_done (v := .bool (list.any (fun c : ByteArray => spanHas c key))) F11 (results_1 Try.results87 (.tmp (F11.ev 4 rfl))) ?_
 exact ⟨rfl, (Mv.pick (T5.trans S8) [] rfl)⟩
theorem impl_Covers_c {w : World} {H : Nat → Prop} {list : List ByteArray} {list_a : Option Addr} {list_n list_c : Nat} {keys : List ByteArray} {keys_a : Option Addr} {keys_n keys_c : Nat} (v_list : Rd 1 encS okS H w (.slice list_a list_n list_c) list) (v_keys : Rd 1 encS okS H w (.slice keys_a keys_n keys_c) keys) :
    Calls Try.prog 35 #[.slice list_a list_n list_c, .slice keys_a keys_n keys_c] w fun e w' => e = .returned (.bool (coversL list keys)) ∧ Mv [] w [] w' := by
 have V_v_list : Rd 1 encS okS (V H w []) w (.slice list_a list_n list_c) list := Rd.start v_list (fun _ _ => fps_nil _)
 obtain ⟨ln_list, le_list, mx_list, ni_list⟩ := Rd.inv v_list
 have V_v_keys : Rd 1 encS okS (V H w []) w (.slice keys_a keys_n keys_c) keys := Rd.start v_keys (fun _ _ => fps_nil _)
 obtain ⟨ln_keys, le_keys, mx_keys, ni_keys⟩ := Rd.inv v_keys
 refine calls_enter 18 Try.func35 rfl Try.ntmps35 (Nat.le_of_ble_eq_true rfl) (fun _ F0i => ?_)
 have F0 : Fr 18 [(0, .slice list_a list_n list_c), (1, .slice keys_a keys_n keys_c)] _ := F0i
 clear F0i
 refine wp_seq (wp_region_lit (l_op (f_val F0 rfl rfl (r_assign rfl rfl) rfl fun _ F1 => ?_)))
 have F2 : Fr 18 [(4, .bool false), (0, .slice list_a list_n list_c), (1, .slice keys_a keys_n keys_c)] _ := F1.cut rfl
 clear F0 F1
 refine s_end (x_normal (wp_seq (wp_seq (wp_region_lit (l_op (f_mv F2 rfl rfl rfl rfl rfl fun _ F3 => ?_))))))
 refine l_op (f_val F3 rfl rfl (r_len Try.underlying22 rfl (F3.ev 7 rfl)) rfl fun _ F4 => ?_)
 refine l_op (f_val F4 rfl rfl (r_move rfl rfl) rfl fun _ F5 => ?_)
 have F6 : Fr 18 [(9, .int .i64 0), (8, .int .i64 ((keys_n : Nat) : Int)), (7, .slice keys_a keys_n keys_c), (0, .slice list_a list_n list_c)] _ := F5.cut rfl
 clear F2 F3 F4 F5
 refine s_end (x_normal (wp_block ?_))
 refine x_loop (fun (k : Nat) aZ wZ => Fr 18 [(9, .int .i64 ((k : Nat) : Int)), (8, .int .i64 ((keys_n : Nat) : Int)), (7, .slice keys_a keys_n keys_c), (0, .slice list_a list_n list_c)] aZ ∧ Mv [] w [] wZ ∧ (k ≤ keys_n) ∧ (∀ j, j < k → ∀ x, nth keys j = some x → (list.any fun s => spanHas s x) = true)) (fun (k : Nat) => keys_n - k) (0) ?_ ?_
 · exact ⟨F6.cut rfl, (Mv.refl (At.nil w)), by omega, all_none⟩
 · rintro k a7 w7 ⟨F7, S7, hk_0, hk_1⟩
   refine wp_seq (wp_region_lit (l_op (f_val F7 rfl rfl (r_cmp (b := decide (k < keys_n)) (.inr (.inr (.inl rfl))) rfl (F7.ev 9 rfl) (F7.ev 8 rfl) (dec_of (by omega))) rfl fun _ F8 => ?_)))
   have F9 : Fr 18 [(10, .bool (decide (k < keys_n))), (9, .int .i64 ((k : Nat) : Int)), (8, .int .i64 ((keys_n : Nat) : Int)), (7, .slice keys_a keys_n keys_c), (0, .slice list_a list_n list_c)] _ := F8.cut rfl
   clear F7 F8
   refine s_end (x_normal (wp_seq (x_cond (p := k < keys_n) (F9.ev 10 rfl) (fun h10 => ?_) (fun h10 => ?_))))
   · skip
     refine wp_skip (x_normal (wp_seq (wp_block (wp_seq (wp_region_lit ?_)))))
     obtain ⟨B11, O11, x1, ad11, hx1, okx1, ln11, cl11⟩ := Rd.at (Rd.mv (Nat.succ_pos _) V_v_keys S7) k (by first | assumption | omega)
     clear ln11
     refine l_op (f_val F9 rfl rfl (r_indexAddr (i := k) ET_22 rfl ((F9.ev 7 rfl).trans (by rw [ad11])) (F9.ev 9 rfl) (by omega) (by first | assumption | omega)) rfl fun _ F12 => ?_)
     refine l_op (f_val (v := .string x1) F12 rfl rfl (r_load (cs := [.string x1]) TI_9 rfl (F12.ev 11 rfl) rfl (fun _ => rfl) (elem_sub (f := 0) cl11 [.string x1] rfl)) rfl fun _ F13 => ?_)
     refine l_op (f_as F13 rfl rfl rfl rfl rfl fun _ F14 => ?_)
     have F15 : Fr 18 [(6, .string x1), (9, .int .i64 ((k : Nat) : Int)), (8, .int .i64 ((keys_n : Nat) : Int)), (7, .slice keys_a keys_n keys_c), (0, .slice list_a list_n list_c)] _ := F14.cut rfl
     clear F9 F12 F13 F14
     refine s_end (x_normal (wp_seq (wp_region_lit (l_op (f_mv F15 rfl rfl rfl rfl rfl fun _ F16 => ?_)))))
     refine l_op (f_mv F16 rfl rfl rfl rfl rfl fun _ F17 => ?_)
     refine l_op (f_call F17 CF_87 rfl rfl rfl rfl (lc (F17.ev 13 rfl) (lc (F17.ev 14 rfl) rfl)) (impl_spansHave_c (list := list) (key := x1) (Rd.mv (Nat.succ_pos _) V_v_list S7) okx1) ?_)
     rintro _ w18 ⟨rfl, m18⟩
     refine ⟨_, rfl, fun _ F19 => ?_⟩
     have S18 := At.frame0 S7.at' m18
     clear m18
     refine l_op (f_val F19 rfl rfl (r_not rfl (F19.ev 15 rfl)) rfl fun _ F20 => ?_)
     have F21 : Fr 18 [(16, .bool (!(list.any fun c : ByteArray => spanHas c x1))), (9, .int .i64 ((k : Nat) : Int)), (8, .int .i64 ((keys_n : Nat) : Int)), (7, .slice keys_a keys_n keys_c), (0, .slice list_a list_n list_c)] _ := F20.cut rfl
     clear F15 F16 F17 F19 F20
     have T22 : Mv _ _ [] _ := S18
     refine s_end (x_normal (x_condb (b := (!(list.any fun c : ByteArray => spanHas c x1))) (F21.ev 16 rfl) (fun h23 => ?_) (fun h23 => ?_)))
     · skip
       refine wp_seq (wp_region_lit (l_op (f_val F21 rfl rfl (r_assign rfl rfl) rfl fun _ F24 => ?_)))
       have F25 : Fr 18 [(4, .bool false)] _ := F24.cut rfl
       clear F21 F24
       refine s_end (x_normal (wp_ret (x_block_ret (x_then_ret (x_then_ret (x_block_ret (x_then_ret ?_)))))))
       refine x_done (v := .bool false) F25 (results_1 Try.results35 (.tmp (F25.ev 4 rfl))) ?_
       exact ⟨(by rw [(show false = (coversL list keys) from by exact (all_bad hx1 (nt (by assumption))).symm)]), (Mv.pick (S7.trans T22) [] rfl)⟩
     · skip
       refine wp_skip (x_block_normal (x_normal (wp_region_lit (l_op (f_val F21 rfl rfl (r_add (z := ((k + 1 : Nat) : Int)) rfl (F21.ev 9 rfl) rfl (by first | rfl | omega) ⟨by first | omega | (unfold i64ok at *; omega), by first | omega | (unfold i64ok at *; omega)⟩) rfl fun _ F26 => ?_)))))
       refine l_op (f_mv F26 rfl rfl rfl rfl rfl fun _ F27 => ?_)
       have F28 : Fr 18 [(9, .int .i64 ((k + 1 : Nat) : Int)), (8, .int .i64 ((keys_n : Nat) : Int)), (7, .slice keys_a keys_n keys_c), (0, .slice list_a list_n list_c)] _ := F27.cut rfl
       clear F21 F26 F27
       refine s_end ?_
       refine x_normal ⟨k + 1, by omega, F28.cut rfl, ((S7.trans T22).pick [] rfl), by omega, all_step hk_1 (fun c hc => by obtain rfl := Option.some.inj (hx1.symm.trans hc); exact nf (by assumption))⟩
   · skip
     refine wp_exit (x_then_exit (x_then_exit (x_block_here (x_normal (wp_seq (wp_region_lit (l_op (f_val F9 rfl rfl (r_assign rfl rfl) rfl fun _ F29 => ?_))))))))
     have F30 : Fr 18 [(4, .bool true)] _ := F29.cut rfl
     clear F9 F29
     refine s_end (x_normal (wp_ret ?_))
     refine x_done (v := .bool true) F30 (results_1 Try.results35 (.tmp (F30.ev 4 rfl))) ?_
     exact ⟨(by rw [(show true = (coversL list keys) from by exact (all_good (by omega) hk_1).symm)]), (Mv.pick S7 [] rfl)⟩
theorem spec_Covers_c {w : World} {H : Nat → Prop} {list : List ByteArray} {list_a : Option Addr} {list_n list_c : Nat} {keys : List ByteArray} {keys_a : Option Addr} {keys_n keys_c : Nat} (v_list : Rd 1 encS okS H w (.slice list_a list_n list_c) list) (v_keys : Rd 1 encS okS H w (.slice keys_a keys_n keys_c) keys) :
    Calls Try.prog 36 #[.slice list_a list_n list_c, .slice keys_a keys_n keys_c] w fun e w' => e = .returned (.bool (coversL list keys)) ∧ Mv [] w [] w' := by
 have V_v_list : Rd 1 encS okS (V H w []) w (.slice list_a list_n list_c) list := Rd.start v_list (fun _ _ => fps_nil _)
 obtain ⟨ln_list, le_list, mx_list, ni_list⟩ := Rd.inv v_list
 have V_v_keys : Rd 1 encS okS (V H w []) w (.slice keys_a keys_n keys_c) keys := Rd.start v_keys (fun _ _ => fps_nil _)
 obtain ⟨ln_keys, le_keys, mx_keys, ni_keys⟩ := Rd.inv v_keys
 refine calls_enter 34 Try.func36 rfl Try.ntmps36 (Nat.le_of_ble_eq_true rfl) (fun _ F0i => ?_)
 have F0 : Fr 34 [(0, .slice list_a list_n list_c), (1, .slice keys_a keys_n keys_c)] _ := F0i
 clear F0i
 refine wp_seq (wp_region_lit (l_op (f_val F0 rfl rfl (r_assign rfl rfl) rfl fun _ F1 => ?_)))
 have F2 : Fr 34 [(4, .bool false), (0, .slice list_a list_n list_c), (1, .slice keys_a keys_n keys_c)] _ := F1.cut rfl
 clear F0 F1
 refine s_end (x_normal (wp_seq (wp_seq (wp_region_lit (l_op (f_val F2 rfl rfl (r_assign rfl rfl) rfl fun _ F3 => ?_))))))
 have F4 : Fr 34 [(5, .int .i64 0), (0, .slice list_a list_n list_c), (1, .slice keys_a keys_n keys_c)] _ := F3.cut rfl
 clear F2 F3
 refine s_end (x_normal (wp_block ?_))
 refine x_loop (fun (k : Nat) aZ wZ => Fr 34 [(5, .int .i64 ((k : Nat) : Int)), (0, .slice list_a list_n list_c), (1, .slice keys_a keys_n keys_c)] aZ ∧ Mv [] w [] wZ ∧ (k ≤ keys_n) ∧ (∀ j, j < k → ∀ x, nth keys j = some x → (list.any fun s => spanHas s x) = true)) (fun (k : Nat) => keys_n - k) (0) ?_ ?_
 · exact ⟨F4.cut rfl, (Mv.refl (At.nil w)), by omega, all_none⟩
 · rintro k a5 w5 ⟨F5, S5, hk_0, hk_1⟩
   refine wp_seq (wp_seq (wp_region_lit (l_op (f_mv F5 rfl rfl rfl rfl rfl fun _ F6 => ?_))))
   refine l_op (f_mv F6 rfl rfl rfl rfl rfl fun _ F7 => ?_)
   refine l_op (f_val F7 rfl rfl (r_len Try.underlying22 rfl (F7.ev 9 rfl)) rfl fun _ F8 => ?_)
   refine l_op (f_val F8 rfl rfl (r_cmp (b := decide (k < keys_n)) (.inr (.inr (.inl rfl))) rfl (F8.ev 8 rfl) (F8.ev 10 rfl) (dec_of (by omega))) rfl fun _ F9 => ?_)
   have F10 : Fr 34 [(11, .bool (decide (k < keys_n))), (5, .int .i64 ((k : Nat) : Int)), (0, .slice list_a list_n list_c), (1, .slice keys_a keys_n keys_c)] _ := F9.cut rfl
   clear F5 F6 F7 F8 F9
   refine s_end (x_normal (x_cond (p := k < keys_n) (F10.ev 11 rfl) (fun h11 => ?_) (fun h11 => ?_)))
   · skip
     refine wp_skip (x_normal (wp_seq (wp_block (wp_seq (wp_region_lit (l_op (f_val F10 rfl rfl (r_assign rfl rfl) rfl fun _ F12 => ?_)))))))
     have F13 : Fr 34 [(6, .bool false), (5, .int .i64 ((k : Nat) : Int)), (0, .slice list_a list_n list_c), (1, .slice keys_a keys_n keys_c)] _ := F12.cut rfl
     clear F10 F12
     refine s_end (x_normal (wp_seq (wp_seq (wp_region_lit (l_op (f_val F13 rfl rfl (r_assign rfl rfl) rfl fun _ F14 => ?_))))))
     have F15 : Fr 34 [(7, .int .i64 0), (6, .bool false), (5, .int .i64 ((k : Nat) : Int)), (0, .slice list_a list_n list_c), (1, .slice keys_a keys_n keys_c)] _ := F14.cut rfl
     clear F13 F14
     refine s_end (x_normal (wp_block ?_))
     refine x_loop (fun (q : Nat) aZ wZ => ∃ (ii : Bool), Fr 34 [(7, .int .i64 ((q : Nat) : Int)), (6, .bool ii), (5, .int .i64 ((k : Nat) : Int)), (0, .slice list_a list_n list_c), (1, .slice keys_a keys_n keys_c)] aZ ∧ Mv [] w5 [] wZ ∧ (q ≤ list_n) ∧ (∀ x, nth keys k = some x → ii = (list.take q).any fun s => spanHas s x)) (fun (q : Nat) => list_n - q) (0) ?_ ?_
     · exact ⟨false, F15.cut rfl, (Mv.refl S5.at'), by omega, fun x _ => rfl⟩
     · rintro q a16 w16 ⟨ii, F16, S16, hq_0, hq_1⟩
       refine wp_seq (wp_seq (wp_region_lit (l_op (f_mv F16 rfl rfl rfl rfl rfl fun _ F17 => ?_))))
       refine l_op (f_mv F17 rfl rfl rfl rfl rfl fun _ F18 => ?_)
       refine l_op (f_val F18 rfl rfl (r_len Try.underlying22 rfl (F18.ev 15 rfl)) rfl fun _ F19 => ?_)
       refine l_op (f_val F19 rfl rfl (r_cmp (b := decide (q < list_n)) (.inr (.inr (.inl rfl))) rfl (F19.ev 14 rfl) (F19.ev 16 rfl) (dec_of (by omega))) rfl fun _ F20 => ?_)
       have F21 : Fr 34 [(17, .bool (decide (q < list_n))), (7, .int .i64 ((q : Nat) : Int)), (6, .bool ii), (5, .int .i64 ((k : Nat) : Int)), (0, .slice list_a list_n list_c), (1, .slice keys_a keys_n keys_c)] _ := F20.cut rfl
       clear F16 F17 F18 F19 F20
       refine s_end (x_normal (x_cond (p := q < list_n) (F21.ev 17 rfl) (fun h22 => ?_) (fun h22 => ?_)))
       · skip
         refine wp_skip (x_normal (wp_seq (wp_block ?_)))
         rcases Bool.eq_false_or_eq_true ii with h24 | h24
         · skip
           obtain ⟨x1, hx1, okx1⟩ := Rd.elem (Rd.mv (Nat.succ_pos _) V_v_list (S5.trans S16)) q (by first | assumption | omega)
           obtain ⟨x2, hx2, okx2⟩ := Rd.elem (Rd.mv (Nat.succ_pos _) V_v_keys (S5.trans S16)) k (by first | assumption | omega)
           refine x_draw (fun aZ wZ => Fr 34 [(0, .slice list_a list_n list_c), (1, .slice keys_a keys_n keys_c), (5, .int .i64 ((k : Nat) : Int)), (6, .bool true), (7, .int .i64 ((q : Nat) : Int))] aZ ∧ Mv [] w16 [] wZ) [] mixed S16.at' (listed := #[false, false, false, false, false, false, false, false, false, false, false, false, false]) rfl (fun w26 S26 => ?_) [] rfl ?_
           · skip
             refine g_take F21 rfl (i := 0) (listed' := #[true, false, false, false, false, false, false, false, false, false, false, false, false]) rfl (by kernel_rfl) (by kernel_rfl) (by kernel_rfl) (fun _ _ _ h => h) (Sd.of (Mv.refl S26.at') [] rfl) rfl rfl rfl rfl (fun _ hz => (r_move rfl (F21.ev 6 rfl))) fun _ F27 => ?_
             refine g_take F27 rfl (i := 1) (listed' := #[true, true, false, false, false, false, false, false, false, false, false, false, false]) rfl (by kernel_rfl) (by kernel_rfl) (by kernel_rfl) (fun _ _ _ h => h) (Sd.of (Mv.refl S26.at') [] rfl) rfl rfl rfl rfl (fun _ hz => (r_move rfl (F27.ev 20 rfl))) fun _ F28 => ?_
             rw [h24] at F28
             refine g_skip F28 rfl (i := 2) (listed' := #[true, true, true, false, false, false, false, false, false, false, false, false, false]) rfl (by kernel_rfl) (by kernel_rfl) (by kernel_rfl) (fun _ _ _ h => h) (Sd.of (Mv.refl S26.at') [] rfl) rfl (wanted_g F28 rfl rfl rfl rfl) rfl rfl fun _ F29 => ?_
             refine g_skip F29 rfl (i := 3) (listed' := #[true, true, true, true, false, false, false, false, false, false, false, false, false]) rfl (by kernel_rfl) (by kernel_rfl) (by kernel_rfl) (fun _ _ _ h => h) (Sd.of (Mv.refl S26.at') [] rfl) rfl (wanted_g F29 rfl rfl rfl rfl) rfl rfl fun _ F30 => ?_
             refine g_skip F30 rfl (i := 4) (listed' := #[true, true, true, true, true, false, false, false, false, false, false, false, false]) rfl (by kernel_rfl) (by kernel_rfl) (by kernel_rfl) (fun _ _ _ h => h) (Sd.of (Mv.refl S26.at') [] rfl) rfl (wanted_g F30 rfl rfl rfl rfl) rfl rfl fun _ F31 => ?_
             refine g_skip F31 rfl (i := 5) (listed' := #[true, true, true, true, true, true, false, false, false, false, false, false, false]) rfl (by kernel_rfl) (by kernel_rfl) (by kernel_rfl) (fun _ _ _ h => h) (Sd.of (Mv.refl S26.at') [] rfl) rfl (wanted_g F31 rfl rfl rfl rfl) rfl rfl fun _ F32 => ?_
             refine g_skip F32 rfl (i := 6) (listed' := #[true, true, true, true, true, true, true, false, false, false, false, false, false]) rfl (by kernel_rfl) (by kernel_rfl) (by kernel_rfl) (fun _ _ _ h => h) (Sd.of (Mv.refl S26.at') [] rfl) rfl (wanted_g F32 rfl rfl rfl rfl) rfl rfl fun _ F33 => ?_
             refine g_skip F33 rfl (i := 7) (listed' := #[true, true, true, true, true, true, true, true, false, false, false, false, false]) rfl (by kernel_rfl) (by kernel_rfl) (by kernel_rfl) (fun _ _ _ h => h) (Sd.of (Mv.refl S26.at') [] rfl) rfl (wanted_g F33 rfl rfl rfl rfl) rfl rfl fun _ F34 => ?_
             refine g_skip F34 rfl (i := 8) (listed' := #[true, true, true, true, true, true, true, true, true, false, false, false, false]) rfl (by kernel_rfl) (by kernel_rfl) (by kernel_rfl) (fun _ _ _ h => h) (Sd.of (Mv.refl S26.at') [] rfl) rfl (wanted_g F34 rfl rfl rfl rfl) rfl rfl fun _ F35 => ?_
             refine g_skip F35 rfl (i := 9) (listed' := #[true, true, true, true, true, true, true, true, true, true, false, false, false]) rfl (by kernel_rfl) (by kernel_rfl) (by kernel_rfl) (fun _ _ _ h => h) (Sd.of (Mv.refl S26.at') [] rfl) rfl (wanted_g F35 rfl rfl rfl rfl) rfl rfl fun _ F36 => ?_
             refine g_skip F36 rfl (i := 10) (listed' := #[true, true, true, true, true, true, true, true, true, true, true, false, false]) rfl (by kernel_rfl) (by kernel_rfl) (by kernel_rfl) (fun _ _ _ h => h) (Sd.of (Mv.refl S26.at') [] rfl) rfl (wanted_g F36 rfl rfl rfl rfl) rfl rfl fun _ F37 => ?_
             refine g_take F37 rfl (i := 11) (listed' := #[true, true, true, true, true, true, true, true, true, true, true, true, false]) rfl (by kernel_rfl) (by kernel_rfl) (by kernel_rfl) (fun _ _ _ h => h) (Sd.of (Mv.refl S26.at') [] rfl) rfl rfl rfl rfl (fun _ hz => (r_pick (b := true) rfl (F37.ev 21 rfl) rfl)) fun _ F38 => ?_
             refine g_take F38 rfl (i := 12) (listed' := #[true, true, true, true, true, true, true, true, true, true, true, true, true]) rfl (by kernel_rfl) (by kernel_rfl) (by kernel_rfl) (fun _ _ _ h => h) (Sd.of (Mv.refl S26.at') [] rfl) rfl rfl rfl rfl (fun _ hz => (r_assign rfl (F38.ev 31 rfl))) fun _ F39 => ?_
             refine wpAnyH_done (by kernel_rfl) (x_normal ?_) _
             exact ⟨F39.cut rfl, (S26.pick [] rfl)⟩
           · rintro a40 w40 ⟨F40, S40⟩
             refine x_block_normal (x_normal (wp_region_lit (l_op (f_mv F40 rfl rfl rfl rfl rfl fun _ F41 => ?_))))
             refine l_op (f_val F41 rfl rfl (r_add (z := ((q + 1 : Nat) : Int)) rfl (F41.ev 18 rfl) rfl (by first | rfl | omega) ⟨by first | omega | (unfold i64ok at *; omega), by first | omega | (unfold i64ok at *; omega)⟩) rfl fun _ F42 => ?_)
             refine l_op (f_as F42 rfl rfl rfl rfl rfl fun _ F43 => ?_)
             have F44 : Fr 34 [(7, .int .i64 ((q + 1 : Nat) : Int)), (0, .slice list_a list_n list_c), (1, .slice keys_a keys_n keys_c), (5, .int .i64 ((k : Nat) : Int)), (6, .bool true)] _ := F43.cut rfl
             clear F40 F41 F42 F43
             refine s_end ?_
             refine x_normal ⟨q + 1, by omega, true, F44.cut rfl, ((S16.trans S40).pick [] rfl), by omega, fun x hx => by first | exact any_more (hq_1 x hx) (by assumption) | (obtain rfl := Option.some.inj (hx2.symm.trans hx); exact any_step (hq_1 _ hx) (by assumption) hx1)⟩
         · skip
           obtain ⟨x1, hx1, okx1⟩ := Rd.elem (Rd.mv (Nat.succ_pos _) V_v_list (S5.trans S16)) q (by first | assumption | omega)
           obtain ⟨x2, hx2, okx2⟩ := Rd.elem (Rd.mv (Nat.succ_pos _) V_v_keys (S5.trans S16)) k (by first | assumption | omega)
           refine x_draw (fun aZ wZ => Fr 34 [(0, .slice list_a list_n list_c), (1, .slice keys_a keys_n keys_c), (5, .int .i64 ((k : Nat) : Int)), (6, .bool (spanHas x1 x2)), (7, .int .i64 ((q : Nat) : Int))] aZ ∧ Mv [] w16 [] wZ) [] mixed S16.at' (listed := #[false, false, false, false, false, false, false, false, false, false, false, false, false]) rfl (fun w46 S46 => ?_) [] rfl ?_
           · skip
             refine g_take F21 rfl (i := 0) (listed' := #[true, false, false, false, false, false, false, false, false, false, false, false, false]) rfl (by kernel_rfl) (by kernel_rfl) (by kernel_rfl) (fun _ _ _ h => h) (Sd.of (Mv.refl S46.at') [] rfl) rfl rfl rfl rfl (fun _ hz => (r_move rfl (F21.ev 6 rfl))) fun _ F47 => ?_
             refine g_take F47 rfl (i := 1) (listed' := #[true, true, false, false, false, false, false, false, false, false, false, false, false]) rfl (by kernel_rfl) (by kernel_rfl) (by kernel_rfl) (fun _ _ _ h => h) (Sd.of (Mv.refl S46.at') [] rfl) rfl rfl rfl rfl (fun _ hz => (r_move rfl (F47.ev 20 rfl))) fun _ F48 => ?_
             rw [h24] at F48
             refine g_take F48 rfl (i := 2) (listed' := #[true, true, true, false, false, false, false, false, false, false, false, false, false]) rfl (by kernel_rfl) (by kernel_rfl) (by kernel_rfl) (fun _ _ _ h => h) (Sd.of (Mv.refl S46.at') [] rfl) rfl (wanted_g F48 rfl rfl rfl rfl) rfl rfl (fun _ hz => (r_move rfl (F48.ev 0 rfl))) fun _ F49 => ?_
             refine g_take F49 rfl (i := 3) (listed' := #[true, true, true, true, false, false, false, false, false, false, false, false, false]) rfl (by kernel_rfl) (by kernel_rfl) (by kernel_rfl) (fun _ _ _ h => h) (Sd.of (Mv.refl S46.at') [] rfl) rfl (wanted_g F49 rfl rfl rfl rfl) rfl rfl (fun _ hz => (r_move rfl (F49.ev 7 rfl))) fun _ F50 => ?_
             obtain ⟨B51, O51, y51, ad51, hy51, oky51, ln51, cl51⟩ := Rd.atK (Nat.succ_pos _) (Rd.mv (Nat.succ_pos _) V_v_list (S5.trans (S16.trans S46))) q (by first | assumption | omega)
             clear ln51
             obtain rfl := Option.some.inj (hx1.symm.trans hy51)
             clear hy51 oky51
             refine g_take F50 rfl (i := 4) (listed' := #[true, true, true, true, true, false, false, false, false, false, false, false, false]) rfl (by kernel_rfl) (by kernel_rfl) (by kernel_rfl) (fun _ _ _ h => h) (Sd.of (Mv.refl S46.at') [] rfl) rfl (wanted_g F50 rfl rfl rfl rfl) rfl rfl (fun _ hz => (r_indexAddr (i := q) ET_22 rfl ((F50.ev 22 rfl).trans (by rw [ad51])) (F50.ev 23 rfl) (by omega) (by first | assumption | omega))) fun _ F52 => ?_
             refine g_take (v := .string x1) F52 rfl (i := 5) (listed' := #[true, true, true, true, true, true, false, false, false, false, false, false, false]) rfl (by kernel_rfl) (by kernel_rfl) (by kernel_rfl) (fun _ _ _ h => h) (Sd.of (Mv.refl S46.at') [] rfl) rfl (wanted_g F52 rfl rfl rfl rfl) rfl rfl (fun _ hz => (r_load (cs := [.string x1]) TI_9 rfl (F52.ev 24 rfl) rfl (fun _ => rfl) (elem_sub (f := 0) (cl51 _ hz.kp) [.string x1] rfl))) fun _ F53 => ?_
             refine g_take F53 rfl (i := 6) (listed' := #[true, true, true, true, true, true, true, false, false, false, false, false, false]) rfl (by kernel_rfl) (by kernel_rfl) (by kernel_rfl) (fun _ _ _ h => h) (Sd.of (Mv.refl S46.at') [] rfl) rfl (wanted_g F53 rfl rfl rfl rfl) rfl rfl (fun _ hz => (r_move rfl (F53.ev 1 rfl))) fun _ F54 => ?_
             refine g_take F54 rfl (i := 7) (listed' := #[true, true, true, true, true, true, true, true, false, false, false, false, false]) rfl (by kernel_rfl) (by kernel_rfl) (by kernel_rfl) (fun _ _ _ h => h) (Sd.of (Mv.refl S46.at') [] rfl) rfl (wanted_g F54 rfl rfl rfl rfl) rfl rfl (fun _ hz => (r_move rfl (F54.ev 5 rfl))) fun _ F55 => ?_
             obtain ⟨B56, O56, y56, ad56, hy56, oky56, ln56, cl56⟩ := Rd.atK (Nat.succ_pos _) (Rd.mv (Nat.succ_pos _) V_v_keys (S5.trans (S16.trans S46))) k (by first | assumption | omega)
             clear ln56
             obtain rfl := Option.some.inj (hx2.symm.trans hy56)
             clear hy56 oky56
             refine g_take F55 rfl (i := 8) (listed' := #[true, true, true, true, true, true, true, true, true, false, false, false, false]) rfl (by kernel_rfl) (by kernel_rfl) (by kernel_rfl) (fun _ _ _ h => h) (Sd.of (Mv.refl S46.at') [] rfl) rfl (wanted_g F55 rfl rfl rfl rfl) rfl rfl (fun _ hz => (r_indexAddr (i := k) ET_22 rfl ((F55.ev 26 rfl).trans (by rw [ad56])) (F55.ev 27 rfl) (by omega) (by first | assumption | omega))) fun _ F57 => ?_
             refine g_take (v := .string x2) F57 rfl (i := 9) (listed' := #[true, true, true, true, true, true, true, true, true, true, false, false, false]) rfl (by kernel_rfl) (by kernel_rfl) (by kernel_rfl) (fun _ _ _ h => h) (Sd.of (Mv.refl S46.at') [] rfl) rfl (wanted_g F57 rfl rfl rfl rfl) rfl rfl (fun _ hz => (r_load (cs := [.string x2]) TI_9 rfl (F57.ev 28 rfl) rfl (fun _ => rfl) (elem_sub (f := 0) (cl56 _ hz.kp) [.string x2] rfl))) fun _ F58 => ?_
             refine d_one (i := 10) (listed' := #[true, true, true, true, true, true, true, true, true, true, true, false, false]) rfl (by kernel_rfl) rfl rfl ?_
             refine f_call F58 CF_88 (wanted_g F58 rfl rfl rfl rfl) rfl rfl rfl (lc (F58.ev 25 rfl) (lc (F58.ev 29 rfl) rfl)) (spec_SpanHas_c (H := fun _ => True) (span := x1) (key := x2) okx1 okx2) ?_
             rintro _ w59 ⟨rfl, m59⟩
             refine ⟨_, rfl, fun _ F60 => ?_⟩
             have S59 := At.frame0 S46.at' m59
             clear m59
             refine ⟨Sd.of S59 [] rfl, ?_⟩
             refine g_take F60 rfl (i := 11) (listed' := #[true, true, true, true, true, true, true, true, true, true, true, true, false]) rfl (by kernel_rfl) (by kernel_rfl) (by kernel_rfl) (fun _ _ _ h => h) (Sd.of S59 [] rfl) rfl rfl rfl rfl (fun _ hz => (r_pick (b := false) rfl (F60.ev 21 rfl) (F60.ev 30 rfl))) fun _ F61 => ?_
             refine g_take F61 rfl (i := 12) (listed' := #[true, true, true, true, true, true, true, true, true, true, true, true, true]) rfl (by kernel_rfl) (by kernel_rfl) (by kernel_rfl) (fun _ _ _ h => h) (Sd.of S59 [] rfl) rfl rfl rfl rfl (fun _ hz => (r_assign rfl (F61.ev 31 rfl))) fun _ F62 => ?_
             refine wpAnyH_done (by kernel_rfl) (x_normal ?_) _
             exact ⟨F62.cut rfl, ((S46.trans S59).pick [] rfl)⟩
           · rintro a63 w63 ⟨F63, S63⟩
             refine x_block_normal (x_normal (wp_region_lit (l_op (f_mv F63 rfl rfl rfl rfl rfl fun _ F64 => ?_))))
             refine l_op (f_val F64 rfl rfl (r_add (z := ((q + 1 : Nat) : Int)) rfl (F64.ev 18 rfl) rfl (by first | rfl | omega) ⟨by first | omega | (unfold i64ok at *; omega), by first | omega | (unfold i64ok at *; omega)⟩) rfl fun _ F65 => ?_)
             refine l_op (f_as F65 rfl rfl rfl rfl rfl fun _ F66 => ?_)
             have F67 : Fr 34 [(7, .int .i64 ((q + 1 : Nat) : Int)), (0, .slice list_a list_n list_c), (1, .slice keys_a keys_n keys_c), (5, .int .i64 ((k : Nat) : Int)), (6, .bool (spanHas x1 x2))] _ := F66.cut rfl
             clear F63 F64 F65 F66
             refine s_end ?_
             refine x_normal ⟨q + 1, by omega, (spanHas x1 x2), F67.cut rfl, ((S16.trans S63).pick [] rfl), by omega, fun x hx => by first | exact any_more (hq_1 x hx) (by assumption) | (obtain rfl := Option.some.inj (hx2.symm.trans hx); exact any_step (hq_1 _ hx) (by assumption) hx1)⟩
       · skip
         refine wp_exit (x_then_exit (x_then_exit (x_block_here (x_normal (wp_seq (wp_region_lit (l_op (f_mv F21 rfl rfl rfl rfl rfl fun _ F68 => ?_))))))))
         refine l_op (f_val F68 rfl rfl (r_not rfl (F68.ev 32 rfl)) rfl fun _ F69 => ?_)
         have F70 : Fr 34 [(33, .bool (!ii)), (5, .int .i64 ((k : Nat) : Int)), (0, .slice list_a list_n list_c), (1, .slice keys_a keys_n keys_c)] _ := F69.cut rfl
         clear F21 F68 F69
         refine s_end (x_normal (x_condb (b := (!ii)) (F70.ev 33 rfl) (fun h71 => ?_) (fun h71 => ?_)))
         · skip
           refine wp_seq (wp_region_lit (l_op (f_val F70 rfl rfl (r_assign rfl rfl) rfl fun _ F72 => ?_)))
           have F73 : Fr 34 [(4, .bool false)] _ := F72.cut rfl
           clear F70 F72
           refine s_end (x_normal (wp_ret (x_block_ret (x_then_ret (x_then_ret (x_block_ret (x_then_ret ?_)))))))
           refine x_done (v := .bool false) F73 (results_1 Try.results36 (.tmp (F73.ev 4 rfl))) ?_
           exact ⟨(by rw [(show false = (coversL list keys) from by exact (by obtain ⟨x, hx⟩ : ∃ x, nth keys k = some x := nth_some (by omega); exact (all_bad hx (by rw [← nt (b := ii) (by assumption), hq_1 x hx, List.take_of_length_le (by omega)])).symm))]), (Mv.pick (S5.trans S16) [] rfl)⟩
         · skip
           refine wp_skip (x_block_normal (x_normal (wp_region_lit (l_op (f_mv F70 rfl rfl rfl rfl rfl fun _ F74 => ?_)))))
           refine l_op (f_val F74 rfl rfl (r_add (z := ((k + 1 : Nat) : Int)) rfl (F74.ev 12 rfl) rfl (by first | rfl | omega) ⟨by first | omega | (unfold i64ok at *; omega), by first | omega | (unfold i64ok at *; omega)⟩) rfl fun _ F75 => ?_)
           refine l_op (f_as F75 rfl rfl rfl rfl rfl fun _ F76 => ?_)
           have F77 : Fr 34 [(5, .int .i64 ((k + 1 : Nat) : Int)), (0, .slice list_a list_n list_c), (1, .slice keys_a keys_n keys_c)] _ := F76.cut rfl
           clear F70 F74 F75 F76
           refine s_end ?_
           refine x_normal ⟨k + 1, by omega, F77.cut rfl, ((S5.trans S16).pick [] rfl), by omega, all_step hk_1 (fun c hc => by rw [← nf (b := ii) (by assumption), hq_1 c hc, List.take_of_length_le (by omega)])⟩
   · skip
     refine wp_exit (x_then_exit (x_then_exit (x_block_here (x_normal (wp_seq (wp_region_lit (l_op (f_val F10 rfl rfl (r_assign rfl rfl) rfl fun _ F78 => ?_))))))))
     have F79 : Fr 34 [(4, .bool true)] _ := F78.cut rfl
     clear F10 F78
     refine s_end (x_normal (wp_ret ?_))
     refine x_done (v := .bool true) F79 (results_1 Try.results36 (.tmp (F79.ev 4 rfl))) ?_
     exact ⟨(by rw [(show true = (coversL list keys) from by exact (all_good (by omega) hk_1).symm)]), (Mv.pick S5 [] rfl)⟩
end Go.Proofs.Ytbbkihijhdpliaa
