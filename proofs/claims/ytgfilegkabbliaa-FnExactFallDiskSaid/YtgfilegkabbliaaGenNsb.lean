/-
  Walks: room in a journal, live transactions.
-/
import Derived.Test.YtgfilegkabbliaaDatNs
namespace Go.Proofs.Ytgfilegkabbliaa
open Go.ChangeShapes Go.WideShapes Go.ChangeAt Go.RowKit
set_option maxRecDepth 100000
set_option maxHeartbeats 1000000
theorem impl_within_c {w : World} {H : Nat → Prop} {n : Int} {low : Int} {high : Int} (h_n : i64ok n) (h_low : i64ok low) (h_high : i64ok high) :
    Calls Try.prog 65 #[.int .i64 n, .int .i64 low, .int .i64 high] w fun e w' => e = .returned (.bool (inB n low high)) ∧ Mv [] w [] w' := by
 have uU : True := (fun _ _ _ _ => trivial) H h_n h_low h_high
 clear uU
 refine calls_enter 15 Try.func65 rfl Try.ntmps65 (Nat.le_of_ble_eq_true rfl) (fun _ F0i => ?_)
 have F0 : Fr 15 [(0, .int .i64 n), (1, .int .i64 low), (2, .int .i64 high)] _ := F0i
 clear F0i
 refine wp_seq (wp_region_lit (l_op (f_val F0 rfl rfl (r_assign rfl rfl) rfl fun _ F1 => ?_)))
 have F2 : Fr 15 [(6, .bool false), (0, .int .i64 n), (1, .int .i64 low), (2, .int .i64 high)] _ := F1.cut rfl
 clear F0 F1
 refine s_end (x_normal (wp_seq (wp_region_lit (l_op (f_mv F2 rfl rfl rfl rfl rfl fun _ F3 => ?_)))))
 refine l_op (f_mv F3 rfl rfl rfl rfl rfl fun _ F4 => ?_)
 refine l_op (f_val F4 rfl rfl (r_cmp (b := decide (n ≥ low)) (.inr (.inr (.inr (.inr (.inr rfl))))) rfl (F4.ev 7 rfl) (F4.ev 8 rfl) (dec_of (by omega))) rfl fun _ F5 => ?_)
 refine l_op (f_mv F5 rfl rfl rfl rfl rfl fun _ F6 => ?_)
 rcases Decidable.em (n ≥ low) with h7 | h7
 · rw [decide_eq_true h7] at F6
   refine l_op (f_mv F6 (wanted_g F6 rfl rfl rfl rfl) rfl rfl rfl rfl fun _ F8 => ?_)
   refine l_op (f_mv F8 (wanted_g F8 rfl rfl rfl rfl) rfl rfl rfl rfl fun _ F9 => ?_)
   refine l_op (f_val F9 (wanted_g F9 rfl rfl rfl rfl) rfl (r_cmp (b := decide (n ≤ high)) (.inr (.inr (.inr (.inl rfl)))) rfl (F9.ev 11 rfl) (F9.ev 12 rfl) (dec_of (by omega))) rfl fun _ F10 => ?_)
   refine l_op (f_val F10 rfl rfl (r_pick (b := true) rfl (F10.ev 10 rfl) (F10.ev 13 rfl)) rfl fun _ F11 => ?_)
   refine l_op (f_as F11 rfl rfl rfl rfl rfl fun _ F12 => ?_)
   have F13 : Fr 15 [(6, .bool (decide (n ≤ high)))] _ := F12.cut rfl
   clear F2 F3 F4 F5 F6 F8 F9 F10 F11 F12
   refine s_end (x_normal (wp_ret ?_))
   refine x_done (v := .bool (decide (n ≤ high))) F13 (results_1 Try.results65 (.tmp (F13.ev 6 rfl))) ?_
   exact ⟨(by rw [(show (decide (n ≤ high)) = (inB n low high) from by unfold inB; first | rfl | exact dec_of (by omega) | exact (decide_eq_false (by omega)).symm | exact (decide_eq_true (by omega)).symm)]), (Mv.pick (Mv.refl (At.nil w)) [] rfl)⟩
 · rw [decide_eq_false h7] at F6
   refine l_op (f_skip F6 (wanted_g F6 rfl rfl rfl rfl) rfl rfl fun _ F14 => ?_)
   refine l_op (f_skip F14 (wanted_g F14 rfl rfl rfl rfl) rfl rfl fun _ F15 => ?_)
   refine l_op (f_skip F15 (wanted_g F15 rfl rfl rfl rfl) rfl rfl fun _ F16 => ?_)
   refine l_op (f_val F16 rfl rfl (r_pick (b := false) rfl (F16.ev 10 rfl) rfl) rfl fun _ F17 => ?_)
   refine l_op (f_as F17 rfl rfl rfl rfl rfl fun _ F18 => ?_)
   have F19 : Fr 15 [(6, .bool false)] _ := F18.cut rfl
   clear F2 F3 F4 F5 F6 F14 F15 F16 F17 F18
   refine s_end (x_normal (wp_ret ?_))
   refine x_done (v := .bool false) F19 (results_1 Try.results65 (.tmp (F19.ev 6 rfl))) ?_
   exact ⟨(by rw [(show false = (inB n low high) from by unfold inB; first | rfl | exact dec_of (by omega) | exact (decide_eq_false (by omega)).symm | exact (decide_eq_true (by omega)).symm)]), (Mv.pick (Mv.refl (At.nil w)) [] rfl)⟩
theorem spec_l01In_c {w : World} {H : Nat → Prop} {x : Int} {least : Int} {most : Int} (h_x : i64ok x) (h_least : i64ok least) (h_most : i64ok most) :
    Calls Try.prog 61 #[.int .i64 x, .int .i64 least, .int .i64 most] w fun e w' => e = .returned (.bool (inB x least most)) ∧ Mv [] w [] w' := by
 have uU : True := (fun _ _ _ _ => trivial) H h_x h_least h_most
 clear uU
 refine calls_enter 15 Try.func61 rfl Try.ntmps61 (Nat.le_of_ble_eq_true rfl) (fun _ F0i => ?_)
 have F0 : Fr 15 [(0, .int .i64 x), (1, .int .i64 least), (2, .int .i64 most)] _ := F0i
 clear F0i
 refine wp_seq (wp_region_lit (l_op (f_val F0 rfl rfl (r_assign rfl rfl) rfl fun _ F1 => ?_)))
 have F2 : Fr 15 [(6, .bool false), (0, .int .i64 x), (1, .int .i64 least), (2, .int .i64 most)] _ := F1.cut rfl
 clear F0 F1
 refine s_end (x_normal (wp_seq (wp_region_lit (l_op (f_mv F2 rfl rfl rfl rfl rfl fun _ F3 => ?_)))))
 refine l_op (f_mv F3 rfl rfl rfl rfl rfl fun _ F4 => ?_)
 refine l_op (f_val F4 rfl rfl (r_cmp (b := decide (x ≥ least)) (.inr (.inr (.inr (.inr (.inr rfl))))) rfl (F4.ev 7 rfl) (F4.ev 8 rfl) (dec_of (by omega))) rfl fun _ F5 => ?_)
 refine l_op (f_mv F5 rfl rfl rfl rfl rfl fun _ F6 => ?_)
 rcases Decidable.em (x ≥ least) with h7 | h7
 · rw [decide_eq_true h7] at F6
   refine l_op (f_mv F6 (wanted_g F6 rfl rfl rfl rfl) rfl rfl rfl rfl fun _ F8 => ?_)
   refine l_op (f_mv F8 (wanted_g F8 rfl rfl rfl rfl) rfl rfl rfl rfl fun _ F9 => ?_)
   refine l_op (f_val F9 (wanted_g F9 rfl rfl rfl rfl) rfl (r_cmp (b := decide (x ≤ most)) (.inr (.inr (.inr (.inl rfl)))) rfl (F9.ev 11 rfl) (F9.ev 12 rfl) (dec_of (by omega))) rfl fun _ F10 => ?_)
   refine l_op (f_val F10 rfl rfl (r_pick (b := true) rfl (F10.ev 10 rfl) (F10.ev 13 rfl)) rfl fun _ F11 => ?_)
   refine l_op (f_as F11 rfl rfl rfl rfl rfl fun _ F12 => ?_)
   have F13 : Fr 15 [(6, .bool (decide (x ≤ most)))] _ := F12.cut rfl
   clear F2 F3 F4 F5 F6 F8 F9 F10 F11 F12
   refine s_end (x_normal (wp_ret ?_))
   refine x_done (v := .bool (decide (x ≤ most))) F13 (results_1 Try.results61 (.tmp (F13.ev 6 rfl))) ?_
   exact ⟨(by rw [(show (decide (x ≤ most)) = (inB x least most) from by unfold inB; first | rfl | exact dec_of (by omega) | exact (decide_eq_false (by omega)).symm | exact (decide_eq_true (by omega)).symm)]), (Mv.pick (Mv.refl (At.nil w)) [] rfl)⟩
 · rw [decide_eq_false h7] at F6
   refine l_op (f_skip F6 (wanted_g F6 rfl rfl rfl rfl) rfl rfl fun _ F14 => ?_)
   refine l_op (f_skip F14 (wanted_g F14 rfl rfl rfl rfl) rfl rfl fun _ F15 => ?_)
   refine l_op (f_skip F15 (wanted_g F15 rfl rfl rfl rfl) rfl rfl fun _ F16 => ?_)
   refine l_op (f_val F16 rfl rfl (r_pick (b := false) rfl (F16.ev 10 rfl) rfl) rfl fun _ F17 => ?_)
   refine l_op (f_as F17 rfl rfl rfl rfl rfl fun _ F18 => ?_)
   have F19 : Fr 15 [(6, .bool false)] _ := F18.cut rfl
   clear F2 F3 F4 F5 F6 F14 F15 F16 F17 F18
   refine s_end (x_normal (wp_ret ?_))
   refine x_done (v := .bool false) F19 (results_1 Try.results61 (.tmp (F19.ev 6 rfl))) ?_
   exact ⟨(by rw [(show false = (inB x least most) from by unfold inB; first | rfl | exact dec_of (by omega) | exact (decide_eq_false (by omega)).symm | exact (decide_eq_true (by omega)).symm)]), (Mv.pick (Mv.refl (At.nil w)) [] rfl)⟩
theorem impl_Brought_c {w : World} {H : Nat → Prop} {n : Int} {least : Int} {most : Int} (h_n : i64ok n) (h_least : i64ok least) (h_most : i64ok most) :
    Calls Try.prog 72 #[.int .i64 n, .int .i64 least, .int .i64 most] w fun e w' => e = .returned (.int .i64 (max least (min n most))) ∧ Mv [] w [] w' := by
 have uU : True := (fun _ _ _ _ => trivial) H h_n h_least h_most
 clear uU
 refine calls_enter 12 Try.func72 rfl Try.ntmps72 (Nat.le_of_ble_eq_true rfl) (fun _ F0i => ?_)
 have F0 : Fr 12 [(0, .int .i64 n), (1, .int .i64 least), (2, .int .i64 most)] _ := F0i
 clear F0i
 refine wp_seq (wp_region_lit (l_op (f_val F0 rfl rfl (r_assign rfl rfl) rfl fun _ F1 => ?_)))
 have F2 : Fr 12 [(6, .int .i64 0), (0, .int .i64 n), (1, .int .i64 least), (2, .int .i64 most)] _ := F1.cut rfl
 clear F0 F1
 refine s_end (x_normal (wp_seq (wp_region_lit (l_op (f_mv F2 rfl rfl rfl rfl rfl fun _ F3 => ?_)))))
 refine l_op (f_mv F3 rfl rfl rfl rfl rfl fun _ F4 => ?_)
 refine l_op (f_mv F4 rfl rfl rfl rfl rfl fun _ F5 => ?_)
 refine l_op (f_val F5 rfl rfl (r_minI rfl (F5.ev 8 rfl) (F5.ev 9 rfl)) rfl fun _ F6 => ?_)
 refine l_op (f_val F6 rfl rfl (r_maxI rfl (F6.ev 7 rfl) (F6.ev 10 rfl)) rfl fun _ F7 => ?_)
 refine l_op (f_as F7 rfl rfl rfl rfl rfl fun _ F8 => ?_)
 have F9 : Fr 12 [(6, .int .i64 (max least (min n most)))] _ := F8.cut rfl
 clear F2 F3 F4 F5 F6 F7 F8
 refine s_end (x_normal (wp_ret ?_))
 refine x_done (v := .int .i64 (max least (min n most))) F9 (results_1 Try.results72 (.tmp (F9.ev 6 rfl))) ?_
 exact ⟨rfl, (Mv.pick (Mv.refl (At.nil w)) [] rfl)⟩
theorem spec_Brought_c {w : World} {H : Nat → Prop} {n : Int} {least : Int} {most : Int} (h_n : i64ok n) (h_least : i64ok least) (h_most : i64ok most) :
    Calls Try.prog 70 #[.int .i64 n, .int .i64 least, .int .i64 most] w fun e w' => e = .returned (.int .i64 (max least (min n most))) ∧ Mv [] w [] w' := by
 have uU : True := (fun _ _ _ _ => trivial) H h_n h_least h_most
 clear uU
 refine calls_enter 21 Try.func70 rfl Try.ntmps70 (Nat.le_of_ble_eq_true rfl) (fun _ F0i => ?_)
 have F0 : Fr 21 [(0, .int .i64 n), (1, .int .i64 least), (2, .int .i64 most)] _ := F0i
 clear F0i
 refine wp_seq (wp_region_lit (l_op (f_val F0 rfl rfl (r_assign rfl rfl) rfl fun _ F1 => ?_)))
 have F2 : Fr 21 [(6, .int .i64 0), (0, .int .i64 n), (1, .int .i64 least), (2, .int .i64 most)] _ := F1.cut rfl
 clear F0 F1
 refine s_end (x_normal (wp_seq (wp_seq (wp_region_lit (l_op (f_mv F2 rfl rfl rfl rfl rfl fun _ F3 => ?_))))))
 refine l_op (f_mv F3 rfl rfl rfl rfl rfl fun _ F4 => ?_)
 refine l_op (f_val F4 rfl rfl (r_cmp (b := decide (most < least)) (.inr (.inr (.inl rfl))) rfl (F4.ev 7 rfl) (F4.ev 8 rfl) (dec_of (by omega))) rfl fun _ F5 => ?_)
 refine l_op (f_mv F5 rfl rfl rfl rfl rfl fun _ F6 => ?_)
 rcases Decidable.em (most < least) with h7 | h7
 · rw [decide_eq_true h7] at F6
   refine l_op (f_skip F6 (wanted_g F6 rfl rfl rfl rfl) rfl rfl fun _ F8 => ?_)
   refine l_op (f_skip F8 (wanted_g F8 rfl rfl rfl rfl) rfl rfl fun _ F9 => ?_)
   refine l_op (f_skip F9 (wanted_g F9 rfl rfl rfl rfl) rfl rfl fun _ F10 => ?_)
   refine l_op (f_val F10 rfl rfl (r_pick (b := true) rfl (F10.ev 10 rfl) rfl) rfl fun _ F11 => ?_)
   have F12 : Fr 21 [(14, .bool true), (0, .int .i64 n), (1, .int .i64 least), (2, .int .i64 most)] _ := F11.cut rfl
   clear F2 F3 F4 F5 F6 F8 F9 F10 F11
   refine s_end (x_normal (wp_cond_true (F12.ev 14 rfl) (wp_seq (wp_region_lit (l_op (f_mv F12 rfl rfl rfl rfl rfl fun _ F13 => ?_))))))
   refine l_op (f_as F13 rfl rfl rfl rfl rfl fun _ F14 => ?_)
   have F15 : Fr 21 [(6, .int .i64 least)] _ := F14.cut rfl
   clear F12 F13 F14
   refine s_end (x_normal (wp_ret (x_then_ret ?_)))
   refine x_done (v := .int .i64 least) F15 (results_1 Try.results70 (.tmp (F15.ev 6 rfl))) ?_
   exact ⟨(by rw [← (show least = (max least (min n most)) from by omega)]), (Mv.pick (Mv.refl (At.nil w)) [] rfl)⟩
 · rw [decide_eq_false h7] at F6
   refine l_op (f_mv F6 (wanted_g F6 rfl rfl rfl rfl) rfl rfl rfl rfl fun _ F16 => ?_)
   refine l_op (f_mv F16 (wanted_g F16 rfl rfl rfl rfl) rfl rfl rfl rfl fun _ F17 => ?_)
   refine l_op (f_val F17 (wanted_g F17 rfl rfl rfl rfl) rfl (r_cmp (b := decide (n < least)) (.inr (.inr (.inl rfl))) rfl (F17.ev 11 rfl) (F17.ev 12 rfl) (dec_of (by omega))) rfl fun _ F18 => ?_)
   refine l_op (f_val F18 rfl rfl (r_pick (b := false) rfl (F18.ev 10 rfl) (F18.ev 13 rfl)) rfl fun _ F19 => ?_)
   have F20 : Fr 21 [(14, .bool (decide (n < least))), (0, .int .i64 n), (1, .int .i64 least), (2, .int .i64 most)] _ := F19.cut rfl
   clear F2 F3 F4 F5 F6 F16 F17 F18 F19
   refine s_end (x_normal (x_cond (p := n < least) (F20.ev 14 rfl) (fun h21 => ?_) (fun h21 => ?_)))
   · skip
     refine wp_seq (wp_region_lit (l_op (f_mv F20 rfl rfl rfl rfl rfl fun _ F22 => ?_)))
     refine l_op (f_as F22 rfl rfl rfl rfl rfl fun _ F23 => ?_)
     have F24 : Fr 21 [(6, .int .i64 least)] _ := F23.cut rfl
     clear F20 F22 F23
     refine s_end (x_normal (wp_ret (x_then_ret ?_)))
     refine x_done (v := .int .i64 least) F24 (results_1 Try.results70 (.tmp (F24.ev 6 rfl))) ?_
     exact ⟨(by rw [← (show least = (max least (min n most)) from by omega)]), (Mv.pick (Mv.refl (At.nil w)) [] rfl)⟩
   · skip
     refine wp_skip (x_normal (wp_seq (wp_seq (wp_region_lit (l_op (f_mv F20 rfl rfl rfl rfl rfl fun _ F25 => ?_))))))
     refine l_op (f_mv F25 rfl rfl rfl rfl rfl fun _ F26 => ?_)
     refine l_op (f_val F26 rfl rfl (r_cmp (b := decide (n > most)) (.inr (.inr (.inr (.inr (.inl rfl))))) rfl (F26.ev 16 rfl) (F26.ev 17 rfl) (dec_of (by omega))) rfl fun _ F27 => ?_)
     have F28 : Fr 21 [(18, .bool (decide (n > most))), (0, .int .i64 n), (2, .int .i64 most)] _ := F27.cut rfl
     clear F20 F25 F26 F27
     refine s_end (x_normal (x_cond (p := n > most) (F28.ev 18 rfl) (fun h29 => ?_) (fun h29 => ?_)))
     · skip
       refine wp_seq (wp_region_lit (l_op (f_mv F28 rfl rfl rfl rfl rfl fun _ F30 => ?_)))
       refine l_op (f_as F30 rfl rfl rfl rfl rfl fun _ F31 => ?_)
       have F32 : Fr 21 [(6, .int .i64 most)] _ := F31.cut rfl
       clear F28 F30 F31
       refine s_end (x_normal (wp_ret (x_then_ret ?_)))
       refine x_done (v := .int .i64 most) F32 (results_1 Try.results70 (.tmp (F32.ev 6 rfl))) ?_
       exact ⟨(by rw [← (show most = (max least (min n most)) from by omega)]), (Mv.pick (Mv.refl (At.nil w)) [] rfl)⟩
     · skip
       refine wp_skip (x_normal (wp_seq (wp_region_lit (l_op (f_mv F28 rfl rfl rfl rfl rfl fun _ F33 => ?_)))))
       refine l_op (f_as F33 rfl rfl rfl rfl rfl fun _ F34 => ?_)
       have F35 : Fr 21 [(6, .int .i64 n)] _ := F34.cut rfl
       clear F28 F33 F34
       refine s_end (x_normal (wp_ret ?_))
       refine x_done (v := .int .i64 n) F35 (results_1 Try.results70 (.tmp (F35.ev 6 rfl))) ?_
       exact ⟨(by rw [← (show n = (max least (min n most)) from by omega)]), (Mv.pick (Mv.refl (At.nil w)) [] rfl)⟩
theorem impl_JournalOk_c {w : World} {H : Nat → Prop} {j : JouD} (h_j_text : okS j.text) (h_j_sure : i64ok j.sure) :
    Calls Try.prog 123 #[.agg #[.string j.text, .int .i64 j.sure]] w fun e w' => e = .returned (.bool (jouOk j)) ∧ Mv [] w [] w' := by
 have uU : True := (fun _ _ => trivial) H h_j_sure
 clear uU
 have z1 := h_j_text
 unfold okS at z1
 refine calls_enter 15 Try.func123 rfl Try.ntmps123 (Nat.le_of_ble_eq_true rfl) (fun _ F0i => ?_)
 have F0 : Fr 15 [(0, .agg #[.string j.text, .int .i64 j.sure])] _ := F0i
 clear F0i
 refine wp_seq (wp_region_lit (l_op (f_box F0 (At.nil w) rfl rfl rfl (F0.ev 0 rfl) rfl rfl fun b1 _ w1 F2 S1 => ?_)))
 refine l_op (f_val F2 rfl rfl (r_assign rfl rfl) rfl fun _ F3 => ?_)
 have F4 : Fr 15 [(2, .bool false), (1, .pointer (some ⟨b1, 0, none⟩))] _ := F3.cut rfl
 clear F0 F2 F3
 have T5 : Mv _ _ [bx b1 [.string j.text, .int .i64 j.sure] 30] _ := S1
 refine s_end (x_normal (wp_seq (wp_region_lit (l_op (f_val F4 rfl rfl (r_field FI_30_0 rfl (F4.ev 1 rfl) rfl) rfl fun _ F6 => ?_)))))
 refine l_op (f_val (v := .string j.text) F6 rfl rfl (r_loadB T5.at' 0 TI_9 rfl rfl (F6.ev 3 rfl) rfl rfl (fun _ => rfl) rfl) rfl fun _ F7 => ?_)
 refine l_op (f_val F7 rfl rfl (r_lenS (fun t ht => by cases ht; exact Try.underlying9) rfl rfl (F7.ev 4 rfl)) rfl fun _ F8 => ?_)
 refine l_op (f_val F8 rfl rfl (r_cmp (b := decide (j.text.size ≤ 20000)) (.inr (.inr (.inr (.inl rfl)))) rfl (F8.ev 5 rfl) rfl (dec_of (by omega))) rfl fun _ F9 => ?_)
 refine l_op (f_mv F9 rfl rfl rfl rfl rfl fun _ F10 => ?_)
 rcases Decidable.em (j.text.size ≤ 20000) with h11 | h11
 · rw [decide_eq_true h11] at F10
   refine l_op (f_val F10 (wanted_g F10 rfl rfl rfl rfl) rfl (r_field FI_30_1 rfl (F10.ev 1 rfl) rfl) rfl fun _ F12 => ?_)
   refine l_op (f_val (v := .int .i64 j.sure) F12 (wanted_g F12 rfl rfl rfl rfl) rfl (r_loadB T5.at' 0 TI_3 rfl rfl (F12.ev 8 rfl) rfl rfl (fun _ => rfl) rfl) rfl fun _ F13 => ?_)
   refine l_op (f_val F13 (wanted_g F13 rfl rfl rfl rfl) rfl (r_field FI_30_0 rfl (F13.ev 1 rfl) rfl) rfl fun _ F14 => ?_)
   refine l_op (f_val (v := .string j.text) F14 (wanted_g F14 rfl rfl rfl rfl) rfl (r_loadB T5.at' 0 TI_9 rfl rfl (F14.ev 10 rfl) rfl rfl (fun _ => rfl) rfl) rfl fun _ F15 => ?_)
   refine l_op (f_val F15 (wanted_g F15 rfl rfl rfl rfl) rfl (r_lenS (fun t ht => by cases ht; exact Try.underlying9) rfl rfl (F15.ev 11 rfl)) rfl fun _ F16 => ?_)
   refine l_op (f_call F16 CF_65 (wanted_g F16 rfl rfl rfl rfl) rfl rfl rfl (lc (F16.ev 9 rfl) (lc rfl (lc (F16.ev 12 rfl) rfl))) (impl_within_c (H := fun _ => True) (n := j.sure) (low := 0) (high := ((j.text.size : Nat) : Int)) (by first | assumption | exact ⟨by omega, by omega⟩ | (unfold i64ok at *; omega)) (by first | assumption | exact ⟨by omega, by omega⟩ | (unfold i64ok at *; omega)) (by first | assumption | exact ⟨by omega, by omega⟩ | (unfold i64ok at *; omega))) ?_)
   rintro _ w17 ⟨rfl, m17⟩
   refine ⟨_, rfl, fun _ F18 => ?_⟩
   have S17 := At.frame0 T5.at' m17
   clear m17
   refine l_op (f_val F18 rfl rfl (r_pick (b := true) rfl (F18.ev 7 rfl) (F18.ev 13 rfl)) rfl fun _ F19 => ?_)
   refine l_op (f_as F19 rfl rfl rfl rfl rfl fun _ F20 => ?_)
   have F21 : Fr 15 [(2, .bool (inB j.sure 0 ((j.text.size : Nat) : Int)))] _ := F20.cut rfl
   clear F4 F6 F7 F8 F9 F10 F12 F13 F14 F15 F16 F18 F19 F20
   have T22 : Mv _ _ [bx b1 [.string j.text, .int .i64 j.sure] 30] _ := S17
   refine s_end (x_normal (wp_ret ?_))
   refine x_done (v := .bool (inB j.sure 0 ((j.text.size : Nat) : Int))) F21 (results_1 Try.results123 (.tmp (F21.ev 2 rfl))) ?_
   exact ⟨(by rw [(show (inB j.sure 0 ((j.text.size : Nat) : Int)) = (jouOk j) from by first | exact jo_t (by assumption) | exact jo_f (by assumption))]), (Mv.pick (T5.trans T22) [] rfl)⟩
 · rw [decide_eq_false h11] at F10
   refine l_op (f_skip F10 (wanted_g F10 rfl rfl rfl rfl) rfl rfl fun _ F23 => ?_)
   refine l_op (f_skip F23 (wanted_g F23 rfl rfl rfl rfl) rfl rfl fun _ F24 => ?_)
   refine l_op (f_skip F24 (wanted_g F24 rfl rfl rfl rfl) rfl rfl fun _ F25 => ?_)
   refine l_op (f_skip F25 (wanted_g F25 rfl rfl rfl rfl) rfl rfl fun _ F26 => ?_)
   refine l_op (f_skip F26 (wanted_g F26 rfl rfl rfl rfl) rfl rfl fun _ F27 => ?_)
   refine l_op (f_skip F27 (wanted_g F27 rfl rfl rfl rfl) rfl rfl fun _ F28 => ?_)
   refine l_op (f_val F28 rfl rfl (r_pick (b := false) rfl (F28.ev 7 rfl) rfl) rfl fun _ F29 => ?_)
   refine l_op (f_as F29 rfl rfl rfl rfl rfl fun _ F30 => ?_)
   have F31 : Fr 15 [(2, .bool false)] _ := F30.cut rfl
   clear F4 F6 F7 F8 F9 F10 F23 F24 F25 F26 F27 F28 F29 F30
   refine s_end (x_normal (wp_ret ?_))
   refine x_done (v := .bool false) F31 (results_1 Try.results123 (.tmp (F31.ev 2 rfl))) ?_
   exact ⟨(by rw [(show false = (jouOk j) from by first | exact jo_t (by assumption) | exact jo_f (by assumption))]), (Mv.pick T5 [] rfl)⟩
theorem spec_JournalOk_c {w : World} {H : Nat → Prop} {j : JouD} (h_j_text : okS j.text) (h_j_sure : i64ok j.sure) :
    Calls Try.prog 119 #[.agg #[.string j.text, .int .i64 j.sure]] w fun e w' => e = .returned (.bool (jouOk j)) ∧ Mv [] w [] w' := by
 have uU : True := (fun _ _ => trivial) H h_j_sure
 clear uU
 have z1 := h_j_text
 unfold okS at z1
 refine calls_enter 15 Try.func119 rfl Try.ntmps119 (Nat.le_of_ble_eq_true rfl) (fun _ F0i => ?_)
 have F0 : Fr 15 [(0, .agg #[.string j.text, .int .i64 j.sure])] _ := F0i
 clear F0i
 refine wp_seq (wp_region_lit (l_op (f_box F0 (At.nil w) rfl rfl rfl (F0.ev 0 rfl) rfl rfl fun b1 _ w1 F2 S1 => ?_)))
 refine l_op (f_val F2 rfl rfl (r_assign rfl rfl) rfl fun _ F3 => ?_)
 have F4 : Fr 15 [(2, .bool false), (1, .pointer (some ⟨b1, 0, none⟩))] _ := F3.cut rfl
 clear F0 F2 F3
 have T5 : Mv _ _ [bx b1 [.string j.text, .int .i64 j.sure] 30] _ := S1
 refine s_end (x_normal (wp_seq (wp_region_lit (l_op (f_val F4 rfl rfl (r_field FI_30_0 rfl (F4.ev 1 rfl) rfl) rfl fun _ F6 => ?_)))))
 refine l_op (f_val (v := .string j.text) F6 rfl rfl (r_loadB T5.at' 0 TI_9 rfl rfl (F6.ev 3 rfl) rfl rfl (fun _ => rfl) rfl) rfl fun _ F7 => ?_)
 refine l_op (f_val F7 rfl rfl (r_lenS (fun t ht => by cases ht; exact Try.underlying9) rfl rfl (F7.ev 4 rfl)) rfl fun _ F8 => ?_)
 refine l_op (f_val F8 rfl rfl (r_cmp (b := decide (j.text.size ≤ 20000)) (.inr (.inr (.inr (.inl rfl)))) rfl (F8.ev 5 rfl) rfl (dec_of (by omega))) rfl fun _ F9 => ?_)
 refine l_op (f_mv F9 rfl rfl rfl rfl rfl fun _ F10 => ?_)
 rcases Decidable.em (j.text.size ≤ 20000) with h11 | h11
 · rw [decide_eq_true h11] at F10
   refine l_op (f_val F10 (wanted_g F10 rfl rfl rfl rfl) rfl (r_field FI_30_1 rfl (F10.ev 1 rfl) rfl) rfl fun _ F12 => ?_)
   refine l_op (f_val (v := .int .i64 j.sure) F12 (wanted_g F12 rfl rfl rfl rfl) rfl (r_loadB T5.at' 0 TI_3 rfl rfl (F12.ev 8 rfl) rfl rfl (fun _ => rfl) rfl) rfl fun _ F13 => ?_)
   refine l_op (f_val F13 (wanted_g F13 rfl rfl rfl rfl) rfl (r_field FI_30_0 rfl (F13.ev 1 rfl) rfl) rfl fun _ F14 => ?_)
   refine l_op (f_val (v := .string j.text) F14 (wanted_g F14 rfl rfl rfl rfl) rfl (r_loadB T5.at' 0 TI_9 rfl rfl (F14.ev 10 rfl) rfl rfl (fun _ => rfl) rfl) rfl fun _ F15 => ?_)
   refine l_op (f_val F15 (wanted_g F15 rfl rfl rfl rfl) rfl (r_lenS (fun t ht => by cases ht; exact Try.underlying9) rfl rfl (F15.ev 11 rfl)) rfl fun _ F16 => ?_)
   refine l_op (f_call F16 CF_61 (wanted_g F16 rfl rfl rfl rfl) rfl rfl rfl (lc (F16.ev 9 rfl) (lc rfl (lc (F16.ev 12 rfl) rfl))) (spec_l01In_c (H := fun _ => True) (x := j.sure) (least := 0) (most := ((j.text.size : Nat) : Int)) (by first | assumption | exact ⟨by omega, by omega⟩ | (unfold i64ok at *; omega)) (by first | assumption | exact ⟨by omega, by omega⟩ | (unfold i64ok at *; omega)) (by first | assumption | exact ⟨by omega, by omega⟩ | (unfold i64ok at *; omega))) ?_)
   rintro _ w17 ⟨rfl, m17⟩
   refine ⟨_, rfl, fun _ F18 => ?_⟩
   have S17 := At.frame0 T5.at' m17
   clear m17
   refine l_op (f_val F18 rfl rfl (r_pick (b := true) rfl (F18.ev 7 rfl) (F18.ev 13 rfl)) rfl fun _ F19 => ?_)
   refine l_op (f_as F19 rfl rfl rfl rfl rfl fun _ F20 => ?_)
   have F21 : Fr 15 [(2, .bool (inB j.sure 0 ((j.text.size : Nat) : Int)))] _ := F20.cut rfl
   clear F4 F6 F7 F8 F9 F10 F12 F13 F14 F15 F16 F18 F19 F20
   have T22 : Mv _ _ [bx b1 [.string j.text, .int .i64 j.sure] 30] _ := S17
   refine s_end (x_normal (wp_ret ?_))
   refine x_done (v := .bool (inB j.sure 0 ((j.text.size : Nat) : Int))) F21 (results_1 Try.results119 (.tmp (F21.ev 2 rfl))) ?_
   exact ⟨(by rw [(show (inB j.sure 0 ((j.text.size : Nat) : Int)) = (jouOk j) from by first | exact jo_t (by assumption) | exact jo_f (by assumption))]), (Mv.pick (T5.trans T22) [] rfl)⟩
 · rw [decide_eq_false h11] at F10
   refine l_op (f_skip F10 (wanted_g F10 rfl rfl rfl rfl) rfl rfl fun _ F23 => ?_)
   refine l_op (f_skip F23 (wanted_g F23 rfl rfl rfl rfl) rfl rfl fun _ F24 => ?_)
   refine l_op (f_skip F24 (wanted_g F24 rfl rfl rfl rfl) rfl rfl fun _ F25 => ?_)
   refine l_op (f_skip F25 (wanted_g F25 rfl rfl rfl rfl) rfl rfl fun _ F26 => ?_)
   refine l_op (f_skip F26 (wanted_g F26 rfl rfl rfl rfl) rfl rfl fun _ F27 => ?_)
   refine l_op (f_skip F27 (wanted_g F27 rfl rfl rfl rfl) rfl rfl fun _ F28 => ?_)
   refine l_op (f_val F28 rfl rfl (r_pick (b := false) rfl (F28.ev 7 rfl) rfl) rfl fun _ F29 => ?_)
   refine l_op (f_as F29 rfl rfl rfl rfl rfl fun _ F30 => ?_)
   have F31 : Fr 15 [(2, .bool false)] _ := F30.cut rfl
   clear F4 F6 F7 F8 F9 F10 F23 F24 F25 F26 F27 F28 F29 F30
   refine s_end (x_normal (wp_ret ?_))
   refine x_done (v := .bool false) F31 (results_1 Try.results119 (.tmp (F31.ev 2 rfl))) ?_
   exact ⟨(by rw [(show false = (jouOk j) from by first | exact jo_t (by assumption) | exact jo_f (by assumption))]), (Mv.pick T5 [] rfl)⟩
end Go.Proofs.Ytgfilegkabbliaa
