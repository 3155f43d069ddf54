/-
  Walks: room in a journal, live transactions.
-/
import Derived.Test.YtgfilegkabbliaaGreatDatNs
namespace Go.Proofs.YtgfilegkabbliaaGreat
open Go.ChangeShapes Go.WideShapes Go.ChangeAt Go.RowKit
set_option maxRecDepth 100000
set_option maxHeartbeats 1000000
theorem impl_within_c {w : World} {H : Nat → Prop} {n : Int} {low : Int} {high : Int} (h_n : i64ok n) (Q1 : i64ok low) (Q0 : i64ok high) :
    Calls Tryz.prog 26 #[.int .i64 n, .int .i64 low, .int .i64 high] w fun e w' => e = .returned (.bool (inB n low high)) ∧ Mv [] w [] w' := by
 have uU : True := (fun _ _ _ _ => trivial) H h_n Q1 Q0
 clear uU
 refine calls_enter 15 Tryz.func26 rfl Tryz.ntmps26 (Nat.le_of_ble_eq_true rfl) (fun _ F0i => ?_)
 have F0 : Fr 15 [(0, .int .i64 n), (1, .int .i64 low), (2, .int .i64 high)] _ := F0i
 clear F0i
 refine wp_seq (wp_region_lit (l_op (f_val F0 rfl rfl (r_assign rfl rfl) rfl fun _ F1 => ?_)))
 refine s_end (x_normal (wp_seq (wp_region_lit (l_op (f_mv F1 rfl rfl rfl rfl rfl fun _ F2 => ?_)))))
 refine l_op (f_mv F2 rfl rfl rfl rfl rfl fun _ F3 => ?_)
 refine l_op (f_val F3 rfl rfl (r_cmp (b := decide (n ≥ low)) (.inr (.inr (.inr (.inr (.inr rfl))))) rfl (F3.ev 7 rfl) (F3.ev 8 rfl) (dec_of (by omega))) rfl fun _ F4 => ?_)
 refine l_op (f_mv F4 rfl rfl rfl rfl rfl fun _ F5 => ?_)
 rcases Decidable.em (n ≥ low) with h6 | h6
 · rw [decide_eq_true h6] at F5
   refine l_op (f_mv F5 (wanted_g F5 rfl rfl rfl rfl) rfl rfl rfl rfl fun _ F7 => ?_)
   refine l_op (f_mv F7 (wanted_g F7 rfl rfl rfl rfl) rfl rfl rfl rfl fun _ F8 => ?_)
   refine l_op (f_val F8 (wanted_g F8 rfl rfl rfl rfl) rfl (r_cmp (b := decide (n ≤ high)) (.inr (.inr (.inr (.inl rfl)))) rfl (F8.ev 11 rfl) (F8.ev 12 rfl) (dec_of (by omega))) rfl fun _ F9 => ?_)
   refine l_op (f_val F9 rfl rfl (r_pick (b := true) rfl (F9.ev 10 rfl) (F9.ev 13 rfl)) rfl fun _ F10 => ?_)
   refine l_op (f_as F10 rfl rfl rfl rfl rfl fun _ F11 => ?_)
   have F12 : Fr 15 [(6, .bool (decide (n ≤ high)))] _ := F11.cut rfl
   clear F0 F1 F2 F3 F4 F5 F7 F8 F9 F10 F11
   refine s_end (x_normal (wp_ret ?_))
   refine x_done (v := .bool (decide (n ≤ high))) F12 (results_1 Tryz.results26 (.tmp (F12.ev 6 rfl))) ?_
   exact ⟨(by rw [(show (decide (n ≤ high)) = (inB n low high) from by unfold inB; first | rfl | exact dec_of (by omega) | exact (decide_eq_false (by omega)).symm | exact (decide_eq_true (by omega)).symm)]), (Mv.pick (Mv.refl (At.nil w)) [] rfl)⟩
 · rw [decide_eq_false h6] at F5
   refine l_op (f_skip F5 (wanted_g F5 rfl rfl rfl rfl) rfl rfl fun _ F13 => ?_)
   refine l_op (f_skip F13 (wanted_g F13 rfl rfl rfl rfl) rfl rfl fun _ F14 => ?_)
   refine l_op (f_skip F14 (wanted_g F14 rfl rfl rfl rfl) rfl rfl fun _ F15 => ?_)
   refine l_op (f_val F15 rfl rfl (r_pick (b := false) rfl (F15.ev 10 rfl) rfl) rfl fun _ F16 => ?_)
   refine l_op (f_as F16 rfl rfl rfl rfl rfl fun _ F17 => ?_)
   have F18 : Fr 15 [(6, .bool false)] _ := F17.cut rfl
   clear F0 F1 F2 F3 F4 F5 F13 F14 F15 F16 F17
   refine s_end (x_normal (wp_ret ?_))
   refine x_done (v := .bool false) F18 (results_1 Tryz.results26 (.tmp (F18.ev 6 rfl))) ?_
   exact ⟨(by rw [(show false = (inB n low high) from by unfold inB; first | rfl | exact dec_of (by omega) | exact (decide_eq_false (by omega)).symm | exact (decide_eq_true (by omega)).symm)]), (Mv.pick (Mv.refl (At.nil w)) [] rfl)⟩
theorem spec_l01In_c {w : World} {H : Nat → Prop} {x : Int} {least : Int} {most : Int} (h_x : i64ok x) (Q0 : i64ok least) (Q1 : i64ok most) :
    Calls Tryz.prog 17 #[.int .i64 x, .int .i64 least, .int .i64 most] w fun e w' => e = .returned (.bool (inB x least most)) ∧ Mv [] w [] w' := by
 have uU : True := (fun _ _ _ _ => trivial) H h_x Q0 Q1
 clear uU
 refine calls_enter 15 Tryz.func17 rfl Tryz.ntmps17 (Nat.le_of_ble_eq_true rfl) (fun _ F0i => ?_)
 have F0 : Fr 15 [(0, .int .i64 x), (1, .int .i64 least), (2, .int .i64 most)] _ := F0i
 clear F0i
 refine wp_seq (wp_region_lit (l_op (f_val F0 rfl rfl (r_assign rfl rfl) rfl fun _ F1 => ?_)))
 refine s_end (x_normal (wp_seq (wp_region_lit (l_op (f_mv F1 rfl rfl rfl rfl rfl fun _ F2 => ?_)))))
 refine l_op (f_mv F2 rfl rfl rfl rfl rfl fun _ F3 => ?_)
 refine l_op (f_val F3 rfl rfl (r_cmp (b := decide (x ≥ least)) (.inr (.inr (.inr (.inr (.inr rfl))))) rfl (F3.ev 7 rfl) (F3.ev 8 rfl) (dec_of (by omega))) rfl fun _ F4 => ?_)
 refine l_op (f_mv F4 rfl rfl rfl rfl rfl fun _ F5 => ?_)
 rcases Decidable.em (x ≥ least) with h6 | h6
 · rw [decide_eq_true h6] at F5
   refine l_op (f_mv F5 (wanted_g F5 rfl rfl rfl rfl) rfl rfl rfl rfl fun _ F7 => ?_)
   refine l_op (f_mv F7 (wanted_g F7 rfl rfl rfl rfl) rfl rfl rfl rfl fun _ F8 => ?_)
   refine l_op (f_val F8 (wanted_g F8 rfl rfl rfl rfl) rfl (r_cmp (b := decide (x ≤ most)) (.inr (.inr (.inr (.inl rfl)))) rfl (F8.ev 11 rfl) (F8.ev 12 rfl) (dec_of (by omega))) rfl fun _ F9 => ?_)
   refine l_op (f_val F9 rfl rfl (r_pick (b := true) rfl (F9.ev 10 rfl) (F9.ev 13 rfl)) rfl fun _ F10 => ?_)
   refine l_op (f_as F10 rfl rfl rfl rfl rfl fun _ F11 => ?_)
   have F12 : Fr 15 [(6, .bool (decide (x ≤ most)))] _ := F11.cut rfl
   clear F0 F1 F2 F3 F4 F5 F7 F8 F9 F10 F11
   refine s_end (x_normal (wp_ret ?_))
   refine x_done (v := .bool (decide (x ≤ most))) F12 (results_1 Tryz.results17 (.tmp (F12.ev 6 rfl))) ?_
   exact ⟨(by rw [(show (decide (x ≤ most)) = (inB x least most) from by unfold inB; first | rfl | exact dec_of (by omega) | exact (decide_eq_false (by omega)).symm | exact (decide_eq_true (by omega)).symm)]), (Mv.pick (Mv.refl (At.nil w)) [] rfl)⟩
 · rw [decide_eq_false h6] at F5
   refine l_op (f_skip F5 (wanted_g F5 rfl rfl rfl rfl) rfl rfl fun _ F13 => ?_)
   refine l_op (f_skip F13 (wanted_g F13 rfl rfl rfl rfl) rfl rfl fun _ F14 => ?_)
   refine l_op (f_skip F14 (wanted_g F14 rfl rfl rfl rfl) rfl rfl fun _ F15 => ?_)
   refine l_op (f_val F15 rfl rfl (r_pick (b := false) rfl (F15.ev 10 rfl) rfl) rfl fun _ F16 => ?_)
   refine l_op (f_as F16 rfl rfl rfl rfl rfl fun _ F17 => ?_)
   have F18 : Fr 15 [(6, .bool false)] _ := F17.cut rfl
   clear F0 F1 F2 F3 F4 F5 F13 F14 F15 F16 F17
   refine s_end (x_normal (wp_ret ?_))
   refine x_done (v := .bool false) F18 (results_1 Tryz.results17 (.tmp (F18.ev 6 rfl))) ?_
   exact ⟨(by rw [(show false = (inB x least most) from by unfold inB; first | rfl | exact dec_of (by omega) | exact (decide_eq_false (by omega)).symm | exact (decide_eq_true (by omega)).symm)]), (Mv.pick (Mv.refl (At.nil w)) [] rfl)⟩
theorem impl_JournalOk_c {w : World} {H : Nat → Prop} {j : JouD} (Q1 : okS j.text) (Q0 : i64ok j.sure) :
    Calls Tryz.prog 49 #[.agg #[.string j.text, .int .i64 j.sure]] w fun e w' => e = .returned (.bool (jouOk j)) ∧ Mv [] w [] w' := by
 have uU : True := (fun _ _ => trivial) H Q0
 clear uU
 have z1 := Q1
 unfold okS at z1
 refine calls_enter 15 Tryz.func49 rfl Tryz.ntmps49 (Nat.le_of_ble_eq_true rfl) (fun _ F0i => ?_)
 have F0 : Fr 15 [(0, .agg #[.string j.text, .int .i64 j.sure])] _ := F0i
 clear F0i
 refine wp_seq (wp_region_lit (l_op (f_box F0 (At.nil w) rfl rfl rfl (F0.ev 0 rfl) rfl rfl fun b1 _ w1 F2 S1 => ?_)))
 refine l_op (f_val F2 rfl rfl (r_assign rfl rfl) rfl fun _ F3 => ?_)
 refine s_end (x_normal (wp_seq (wp_region_lit (l_op (f_val F3 rfl rfl (r_field FI_38_0 rfl (F3.ev 1 rfl) rfl) rfl fun _ F4 => ?_)))))
 refine l_op (f_val (v := .string j.text) F4 rfl rfl (r_loadB S1.at' 0 TI_9 rfl rfl (F4.ev 3 rfl) rfl rfl (fun _ => rfl) rfl) rfl fun _ F5 => ?_)
 refine l_op (f_val F5 rfl rfl (r_lenS (fun t ht => by cases ht; exact Tryz.underlying9) rfl rfl (F5.ev 4 rfl)) rfl fun _ F6 => ?_)
 refine l_op (f_val F6 rfl rfl (r_cmp (b := decide (j.text.size ≤ 20000)) (.inr (.inr (.inr (.inl rfl)))) rfl (F6.ev 5 rfl) rfl (dec_of (by omega))) rfl fun _ F7 => ?_)
 refine l_op (f_mv F7 rfl rfl rfl rfl rfl fun _ F8 => ?_)
 rcases Decidable.em (j.text.size ≤ 20000) with h9 | h9
 · rw [decide_eq_true h9] at F8
   refine l_op (f_val F8 (wanted_g F8 rfl rfl rfl rfl) rfl (r_field FI_38_1 rfl (F8.ev 1 rfl) rfl) rfl fun _ F10 => ?_)
   refine l_op (f_val (v := .int .i64 j.sure) F10 (wanted_g F10 rfl rfl rfl rfl) rfl (r_loadB S1.at' 0 TI_3 rfl rfl (F10.ev 8 rfl) rfl rfl (fun _ => rfl) rfl) rfl fun _ F11 => ?_)
   refine l_op (f_val F11 (wanted_g F11 rfl rfl rfl rfl) rfl (r_field FI_38_0 rfl (F11.ev 1 rfl) rfl) rfl fun _ F12 => ?_)
   refine l_op (f_val (v := .string j.text) F12 (wanted_g F12 rfl rfl rfl rfl) rfl (r_loadB S1.at' 0 TI_9 rfl rfl (F12.ev 10 rfl) rfl rfl (fun _ => rfl) rfl) rfl fun _ F13 => ?_)
   refine l_op (f_val F13 (wanted_g F13 rfl rfl rfl rfl) rfl (r_lenS (fun t ht => by cases ht; exact Tryz.underlying9) rfl rfl (F13.ev 11 rfl)) rfl fun _ F14 => ?_)
   refine l_op (f_call F14 CF_26 (wanted_g F14 rfl rfl rfl rfl) rfl rfl rfl (lc (F14.ev 9 rfl) (lc rfl (lc (F14.ev 12 rfl) rfl))) (impl_within_c (H := fun _ => True) (n := j.sure) (low := 0) (high := ((j.text.size : Nat) : Int)) (by first | assumption | exact ⟨by omega, by omega⟩ | (unfold i64ok at *; omega)) (by first | assumption | exact ⟨by omega, by omega⟩ | (unfold i64ok at *; omega)) (by first | assumption | exact ⟨by omega, by omega⟩ | (unfold i64ok at *; omega))) ?_)
   rintro _ w15 ⟨rfl, m15⟩
   refine ⟨_, rfl, fun _ F16 => ?_⟩
   have S15 := At.frame0 S1.at' m15
   clear m15
   refine l_op (f_val F16 rfl rfl (r_pick (b := true) rfl (F16.ev 7 rfl) (F16.ev 13 rfl)) rfl fun _ F17 => ?_)
   refine l_op (f_as F17 rfl rfl rfl rfl rfl fun _ F18 => ?_)
   have F19 : Fr 15 [(2, .bool (inB j.sure 0 ((j.text.size : Nat) : Int)))] _ := F18.cut rfl
   clear F0 F2 F3 F4 F5 F6 F7 F8 F10 F11 F12 F13 F14 F16 F17 F18
   have T20 : Mv _ _ [bx b1 [.string j.text, .int .i64 j.sure] 38] _ := S15
   refine s_end (x_normal (wp_ret ?_))
   refine x_done (v := .bool (inB j.sure 0 ((j.text.size : Nat) : Int))) F19 (results_1 Tryz.results49 (.tmp (F19.ev 2 rfl))) ?_
   exact ⟨(by rw [(show (inB j.sure 0 ((j.text.size : Nat) : Int)) = (jouOk j) from by first | exact jo_t (by assumption) | exact jo_f (by assumption))]), (Mv.pick (S1.trans T20) [] rfl)⟩
 · rw [decide_eq_false h9] at F8
   refine l_op (f_skip F8 (wanted_g F8 rfl rfl rfl rfl) rfl rfl fun _ F21 => ?_)
   refine l_op (f_skip F21 (wanted_g F21 rfl rfl rfl rfl) rfl rfl fun _ F22 => ?_)
   refine l_op (f_skip F22 (wanted_g F22 rfl rfl rfl rfl) rfl rfl fun _ F23 => ?_)
   refine l_op (f_skip F23 (wanted_g F23 rfl rfl rfl rfl) rfl rfl fun _ F24 => ?_)
   refine l_op (f_skip F24 (wanted_g F24 rfl rfl rfl rfl) rfl rfl fun _ F25 => ?_)
   refine l_op (f_skip F25 (wanted_g F25 rfl rfl rfl rfl) rfl rfl fun _ F26 => ?_)
   refine l_op (f_val F26 rfl rfl (r_pick (b := false) rfl (F26.ev 7 rfl) rfl) rfl fun _ F27 => ?_)
   refine l_op (f_as F27 rfl rfl rfl rfl rfl fun _ F28 => ?_)
   have F29 : Fr 15 [(2, .bool false)] _ := F28.cut rfl
   clear F0 F2 F3 F4 F5 F6 F7 F8 F21 F22 F23 F24 F25 F26 F27 F28
   refine s_end (x_normal (wp_ret ?_))
   refine x_done (v := .bool false) F29 (results_1 Tryz.results49 (.tmp (F29.ev 2 rfl))) ?_
   exact ⟨(by rw [(show false = (jouOk j) from by first | exact jo_t (by assumption) | exact jo_f (by assumption))]), (Mv.pick S1 [] rfl)⟩
theorem spec_JournalOk_c {w : World} {H : Nat → Prop} {j : JouD} (Q1 : okS j.text) (Q0 : i64ok j.sure) :
    Calls Tryz.prog 41 #[.agg #[.string j.text, .int .i64 j.sure]] w fun e w' => e = .returned (.bool (jouOk j)) ∧ Mv [] w [] w' := by
 have uU : True := (fun _ _ => trivial) H Q0
 clear uU
 have z1 := Q1
 unfold okS at z1
 refine calls_enter 15 Tryz.func41 rfl Tryz.ntmps41 (Nat.le_of_ble_eq_true rfl) (fun _ F0i => ?_)
 have F0 : Fr 15 [(0, .agg #[.string j.text, .int .i64 j.sure])] _ := F0i
 clear F0i
 refine wp_seq (wp_region_lit (l_op (f_box F0 (At.nil w) rfl rfl rfl (F0.ev 0 rfl) rfl rfl fun b1 _ w1 F2 S1 => ?_)))
 refine l_op (f_val F2 rfl rfl (r_assign rfl rfl) rfl fun _ F3 => ?_)
 refine s_end (x_normal (wp_seq (wp_region_lit (l_op (f_val F3 rfl rfl (r_field FI_38_0 rfl (F3.ev 1 rfl) rfl) rfl fun _ F4 => ?_)))))
 refine l_op (f_val (v := .string j.text) F4 rfl rfl (r_loadB S1.at' 0 TI_9 rfl rfl (F4.ev 3 rfl) rfl rfl (fun _ => rfl) rfl) rfl fun _ F5 => ?_)
 refine l_op (f_val F5 rfl rfl (r_lenS (fun t ht => by cases ht; exact Tryz.underlying9) rfl rfl (F5.ev 4 rfl)) rfl fun _ F6 => ?_)
 refine l_op (f_val F6 rfl rfl (r_cmp (b := decide (j.text.size ≤ 20000)) (.inr (.inr (.inr (.inl rfl)))) rfl (F6.ev 5 rfl) rfl (dec_of (by omega))) rfl fun _ F7 => ?_)
 refine l_op (f_mv F7 rfl rfl rfl rfl rfl fun _ F8 => ?_)
 rcases Decidable.em (j.text.size ≤ 20000) with h9 | h9
 · rw [decide_eq_true h9] at F8
   refine l_op (f_val F8 (wanted_g F8 rfl rfl rfl rfl) rfl (r_field FI_38_1 rfl (F8.ev 1 rfl) rfl) rfl fun _ F10 => ?_)
   refine l_op (f_val (v := .int .i64 j.sure) F10 (wanted_g F10 rfl rfl rfl rfl) rfl (r_loadB S1.at' 0 TI_3 rfl rfl (F10.ev 8 rfl) rfl rfl (fun _ => rfl) rfl) rfl fun _ F11 => ?_)
   refine l_op (f_val F11 (wanted_g F11 rfl rfl rfl rfl) rfl (r_field FI_38_0 rfl (F11.ev 1 rfl) rfl) rfl fun _ F12 => ?_)
   refine l_op (f_val (v := .string j.text) F12 (wanted_g F12 rfl rfl rfl rfl) rfl (r_loadB S1.at' 0 TI_9 rfl rfl (F12.ev 10 rfl) rfl rfl (fun _ => rfl) rfl) rfl fun _ F13 => ?_)
   refine l_op (f_val F13 (wanted_g F13 rfl rfl rfl rfl) rfl (r_lenS (fun t ht => by cases ht; exact Tryz.underlying9) rfl rfl (F13.ev 11 rfl)) rfl fun _ F14 => ?_)
   refine l_op (f_call F14 CF_17 (wanted_g F14 rfl rfl rfl rfl) rfl rfl rfl (lc (F14.ev 9 rfl) (lc rfl (lc (F14.ev 12 rfl) rfl))) (spec_l01In_c (H := fun _ => True) (x := j.sure) (least := 0) (most := ((j.text.size : Nat) : Int)) (by first | assumption | exact ⟨by omega, by omega⟩ | (unfold i64ok at *; omega)) (by first | assumption | exact ⟨by omega, by omega⟩ | (unfold i64ok at *; omega)) (by first | assumption | exact ⟨by omega, by omega⟩ | (unfold i64ok at *; omega))) ?_)
   rintro _ w15 ⟨rfl, m15⟩
   refine ⟨_, rfl, fun _ F16 => ?_⟩
   have S15 := At.frame0 S1.at' m15
   clear m15
   refine l_op (f_val F16 rfl rfl (r_pick (b := true) rfl (F16.ev 7 rfl) (F16.ev 13 rfl)) rfl fun _ F17 => ?_)
   refine l_op (f_as F17 rfl rfl rfl rfl rfl fun _ F18 => ?_)
   have F19 : Fr 15 [(2, .bool (inB j.sure 0 ((j.text.size : Nat) : Int)))] _ := F18.cut rfl
   clear F0 F2 F3 F4 F5 F6 F7 F8 F10 F11 F12 F13 F14 F16 F17 F18
   have T20 : Mv _ _ [bx b1 [.string j.text, .int .i64 j.sure] 38] _ := S15
   refine s_end (x_normal (wp_ret ?_))
   refine x_done (v := .bool (inB j.sure 0 ((j.text.size : Nat) : Int))) F19 (results_1 Tryz.results41 (.tmp (F19.ev 2 rfl))) ?_
   exact ⟨(by rw [(show (inB j.sure 0 ((j.text.size : Nat) : Int)) = (jouOk j) from by first | exact jo_t (by assumption) | exact jo_f (by assumption))]), (Mv.pick (S1.trans T20) [] rfl)⟩
 · rw [decide_eq_false h9] at F8
   refine l_op (f_skip F8 (wanted_g F8 rfl rfl rfl rfl) rfl rfl fun _ F21 => ?_)
   refine l_op (f_skip F21 (wanted_g F21 rfl rfl rfl rfl) rfl rfl fun _ F22 => ?_)
   refine l_op (f_skip F22 (wanted_g F22 rfl rfl rfl rfl) rfl rfl fun _ F23 => ?_)
   refine l_op (f_skip F23 (wanted_g F23 rfl rfl rfl rfl) rfl rfl fun _ F24 => ?_)
   refine l_op (f_skip F24 (wanted_g F24 rfl rfl rfl rfl) rfl rfl fun _ F25 => ?_)
   refine l_op (f_skip F25 (wanted_g F25 rfl rfl rfl rfl) rfl rfl fun _ F26 => ?_)
   refine l_op (f_val F26 rfl rfl (r_pick (b := false) rfl (F26.ev 7 rfl) rfl) rfl fun _ F27 => ?_)
   refine l_op (f_as F27 rfl rfl rfl rfl rfl fun _ F28 => ?_)
   have F29 : Fr 15 [(2, .bool false)] _ := F28.cut rfl
   clear F0 F2 F3 F4 F5 F6 F7 F8 F21 F22 F23 F24 F25 F26 F27 F28
   refine s_end (x_normal (wp_ret ?_))
   refine x_done (v := .bool false) F29 (results_1 Tryz.results41 (.tmp (F29.ev 2 rfl))) ?_
   exact ⟨(by rw [(show false = (jouOk j) from by first | exact jo_t (by assumption) | exact jo_f (by assumption))]), (Mv.pick S1 [] rfl)⟩
end Go.Proofs.YtgfilegkabbliaaGreat
