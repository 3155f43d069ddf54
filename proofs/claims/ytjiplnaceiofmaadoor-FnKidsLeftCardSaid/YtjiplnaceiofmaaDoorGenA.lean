/-
  Walks: numbers in a range, beginnings of texts, reading a store.
-/
import Derived.Test.YtjiplnaceiofmaaDoorDat
namespace Go.Proofs.YtjiplnaceiofmaaDoor
open Go.ChangeShapes Go.WideShapes Go.ChangeAt Go.RowKit
set_option maxRecDepth 100000
set_option maxHeartbeats 1000000
theorem impl_within_c {w : World} {H : Nat → Prop} {n : Int} {low : Int} {high : Int} (h_n : i64ok n) (h_low : i64ok low) (h_high : i64ok high) :
    Calls Tryd.prog 94 #[.int .i64 n, .int .i64 low, .int .i64 high] w fun e w' => e = .returned (.bool (inB n low high)) ∧ Mv [] w [] w' := by
 have uU : True := (fun _ _ _ _ => trivial) H h_n h_low h_high
 clear uU
 refine calls_enter 15 Tryd.func94 rfl Tryd.ntmps94 (Nat.le_of_ble_eq_true rfl) (fun _ F0i => ?_)
 have F0 : Fr 15 [(0, .int .i64 n), (1, .int .i64 low), (2, .int .i64 high)] _ := F0i
 clear F0i
 refine wp_seq (wp_region_lit (l_op (f_val F0 rfl rfl (r_assign rfl rfl) rfl fun _ F1 => ?_)))
 have F2 : Fr 15 [(6, .bool false), (0, .int .i64 n), (1, .int .i64 low), (2, .int .i64 high)] _ := F1.cut rfl
 clear F0 F1
 refine s_end (x_normal (wp_seq (wp_region_lit (l_op (f_mv F2 rfl rfl rfl rfl rfl fun _ F3 => ?_)))))
 refine l_op (f_mv F3 rfl rfl rfl rfl rfl fun _ F4 => ?_)
 refine l_op (f_val F4 rfl rfl (r_cmp (b := decide (n ≥ low)) (.inr (.inr (.inr (.inr (.inr rfl))))) rfl (F4.ev 7 rfl) (F4.ev 8 rfl) (dec_of (by omega))) rfl fun _ F5 => ?_)
 refine l_op (f_mv F5 rfl rfl rfl rfl rfl fun _ F6 => ?_)
 rcases Decidable.em (n ≥ low) with h7 | h7
 · rw [decide_eq_true h7] at F6
   refine l_op (f_mv F6 (wanted_g F6 rfl rfl rfl rfl) rfl rfl rfl rfl fun _ F8 => ?_)
   refine l_op (f_mv F8 (wanted_g F8 rfl rfl rfl rfl) rfl rfl rfl rfl fun _ F9 => ?_)
   refine l_op (f_val F9 (wanted_g F9 rfl rfl rfl rfl) rfl (r_cmp (b := decide (n ≤ high)) (.inr (.inr (.inr (.inl rfl)))) rfl (F9.ev 11 rfl) (F9.ev 12 rfl) (dec_of (by omega))) rfl fun _ F10 => ?_)
   refine l_op (f_val F10 rfl rfl (r_pick (b := true) rfl (F10.ev 10 rfl) (F10.ev 13 rfl)) rfl fun _ F11 => ?_)
   refine l_op (f_as F11 rfl rfl rfl rfl rfl fun _ F12 => ?_)
   have F13 : Fr 15 [(6, .bool (decide (n ≤ high)))] _ := F12.cut rfl
   clear F2 F3 F4 F5 F6 F8 F9 F10 F11 F12
   refine s_end (x_normal (wp_ret ?_))
   refine x_done (v := .bool (decide (n ≤ high))) F13 (results_1 Tryd.results94 (.tmp (F13.ev 6 rfl))) ?_
   exact ⟨(by rw [(show (decide (n ≤ high)) = (inB n low high) from by unfold inB; first | rfl | exact dec_of (by omega) | exact (decide_eq_false (by omega)).symm | exact (decide_eq_true (by omega)).symm)]), (Mv.pick (Mv.refl (At.nil w)) [] rfl)⟩
 · rw [decide_eq_false h7] at F6
   refine l_op (f_skip F6 (wanted_g F6 rfl rfl rfl rfl) rfl rfl fun _ F14 => ?_)
   refine l_op (f_skip F14 (wanted_g F14 rfl rfl rfl rfl) rfl rfl fun _ F15 => ?_)
   refine l_op (f_skip F15 (wanted_g F15 rfl rfl rfl rfl) rfl rfl fun _ F16 => ?_)
   refine l_op (f_val F16 rfl rfl (r_pick (b := false) rfl (F16.ev 10 rfl) rfl) rfl fun _ F17 => ?_)
   refine l_op (f_as F17 rfl rfl rfl rfl rfl fun _ F18 => ?_)
   have F19 : Fr 15 [(6, .bool false)] _ := F18.cut rfl
   clear F2 F3 F4 F5 F6 F14 F15 F16 F17 F18
   refine s_end (x_normal (wp_ret ?_))
   refine x_done (v := .bool false) F19 (results_1 Tryd.results94 (.tmp (F19.ev 6 rfl))) ?_
   exact ⟨(by rw [(show false = (inB n low high) from by unfold inB; first | rfl | exact dec_of (by omega) | exact (decide_eq_false (by omega)).symm | exact (decide_eq_true (by omega)).symm)]), (Mv.pick (Mv.refl (At.nil w)) [] rfl)⟩
end Go.Proofs.YtjiplnaceiofmaaDoor
