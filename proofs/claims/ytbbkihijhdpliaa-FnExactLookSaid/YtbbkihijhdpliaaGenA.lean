/-
  Walks: numbers in a range, beginnings of texts, reading a store.
-/
import Derived.Test.YtbbkihijhdpliaaDat
namespace Go.Proofs.Ytbbkihijhdpliaa
open Go.ChangeShapes Go.WideShapes Go.ChangeAt Go.RowKit
set_option maxRecDepth 100000
set_option maxHeartbeats 1000000
theorem spec_l01In_c {w : World} {H : Nat → Prop} {x : Int} {least : Int} {most : Int} (h_x : i64ok x) (h_least : i64ok least) (h_most : i64ok most) :
    Calls Try.prog 117 #[.int .i64 x, .int .i64 least, .int .i64 most] w fun e w' => e = .returned (.bool (inB x least most)) ∧ Mv [] w [] w' := by
  refine calls_enter 15 Try.func117 rfl Try.ntmps117 (Nat.le_of_ble_eq_true rfl) (fun a0 F0i => ?_)
  have F0 : Fr 15 [(0, .int .i64 x), (1, .int .i64 least), (2, .int .i64 most)] a0 := F0i
  clear F0i
  refine wp_seq ?_
  refine wp_region_lit ?_
  refine l_op (s_val rfl rfl (r_assign rfl rfl) fun a1 e1 => ?_)
  have F2 : Fr 15 [(6, .bool false), (0, .int .i64 x), (1, .int .i64 least), (2, .int .i64 most)] a1 := F0.put [0, 1, 2] e1 rfl
  clear e1 F0 a0
  refine s_end ?_
  refine x_normal ?_
  refine wp_seq ?_
  refine wp_region_lit ?_
  refine l_op (s_val rfl rfl (r_move rfl (F2.ev 1 rfl)) fun a3 e3 => ?_)
  have F4 : Fr 15 [(7, .int .i64 x), (6, .bool false), (0, .int .i64 x), (1, .int .i64 least), (2, .int .i64 most)] a3 := F2.put [0, 1, 2, 3] e3 rfl
  clear e3 F2 a1
  refine l_op (s_val rfl rfl (r_move rfl (F4.ev 3 rfl)) fun a5 e5 => ?_)
  have F6 : Fr 15 [(8, .int .i64 least), (7, .int .i64 x), (6, .bool false), (0, .int .i64 x), (2, .int .i64 most)] a5 := F4.put [0, 1, 2, 4] e5 rfl
  clear e5 F4 a3
  refine l_op (s_val rfl rfl (r_cmp (b := decide (x ≥ least)) (.inr (.inr (.inr (.inr (.inr rfl))))) rfl (F6.ev 1 rfl) (F6.ev 0 rfl) (dec_of (by omega))) fun a7 e7 => ?_)
  have F8 : Fr 15 [(9, .bool (decide (x ≥ least))), (6, .bool false), (0, .int .i64 x), (2, .int .i64 most)] a7 := F6.put [2, 3, 4] e7 rfl
  clear e7 F6 a5
  refine l_op (s_val rfl rfl (r_move rfl (F8.ev 0 rfl)) fun a9 e9 => ?_)
  rcases Decidable.em (x ≥ least) with h10 | h10
  · skip
    rw [decide_eq_true h10] at e9
    have F11 : Fr 15 [(10, .bool true), (6, .bool false), (0, .int .i64 x), (2, .int .i64 most)] a9 := F8.put [1, 2, 3] e9 rfl
    clear e9 F8 a7
    refine l_op (s_val (wanted_g F11 0 rfl rfl rfl rfl) rfl (r_move rfl (F11.ev 2 rfl)) fun a12 e12 => ?_)
    have F13 : Fr 15 [(11, .int .i64 x), (10, .bool true), (6, .bool false), (2, .int .i64 most)] a12 := F11.put [0, 1, 3] e12 rfl
    clear e12 F11 a9
    refine l_op (s_val (wanted_g F13 1 rfl rfl rfl rfl) rfl (r_move rfl (F13.ev 3 rfl)) fun a14 e14 => ?_)
    have F15 : Fr 15 [(12, .int .i64 most), (11, .int .i64 x), (10, .bool true), (6, .bool false)] a14 := F13.put [0, 1, 2] e14 rfl
    clear e14 F13 a12
    refine l_op (s_val (wanted_g F15 2 rfl rfl rfl rfl) rfl (r_cmp (b := decide (x ≤ most)) (.inr (.inr (.inr (.inl rfl)))) rfl (F15.ev 1 rfl) (F15.ev 0 rfl) (dec_of (by omega))) fun a16 e16 => ?_)
    have F17 : Fr 15 [(13, .bool (decide (x ≤ most))), (10, .bool true), (6, .bool false)] a16 := F15.put [2, 3] e16 rfl
    clear e16 F15 a14
    refine l_op (s_val rfl rfl (r_pick (b := true) rfl (F17.ev 1 rfl) (F17.ev 0 rfl)) fun a18 e18 => ?_)
    have F19 : Fr 15 [(14, .bool (decide (x ≤ most))), (6, .bool false)] a18 := F17.put [2] e18 rfl
    clear e18 F17 a16
    refine l_op (s_val rfl rfl (r_assign rfl (F19.ev 0 rfl)) fun a20 e20 => ?_)
    have F21 : Fr 15 [(6, .bool (decide (x ≤ most)))] a20 := F19.put [] e20 rfl
    clear e20 F19 a18
    refine s_end ?_
    refine x_normal ?_
    refine wp_ret ?_
    refine x_done (v := .bool (decide (x ≤ most))) F21 (results_1 Try.results117 (.tmp (F21.ev 0 rfl))) ?_
    exact ⟨(by rw [(show (decide (x ≤ most)) = (inB x least most) from by unfold inB; first | rfl | exact dec_of (by omega) | exact (decide_eq_false (by omega)).symm | exact (decide_eq_true (by omega)).symm)]), (Mv.pick (Mv.refl (At.nil w)) [] rfl)⟩
  · skip
    rw [decide_eq_false h10] at e9
    have F22 : Fr 15 [(10, .bool false), (6, .bool false), (0, .int .i64 x), (2, .int .i64 most)] a9 := F8.put [1, 2, 3] e9 rfl
    clear e9 F8 a7
    refine l_op (s_skip (wanted_g F22 0 rfl rfl rfl rfl) rfl fun a23 e23 => ?_)
    have F24 : Fr 15 [(11, undef), (10, .bool false), (6, .bool false), (2, .int .i64 most)] a23 := F22.put [0, 1, 3] e23 rfl
    clear e23 F22 a9
    refine l_op (s_skip (wanted_g F24 1 rfl rfl rfl rfl) rfl fun a25 e25 => ?_)
    have F26 : Fr 15 [(12, undef), (11, undef), (10, .bool false), (6, .bool false)] a25 := F24.put [0, 1, 2] e25 rfl
    clear e25 F24 a23
    refine l_op (s_skip (wanted_g F26 2 rfl rfl rfl rfl) rfl fun a27 e27 => ?_)
    have F28 : Fr 15 [(13, undef), (10, .bool false), (6, .bool false)] a27 := F26.put [2, 3] e27 rfl
    clear e27 F26 a25
    refine l_op (s_val rfl rfl (r_pick (b := false) rfl (F28.ev 1 rfl) rfl) fun a29 e29 => ?_)
    have F30 : Fr 15 [(14, .bool false), (6, .bool false)] a29 := F28.put [2] e29 rfl
    clear e29 F28 a27
    refine l_op (s_val rfl rfl (r_assign rfl (F30.ev 0 rfl)) fun a31 e31 => ?_)
    have F32 : Fr 15 [(6, .bool false)] a31 := F30.put [] e31 rfl
    clear e31 F30 a29
    refine s_end ?_
    refine x_normal ?_
    refine wp_ret ?_
    refine x_done (v := .bool false) F32 (results_1 Try.results117 (.tmp (F32.ev 0 rfl))) ?_
    exact ⟨(by rw [(show false = (inB x least most) from by unfold inB; first | rfl | exact dec_of (by omega) | exact (decide_eq_false (by omega)).symm | exact (decide_eq_true (by omega)).symm)]), (Mv.pick (Mv.refl (At.nil w)) [] rfl)⟩
theorem impl_within_c {w : World} {H : Nat → Prop} {n : Int} {low : Int} {high : Int} (h_n : i64ok n) (h_low : i64ok low) (h_high : i64ok high) :
    Calls Try.prog 156 #[.int .i64 n, .int .i64 low, .int .i64 high] w fun e w' => e = .returned (.bool (inB n low high)) ∧ Mv [] w [] w' := by
  refine calls_enter 15 Try.func156 rfl Try.ntmps156 (Nat.le_of_ble_eq_true rfl) (fun a0 F0i => ?_)
  have F0 : Fr 15 [(0, .int .i64 n), (1, .int .i64 low), (2, .int .i64 high)] a0 := F0i
  clear F0i
  refine wp_seq ?_
  refine wp_region_lit ?_
  refine l_op (s_val rfl rfl (r_assign rfl rfl) fun a1 e1 => ?_)
  have F2 : Fr 15 [(6, .bool false), (0, .int .i64 n), (1, .int .i64 low), (2, .int .i64 high)] a1 := F0.put [0, 1, 2] e1 rfl
  clear e1 F0 a0
  refine s_end ?_
  refine x_normal ?_
  refine wp_seq ?_
  refine wp_region_lit ?_
  refine l_op (s_val rfl rfl (r_move rfl (F2.ev 1 rfl)) fun a3 e3 => ?_)
  have F4 : Fr 15 [(7, .int .i64 n), (6, .bool false), (0, .int .i64 n), (1, .int .i64 low), (2, .int .i64 high)] a3 := F2.put [0, 1, 2, 3] e3 rfl
  clear e3 F2 a1
  refine l_op (s_val rfl rfl (r_move rfl (F4.ev 3 rfl)) fun a5 e5 => ?_)
  have F6 : Fr 15 [(8, .int .i64 low), (7, .int .i64 n), (6, .bool false), (0, .int .i64 n), (2, .int .i64 high)] a5 := F4.put [0, 1, 2, 4] e5 rfl
  clear e5 F4 a3
  refine l_op (s_val rfl rfl (r_cmp (b := decide (n ≥ low)) (.inr (.inr (.inr (.inr (.inr rfl))))) rfl (F6.ev 1 rfl) (F6.ev 0 rfl) (dec_of (by omega))) fun a7 e7 => ?_)
  have F8 : Fr 15 [(9, .bool (decide (n ≥ low))), (6, .bool false), (0, .int .i64 n), (2, .int .i64 high)] a7 := F6.put [2, 3, 4] e7 rfl
  clear e7 F6 a5
  refine l_op (s_val rfl rfl (r_move rfl (F8.ev 0 rfl)) fun a9 e9 => ?_)
  rcases Decidable.em (n ≥ low) with h10 | h10
  · skip
    rw [decide_eq_true h10] at e9
    have F11 : Fr 15 [(10, .bool true), (6, .bool false), (0, .int .i64 n), (2, .int .i64 high)] a9 := F8.put [1, 2, 3] e9 rfl
    clear e9 F8 a7
    refine l_op (s_val (wanted_g F11 0 rfl rfl rfl rfl) rfl (r_move rfl (F11.ev 2 rfl)) fun a12 e12 => ?_)
    have F13 : Fr 15 [(11, .int .i64 n), (10, .bool true), (6, .bool false), (2, .int .i64 high)] a12 := F11.put [0, 1, 3] e12 rfl
    clear e12 F11 a9
    refine l_op (s_val (wanted_g F13 1 rfl rfl rfl rfl) rfl (r_move rfl (F13.ev 3 rfl)) fun a14 e14 => ?_)
    have F15 : Fr 15 [(12, .int .i64 high), (11, .int .i64 n), (10, .bool true), (6, .bool false)] a14 := F13.put [0, 1, 2] e14 rfl
    clear e14 F13 a12
    refine l_op (s_val (wanted_g F15 2 rfl rfl rfl rfl) rfl (r_cmp (b := decide (n ≤ high)) (.inr (.inr (.inr (.inl rfl)))) rfl (F15.ev 1 rfl) (F15.ev 0 rfl) (dec_of (by omega))) fun a16 e16 => ?_)
    have F17 : Fr 15 [(13, .bool (decide (n ≤ high))), (10, .bool true), (6, .bool false)] a16 := F15.put [2, 3] e16 rfl
    clear e16 F15 a14
    refine l_op (s_val rfl rfl (r_pick (b := true) rfl (F17.ev 1 rfl) (F17.ev 0 rfl)) fun a18 e18 => ?_)
    have F19 : Fr 15 [(14, .bool (decide (n ≤ high))), (6, .bool false)] a18 := F17.put [2] e18 rfl
    clear e18 F17 a16
    refine l_op (s_val rfl rfl (r_assign rfl (F19.ev 0 rfl)) fun a20 e20 => ?_)
    have F21 : Fr 15 [(6, .bool (decide (n ≤ high)))] a20 := F19.put [] e20 rfl
    clear e20 F19 a18
    refine s_end ?_
    refine x_normal ?_
    refine wp_ret ?_
    refine x_done (v := .bool (decide (n ≤ high))) F21 (results_1 Try.results156 (.tmp (F21.ev 0 rfl))) ?_
    exact ⟨(by rw [(show (decide (n ≤ high)) = (inB n low high) from by unfold inB; first | rfl | exact dec_of (by omega) | exact (decide_eq_false (by omega)).symm | exact (decide_eq_true (by omega)).symm)]), (Mv.pick (Mv.refl (At.nil w)) [] rfl)⟩
  · skip
    rw [decide_eq_false h10] at e9
    have F22 : Fr 15 [(10, .bool false), (6, .bool false), (0, .int .i64 n), (2, .int .i64 high)] a9 := F8.put [1, 2, 3] e9 rfl
    clear e9 F8 a7
    refine l_op (s_skip (wanted_g F22 0 rfl rfl rfl rfl) rfl fun a23 e23 => ?_)
    have F24 : Fr 15 [(11, undef), (10, .bool false), (6, .bool false), (2, .int .i64 high)] a23 := F22.put [0, 1, 3] e23 rfl
    clear e23 F22 a9
    refine l_op (s_skip (wanted_g F24 1 rfl rfl rfl rfl) rfl fun a25 e25 => ?_)
    have F26 : Fr 15 [(12, undef), (11, undef), (10, .bool false), (6, .bool false)] a25 := F24.put [0, 1, 2] e25 rfl
    clear e25 F24 a23
    refine l_op (s_skip (wanted_g F26 2 rfl rfl rfl rfl) rfl fun a27 e27 => ?_)
    have F28 : Fr 15 [(13, undef), (10, .bool false), (6, .bool false)] a27 := F26.put [2, 3] e27 rfl
    clear e27 F26 a25
    refine l_op (s_val rfl rfl (r_pick (b := false) rfl (F28.ev 1 rfl) rfl) fun a29 e29 => ?_)
    have F30 : Fr 15 [(14, .bool false), (6, .bool false)] a29 := F28.put [2] e29 rfl
    clear e29 F28 a27
    refine l_op (s_val rfl rfl (r_assign rfl (F30.ev 0 rfl)) fun a31 e31 => ?_)
    have F32 : Fr 15 [(6, .bool false)] a31 := F30.put [] e31 rfl
    clear e31 F30 a29
    refine s_end ?_
    refine x_normal ?_
    refine wp_ret ?_
    refine x_done (v := .bool false) F32 (results_1 Try.results156 (.tmp (F32.ev 0 rfl))) ?_
    exact ⟨(by rw [(show false = (inB n low high) from by unfold inB; first | rfl | exact dec_of (by omega) | exact (decide_eq_false (by omega)).symm | exact (decide_eq_true (by omega)).symm)]), (Mv.pick (Mv.refl (At.nil w)) [] rfl)⟩
theorem spec_l02Begins_c {w : World} {H : Nat → Prop} {s : ByteArray} {pfx : ByteArray} (h_s : okS s) (h_pfx : okS pfx) :
    Calls Try.prog 108 #[.string s, .string pfx] w fun e w' => e = .returned (.bool (begins s pfx)) ∧ Mv [] w [] w' := by
  refine calls_enter 18 Try.func108 rfl Try.ntmps108 (Nat.le_of_ble_eq_true rfl) (fun a0 F0i => ?_)
  have F0 : Fr 18 [(0, .string s), (1, .string pfx)] a0 := F0i
  clear F0i
  refine wp_seq ?_
  refine wp_region_lit ?_
  refine l_op (s_val rfl rfl (r_assign rfl rfl) fun a1 e1 => ?_)
  have F2 : Fr 18 [(4, .bool false), (0, .string s), (1, .string pfx)] a1 := F0.put [0, 1] e1 rfl
  clear e1 F0 a0
  refine s_end ?_
  refine x_normal ?_
  refine wp_seq ?_
  refine wp_region_lit ?_
  refine l_op (s_val rfl rfl (r_move rfl (F2.ev 1 rfl)) fun a3 e3 => ?_)
  have F4 : Fr 18 [(5, .string s), (4, .bool false), (0, .string s), (1, .string pfx)] a3 := F2.put [0, 1, 2] e3 rfl
  clear e3 F2 a1
  refine l_op (s_val rfl rfl (r_lenS (fun t ht => by cases ht; exact Try.underlying9) rfl rfl (F4.ev 0 rfl)) fun a5 e5 => ?_)
  have F6 : Fr 18 [(6, .int .i64 ((s.size : Nat) : Int)), (4, .bool false), (0, .string s), (1, .string pfx)] a5 := F4.put [1, 2, 3] e5 rfl
  clear e5 F4 a3
  refine l_op (s_val rfl rfl (r_move rfl (F6.ev 3 rfl)) fun a7 e7 => ?_)
  have F8 : Fr 18 [(7, .string pfx), (6, .int .i64 ((s.size : Nat) : Int)), (4, .bool false), (0, .string s), (1, .string pfx)] a7 := F6.put [0, 1, 2, 3] e7 rfl
  clear e7 F6 a5
  refine l_op (s_val rfl rfl (r_lenS (fun t ht => by cases ht; exact Try.underlying9) rfl rfl (F8.ev 0 rfl)) fun a9 e9 => ?_)
  have F10 : Fr 18 [(8, .int .i64 ((pfx.size : Nat) : Int)), (6, .int .i64 ((s.size : Nat) : Int)), (4, .bool false), (0, .string s), (1, .string pfx)] a9 := F8.put [1, 2, 3, 4] e9 rfl
  clear e9 F8 a7
  refine l_op (s_val rfl rfl (r_cmp (b := decide (s.size ≥ pfx.size)) (.inr (.inr (.inr (.inr (.inr rfl))))) rfl (F10.ev 1 rfl) (F10.ev 0 rfl) (dec_of (by omega))) fun a11 e11 => ?_)
  have F12 : Fr 18 [(9, .bool (decide (s.size ≥ pfx.size))), (4, .bool false), (0, .string s), (1, .string pfx)] a11 := F10.put [2, 3, 4] e11 rfl
  clear e11 F10 a9
  refine l_op (s_val rfl rfl (r_move rfl (F12.ev 0 rfl)) fun a13 e13 => ?_)
  rcases Decidable.em (s.size ≥ pfx.size) with h14 | h14
  · skip
    rw [decide_eq_true h14] at e13
    have F15 : Fr 18 [(10, .bool true), (4, .bool false), (0, .string s), (1, .string pfx)] a13 := F12.put [1, 2, 3] e13 rfl
    clear e13 F12 a11
    refine l_op (s_val (wanted_g F15 0 rfl rfl rfl rfl) rfl (r_move rfl (F15.ev 2 rfl)) fun a16 e16 => ?_)
    have F17 : Fr 18 [(11, .string s), (10, .bool true), (4, .bool false), (1, .string pfx)] a16 := F15.put [0, 1, 3] e16 rfl
    clear e16 F15 a13
    refine l_op (s_val (wanted_g F17 1 rfl rfl rfl rfl) rfl (r_move rfl (F17.ev 3 rfl)) fun a18 e18 => ?_)
    have F19 : Fr 18 [(12, .string pfx), (11, .string s), (10, .bool true), (4, .bool false), (1, .string pfx)] a18 := F17.put [0, 1, 2, 3] e18 rfl
    clear e18 F17 a16
    refine l_op (s_val (wanted_g F19 2 rfl rfl rfl rfl) rfl (r_lenS (fun t ht => by cases ht; exact Try.underlying9) rfl rfl (F19.ev 0 rfl)) fun a20 e20 => ?_)
    have F21 : Fr 18 [(13, .int .i64 ((pfx.size : Nat) : Int)), (11, .string s), (10, .bool true), (4, .bool false), (1, .string pfx)] a20 := F19.put [1, 2, 3, 4] e20 rfl
    clear e20 F19 a18
    refine l_op (s_val (wanted_g F21 2 rfl rfl rfl rfl) rfl (r_sliceS (l := 0) (h := pfx.size) Try.underlying9 rfl (F21.ev 1 rfl) rfl (F21.ev 0 rfl) (by first | assumption | omega) (by first | assumption | omega) rfl) fun a22 e22 => ?_)
    have F23 : Fr 18 [(14, .string (s.extract 0 pfx.size)), (10, .bool true), (4, .bool false), (1, .string pfx)] a22 := F21.put [2, 3, 4] e22 rfl
    clear e22 F21 a20
    refine l_op (s_val (wanted_g F23 1 rfl rfl rfl rfl) rfl (r_move rfl (F23.ev 3 rfl)) fun a24 e24 => ?_)
    have F25 : Fr 18 [(15, .string pfx), (14, .string (s.extract 0 pfx.size)), (10, .bool true), (4, .bool false)] a24 := F23.put [0, 1, 2] e24 rfl
    clear e24 F23 a22
    refine l_op (s_val (wanted_g F25 2 rfl rfl rfl rfl) rfl (r_cmps (b := (decide ((s.extract 0 pfx.size) = pfx))) (.inl rfl) rfl (F25.ev 1 rfl) (F25.ev 0 rfl) rfl) fun a26 e26 => ?_)
    have F27 : Fr 18 [(16, .bool (decide ((s.extract 0 pfx.size) = pfx))), (10, .bool true), (4, .bool false)] a26 := F25.put [2, 3] e26 rfl
    clear e26 F25 a24
    refine l_op (s_val rfl rfl (r_pick (b := true) rfl (F27.ev 1 rfl) (F27.ev 0 rfl)) fun a28 e28 => ?_)
    have F29 : Fr 18 [(17, .bool (decide ((s.extract 0 pfx.size) = pfx))), (4, .bool false)] a28 := F27.put [2] e28 rfl
    clear e28 F27 a26
    refine l_op (s_val rfl rfl (r_assign rfl (F29.ev 0 rfl)) fun a30 e30 => ?_)
    have F31 : Fr 18 [(4, .bool (decide ((s.extract 0 pfx.size) = pfx)))] a30 := F29.put [] e30 rfl
    clear e30 F29 a28
    refine s_end ?_
    refine x_normal ?_
    refine wp_ret ?_
    refine x_done (v := .bool (decide ((s.extract 0 pfx.size) = pfx))) F31 (results_1 Try.results108 (.tmp (F31.ev 0 rfl))) ?_
    exact ⟨(by rw [(show (decide ((s.extract 0 pfx.size) = pfx)) = (begins s pfx) from by unfold begins; by_cases hb : pfx.size ≤ s.size <;> simp_all <;> omega)]), (Mv.pick (Mv.refl (At.nil w)) [] rfl)⟩
  · skip
    rw [decide_eq_false h14] at e13
    have F32 : Fr 18 [(10, .bool false), (4, .bool false), (0, .string s), (1, .string pfx)] a13 := F12.put [1, 2, 3] e13 rfl
    clear e13 F12 a11
    refine l_op (s_skip (wanted_g F32 0 rfl rfl rfl rfl) rfl fun a33 e33 => ?_)
    have F34 : Fr 18 [(11, undef), (10, .bool false), (4, .bool false), (1, .string pfx)] a33 := F32.put [0, 1, 3] e33 rfl
    clear e33 F32 a13
    refine l_op (s_skip (wanted_g F34 1 rfl rfl rfl rfl) rfl fun a35 e35 => ?_)
    have F36 : Fr 18 [(12, undef), (11, undef), (10, .bool false), (4, .bool false), (1, .string pfx)] a35 := F34.put [0, 1, 2, 3] e35 rfl
    clear e35 F34 a33
    refine l_op (s_skip (wanted_g F36 2 rfl rfl rfl rfl) rfl fun a37 e37 => ?_)
    have F38 : Fr 18 [(13, undef), (11, undef), (10, .bool false), (4, .bool false), (1, .string pfx)] a37 := F36.put [1, 2, 3, 4] e37 rfl
    clear e37 F36 a35
    refine l_op (s_skip (wanted_g F38 2 rfl rfl rfl rfl) rfl fun a39 e39 => ?_)
    have F40 : Fr 18 [(14, undef), (10, .bool false), (4, .bool false), (1, .string pfx)] a39 := F38.put [2, 3, 4] e39 rfl
    clear e39 F38 a37
    refine l_op (s_skip (wanted_g F40 1 rfl rfl rfl rfl) rfl fun a41 e41 => ?_)
    have F42 : Fr 18 [(15, undef), (14, undef), (10, .bool false), (4, .bool false)] a41 := F40.put [0, 1, 2] e41 rfl
    clear e41 F40 a39
    refine l_op (s_skip (wanted_g F42 2 rfl rfl rfl rfl) rfl fun a43 e43 => ?_)
    have F44 : Fr 18 [(16, undef), (10, .bool false), (4, .bool false)] a43 := F42.put [2, 3] e43 rfl
    clear e43 F42 a41
    refine l_op (s_val rfl rfl (r_pick (b := false) rfl (F44.ev 1 rfl) rfl) fun a45 e45 => ?_)
    have F46 : Fr 18 [(17, .bool false), (4, .bool false)] a45 := F44.put [2] e45 rfl
    clear e45 F44 a43
    refine l_op (s_val rfl rfl (r_assign rfl (F46.ev 0 rfl)) fun a47 e47 => ?_)
    have F48 : Fr 18 [(4, .bool false)] a47 := F46.put [] e47 rfl
    clear e47 F46 a45
    refine s_end ?_
    refine x_normal ?_
    refine wp_ret ?_
    refine x_done (v := .bool false) F48 (results_1 Try.results108 (.tmp (F48.ev 0 rfl))) ?_
    exact ⟨(by rw [(show false = (begins s pfx) from by unfold begins; by_cases hb : pfx.size ≤ s.size <;> simp_all <;> omega)]), (Mv.pick (Mv.refl (At.nil w)) [] rfl)⟩
theorem spec_GetKey_c {w : World} {H : Nat → Prop} {s : List CellD} {s_a : Option Addr} {s_n s_c : Nat} {key : ByteArray} (v_s : Rd 2 encC okC H w (.slice s_a s_n s_c) s) (h_key : okS key) :
    Calls Try.prog 107 #[.slice s_a s_n s_c, .string key] w fun e w' => e = .returned (.string (getKey s key)) ∧ Mv [] w [] w' ∧ okS (getKey s key) := by
  have V_v_s : Rd 2 encC okC (V H w []) w (.slice s_a s_n s_c) s := Rd.start v_s (fun _ _ => fps_nil _)
  obtain ⟨ln_s, le_s, mx_s, ni_s⟩ := Rd.inv v_s
  refine calls_enter 24 Try.func107 rfl Try.ntmps107 (Nat.le_of_ble_eq_true rfl) (fun a0 F0i => ?_)
  have F0 : Fr 24 [(0, .slice s_a s_n s_c), (1, .string key)] a0 := F0i
  clear F0i
  refine wp_seq ?_
  refine wp_region_lit ?_
  refine l_op (s_val rfl rfl (r_assign rfl rfl) fun a1 e1 => ?_)
  have F2 : Fr 24 [(4, .string (⟨#[]⟩ : ByteArray)), (0, .slice s_a s_n s_c), (1, .string key)] a1 := F0.put [0, 1] e1 rfl
  clear e1 F0 a0
  refine s_end ?_
  refine x_normal ?_
  refine wp_seq ?_
  refine wp_seq ?_
  refine wp_region_lit ?_
  refine l_op (s_val rfl rfl (r_assign rfl rfl) fun a3 e3 => ?_)
  have F4 : Fr 24 [(5, .int .i64 0), (0, .slice s_a s_n s_c), (1, .string key)] a3 := F2.put [1, 2] e3 rfl
  clear e3 F2 a1
  refine s_end ?_
  refine x_normal ?_
  refine wp_block ?_
  refine x_loop (fun (k : Nat) aZ wZ => Fr 24 [(5, .int .i64 ((k : Nat) : Int)), (0, .slice s_a s_n s_c), (1, .string key)] aZ ∧ Mv [] w [] wZ ∧ (k ≤ s_n) ∧ (∀ j, j < k → ∀ y, nth s j = some y → y.key ≠ key)) (fun (k : Nat) => s_n - k) (0) ?_ ?_
  · exact ⟨F4.keep [0, 1, 2], (Mv.refl (At.nil w)), by omega, all_none⟩
  · rintro k a5 w5 ⟨F5, S5, hk_0, hk_1⟩
    refine wp_seq ?_
    refine wp_seq ?_
    refine wp_region_lit ?_
    refine l_op (s_val rfl rfl (r_move rfl (F5.ev 0 rfl)) fun a6 e6 => ?_)
    have F7 : Fr 24 [(6, .int .i64 ((k : Nat) : Int)), (5, .int .i64 ((k : Nat) : Int)), (0, .slice s_a s_n s_c), (1, .string key)] a6 := F5.put [0, 1, 2] e6 rfl
    clear e6 F5 a5
    refine l_op (s_val rfl rfl (r_move rfl (F7.ev 2 rfl)) fun a8 e8 => ?_)
    have F9 : Fr 24 [(7, .slice s_a s_n s_c), (6, .int .i64 ((k : Nat) : Int)), (5, .int .i64 ((k : Nat) : Int)), (0, .slice s_a s_n s_c), (1, .string key)] a8 := F7.put [0, 1, 2, 3] e8 rfl
    clear e8 F7 a6
    refine l_op (s_val rfl rfl (r_len Try.underlying46 rfl (F9.ev 0 rfl)) fun a10 e10 => ?_)
    have F11 : Fr 24 [(8, .int .i64 ((s_n : Nat) : Int)), (6, .int .i64 ((k : Nat) : Int)), (5, .int .i64 ((k : Nat) : Int)), (0, .slice s_a s_n s_c), (1, .string key)] a10 := F9.put [1, 2, 3, 4] e10 rfl
    clear e10 F9 a8
    refine l_op (s_val rfl rfl (r_cmp (b := decide (k < s_n)) (.inr (.inr (.inl rfl))) rfl (F11.ev 1 rfl) (F11.ev 0 rfl) (dec_of (by omega))) fun a12 e12 => ?_)
    have F13 : Fr 24 [(9, .bool (decide (k < s_n))), (5, .int .i64 ((k : Nat) : Int)), (0, .slice s_a s_n s_c), (1, .string key)] a12 := F11.put [2, 3, 4] e12 rfl
    clear e12 F11 a10
    refine s_end ?_
    refine x_normal ?_
    refine x_cond (p := k < s_n) (F13.ev 0 rfl) (fun h14 => ?_) (fun h14 => ?_)
    · skip
      refine wp_skip ?_
      refine x_normal ?_
      refine wp_seq ?_
      refine wp_block ?_
      refine wp_seq ?_
      refine wp_region_lit ?_
      refine l_op (s_val rfl rfl (r_move rfl (F13.ev 2 rfl)) fun a15 e15 => ?_)
      have F16 : Fr 24 [(12, .slice s_a s_n s_c), (5, .int .i64 ((k : Nat) : Int)), (0, .slice s_a s_n s_c), (1, .string key)] a15 := F13.put [1, 2, 3] e15 rfl
      clear e15 F13 a12
      refine l_op (s_val rfl rfl (r_move rfl (F16.ev 1 rfl)) fun a17 e17 => ?_)
      have F18 : Fr 24 [(13, .int .i64 ((k : Nat) : Int)), (12, .slice s_a s_n s_c), (5, .int .i64 ((k : Nat) : Int)), (0, .slice s_a s_n s_c), (1, .string key)] a17 := F16.put [0, 1, 2, 3] e17 rfl
      clear e17 F16 a15
      obtain ⟨B19, O19, x1, ad19, hx1, okx1, ln19, cl19⟩ := Rd.at (Rd.mv (Nat.succ_pos _) V_v_s S5) k (by first | assumption | omega)
      clear ln19
      refine l_op (s_val rfl rfl (r_indexAddr (i := k) ET_46 rfl ((F18.ev 1 rfl).trans (by rw [ad19])) (F18.ev 0 rfl) (by omega) (by first | assumption | omega)) fun a20 e20 => ?_)
      have F21 : Fr 24 [(14, .pointer (some ⟨B19, O19 + k * 2, none⟩)), (5, .int .i64 ((k : Nat) : Int)), (0, .slice s_a s_n s_c), (1, .string key)] a20 := F18.put [2, 3, 4] e20 rfl
      clear e20 F18 a17
      refine l_op (s_val rfl rfl (r_field FI_98_0 rfl (F21.ev 0 rfl) rfl) fun a22 e22 => ?_)
      have F23 : Fr 24 [(15, .pointer (some ⟨B19, O19 + k * 2, none⟩)), (5, .int .i64 ((k : Nat) : Int)), (0, .slice s_a s_n s_c), (1, .string key)] a22 := F21.put [1, 2, 3] e22 rfl
      clear e22 F21 a20
      refine l_op (s_val rfl rfl (r_load (cs := [.string x1.key]) TI_9 rfl (F23.ev 0 rfl) rfl (fun _ => rfl) (elem_sub (f := 0) cl19 [.string x1.key] rfl)) fun a24 e24 => ?_)
      have F25 : Fr 24 [(16, .string x1.key), (5, .int .i64 ((k : Nat) : Int)), (0, .slice s_a s_n s_c), (1, .string key)] a24 := F23.put [1, 2, 3] e24 rfl
      clear e24 F23 a22
      refine l_op (s_val rfl rfl (r_move rfl (F25.ev 3 rfl)) fun a26 e26 => ?_)
      have F27 : Fr 24 [(17, .string key), (16, .string x1.key), (5, .int .i64 ((k : Nat) : Int)), (0, .slice s_a s_n s_c), (1, .string key)] a26 := F25.put [0, 1, 2, 3] e26 rfl
      clear e26 F25 a24
      refine l_op (s_val rfl rfl (r_cmps (b := (decide (x1.key = key))) (.inl rfl) rfl (F27.ev 1 rfl) (F27.ev 0 rfl) rfl) fun a28 e28 => ?_)
      have F29 : Fr 24 [(18, .bool (decide (x1.key = key))), (5, .int .i64 ((k : Nat) : Int)), (0, .slice s_a s_n s_c), (1, .string key)] a28 := F27.put [2, 3, 4] e28 rfl
      clear e28 F27 a26
      refine s_end ?_
      refine x_normal ?_
      refine x_cond (p := x1.key = key) (F29.ev 0 rfl) (fun h30 => ?_) (fun h30 => ?_)
      · skip
        refine wp_seq ?_
        refine wp_region_lit ?_
        refine l_op (s_val rfl rfl (r_move rfl (F29.ev 2 rfl)) fun a31 e31 => ?_)
        have F32 : Fr 24 [(19, .slice s_a s_n s_c), (5, .int .i64 ((k : Nat) : Int))] a31 := F29.put [1] e31 rfl
        clear e31 F29 a28
        refine l_op (s_val rfl rfl (r_move rfl (F32.ev 1 rfl)) fun a33 e33 => ?_)
        have F34 : Fr 24 [(20, .int .i64 ((k : Nat) : Int)), (19, .slice s_a s_n s_c)] a33 := F32.put [0] e33 rfl
        clear e33 F32 a31
        obtain ⟨B35, O35, y35, ad35, hy35, oky35, ln35, cl35⟩ := Rd.at (Rd.mv (Nat.succ_pos _) V_v_s S5) k (by first | assumption | omega)
        clear ln35
        obtain rfl := Option.some.inj (hx1.symm.trans hy35)
        clear hy35 oky35
        refine l_op (s_val rfl rfl (r_indexAddr (i := k) ET_46 rfl ((F34.ev 1 rfl).trans (by rw [ad35])) (F34.ev 0 rfl) (by omega) (by first | assumption | omega)) fun a36 e36 => ?_)
        have F37 : Fr 24 [(21, .pointer (some ⟨B35, O35 + k * 2, none⟩))] a36 := F34.put [] e36 rfl
        clear e36 F34 a33
        refine l_op (s_val rfl rfl (r_field FI_98_1 rfl (F37.ev 0 rfl) rfl) fun a38 e38 => ?_)
        have F39 : Fr 24 [(22, .pointer (some ⟨B35, O35 + k * 2 + 1, none⟩))] a38 := F37.put [] e38 rfl
        clear e38 F37 a36
        refine l_op (s_val rfl rfl (r_load (cs := [.string x1.val]) TI_9 rfl (F39.ev 0 rfl) rfl (fun _ => rfl) (elem_sub (f := 1) cl35 [.string x1.val] rfl)) fun a40 e40 => ?_)
        have F41 : Fr 24 [(23, .string x1.val)] a40 := F39.put [] e40 rfl
        clear e40 F39 a38
        refine l_op (s_val rfl rfl (r_assign rfl (F41.ev 0 rfl)) fun a42 e42 => ?_)
        have F43 : Fr 24 [(4, .string x1.val)] a42 := F41.put [] e42 rfl
        clear e42 F41 a40
        refine s_end ?_
        refine x_normal ?_
        refine wp_ret ?_
        refine x_block_ret ?_
        refine x_then_ret ?_
        refine x_then_ret ?_
        refine x_block_ret ?_
        refine x_then_ret ?_
        refine x_done (v := .string x1.val) F43 (results_1 Try.results107 (.tmp (F43.ev 0 rfl))) ?_
        exact ⟨(by rw [(show x1.val = (getKey s key) from by exact (getKey_found hx1 (by assumption) hk_1).symm)]), (Mv.pick S5 [] rfl), ((show x1.val = (getKey s key) from by exact (getKey_found hx1 (by assumption) hk_1).symm) ▸ okx1.2)⟩
      · skip
        refine wp_skip ?_
        refine x_block_normal ?_
        refine x_normal ?_
        refine wp_region_lit ?_
        refine l_op (s_val rfl rfl (r_move rfl (F29.ev 1 rfl)) fun a44 e44 => ?_)
        have F45 : Fr 24 [(10, .int .i64 ((k : Nat) : Int)), (5, .int .i64 ((k : Nat) : Int)), (0, .slice s_a s_n s_c), (1, .string key)] a44 := F29.put [1, 2, 3] e44 rfl
        clear e44 F29 a28
        refine l_op (s_val rfl rfl (r_add (z := ((k + 1 : Nat) : Int)) rfl (F45.ev 0 rfl) rfl (by first | rfl | omega) ⟨by first | omega | (unfold i64ok at *; omega), by first | omega | (unfold i64ok at *; omega)⟩) fun a46 e46 => ?_)
        have F47 : Fr 24 [(11, .int .i64 ((k + 1 : Nat) : Int)), (5, .int .i64 ((k : Nat) : Int)), (0, .slice s_a s_n s_c), (1, .string key)] a46 := F45.put [1, 2, 3] e46 rfl
        clear e46 F45 a44
        refine l_op (s_val rfl rfl (r_assign rfl (F47.ev 0 rfl)) fun a48 e48 => ?_)
        have F49 : Fr 24 [(5, .int .i64 ((k + 1 : Nat) : Int)), (0, .slice s_a s_n s_c), (1, .string key)] a48 := F47.put [2, 3] e48 rfl
        clear e48 F47 a46
        refine s_end ?_
        refine x_normal ⟨k + 1, by omega, F49.keep [0, 1, 2], (S5.pick [] rfl), by omega, all_step hk_1 (fun y hy => by obtain rfl := Option.some.inj (hx1.symm.trans hy); assumption)⟩
    · skip
      refine wp_exit ?_
      refine x_then_exit ?_
      refine x_then_exit ?_
      refine x_block_here ?_
      refine x_normal ?_
      refine wp_seq ?_
      refine wp_region_lit ?_
      refine l_op (s_val rfl rfl (r_assign rfl rfl) fun a50 e50 => ?_)
      have F51 : Fr 24 [(4, .string (⟨#[]⟩ : ByteArray))] a50 := F13.put [] e50 rfl
      clear e50 F13 a12
      refine s_end ?_
      refine x_normal ?_
      refine wp_ret ?_
      refine x_done (v := .string (⟨#[]⟩ : ByteArray)) F51 (results_1 Try.results107 (.tmp (F51.ev 0 rfl))) ?_
      exact ⟨(by rw [(show (⟨#[]⟩ : ByteArray) = (getKey s key) from by exact (getKey_none (by omega) hk_1).symm)]), (Mv.pick S5 [] rfl), ((show (⟨#[]⟩ : ByteArray) = (getKey s key) from by exact (getKey_none (by omega) hk_1).symm) ▸ (by unfold okS; decide))⟩
theorem spec_KeysUnder_c {w : World} {H : Nat → Prop} {s : List CellD} {s_a : Option Addr} {s_n s_c : Nat} {pfx : ByteArray} (v_s : Rd 2 encC okC H w (.slice s_a s_n s_c) s) (h_pfx : okS pfx) (p0 : s_n ≤ 1099511627776) :
    Calls Try.prog 54 #[.slice s_a s_n s_c, .string pfx] w fun e w' => ∃ (r0_a : Option Addr), ∃ (r0_n : Nat), ∃ (r0_c : Nat), e = .returned (.slice r0_a r0_n r0_c) ∧ Mv [] w [] w' ∧ Rd 1 encS okS (Fsh H w) w' (.slice r0_a r0_n r0_c) (keysUnder s pfx) := by
  have V_v_s : Rd 2 encC okC (V H w []) w (.slice s_a s_n s_c) s := Rd.start v_s (fun _ _ => fps_nil _)
  obtain ⟨ln_s, le_s, mx_s, ni_s⟩ := Rd.inv v_s
  refine calls_enter 30 Try.func54 rfl Try.ntmps54 (Nat.le_of_ble_eq_true rfl) (fun a0 F0i => ?_)
  have F0 : Fr 30 [(0, .slice s_a s_n s_c), (1, .string pfx)] a0 := F0i
  clear F0i
  refine wp_seq ?_
  refine wp_region_lit ?_
  refine l_op (s_val rfl rfl (r_assign rfl rfl) fun a1 e1 => ?_)
  have F2 : Fr 30 [(4, .slice none 0 0), (0, .slice s_a s_n s_c), (1, .string pfx)] a1 := F0.put [0, 1] e1 rfl
  clear e1 F0 a0
  refine s_end ?_
  refine x_normal ?_
  refine wp_seq ?_
  refine wp_region_lit ?_
  refine l_op (s_buildSl (ok := okS) (vs := []) (At.nil w) (([] : List ByteArray)) ET_22 rfl rfl rfl rfl rfl rfl rfl (rowsOk rfl) (by simp) fun b3 a3 w3 e3 S3i => ?_)
  have S3 : Mv [] w [ow 9 1 encS okS (.slice (some ⟨b3, 0, none⟩) 0 0) ([] : List ByteArray)] w3 := S3i
  clear S3i
  have F4 : Fr 30 [(7, .slice (some ⟨b3, 0, none⟩) 0 0), (0, .slice s_a s_n s_c), (1, .string pfx)] a3 := F2.put [1, 2] e3 rfl
  clear e3 F2 a1
  refine l_op (s_val rfl rfl (r_assign rfl (F4.ev 0 rfl)) fun a5 e5 => ?_)
  have F6 : Fr 30 [(5, .slice (some ⟨b3, 0, none⟩) 0 0), (0, .slice s_a s_n s_c), (1, .string pfx)] a5 := F4.put [1, 2] e5 rfl
  clear e5 F4 a3
  refine s_end ?_
  refine x_normal ?_
  refine wp_seq ?_
  refine wp_seq ?_
  refine wp_region_lit ?_
  refine l_op (s_val rfl rfl (r_assign rfl rfl) fun a7 e7 => ?_)
  have F8 : Fr 30 [(6, .int .i64 0), (5, .slice (some ⟨b3, 0, none⟩) 0 0), (0, .slice s_a s_n s_c), (1, .string pfx)] a7 := F6.put [0, 1, 2] e7 rfl
  clear e7 F6 a5
  refine s_end ?_
  refine x_normal ?_
  refine wp_block ?_
  refine x_loop (fun (k : Nat) aZ wZ => ∃ (oa : Option Addr), ∃ (on : Nat), ∃ (oc : Nat), Fr 30 [(6, .int .i64 ((k : Nat) : Int)), (5, .slice oa on oc), (0, .slice s_a s_n s_c), (1, .string pfx)] aZ ∧ Mv [ow 9 1 encS okS (.slice (some ⟨b3, 0, none⟩) 0 0) ([] : List ByteArray)] w3 [ow 9 1 encS okS (.slice oa on oc) (keysUnder (s.take k) pfx)] wZ ∧ (k ≤ s_n)) (fun (k : Nat) => s_n - k) (0) ?_ ?_
  · exact ⟨(some ⟨b3, 0, none⟩), 0, 0, F8.keep [0, 1, 2, 3], (Mv.refl S3.at'), by omega⟩
  · rintro k a9 w9 ⟨oa, on, oc, F9, S9, hk_0⟩
    refine wp_seq ?_
    refine wp_seq ?_
    refine wp_region_lit ?_
    refine l_op (s_val rfl rfl (r_move rfl (F9.ev 0 rfl)) fun a10 e10 => ?_)
    have F11 : Fr 30 [(8, .int .i64 ((k : Nat) : Int)), (6, .int .i64 ((k : Nat) : Int)), (5, .slice oa on oc), (0, .slice s_a s_n s_c), (1, .string pfx)] a10 := F9.put [0, 1, 2, 3] e10 rfl
    clear e10 F9 a9
    refine l_op (s_val rfl rfl (r_move rfl (F11.ev 3 rfl)) fun a12 e12 => ?_)
    have F13 : Fr 30 [(9, .slice s_a s_n s_c), (8, .int .i64 ((k : Nat) : Int)), (6, .int .i64 ((k : Nat) : Int)), (5, .slice oa on oc), (0, .slice s_a s_n s_c), (1, .string pfx)] a12 := F11.put [0, 1, 2, 3, 4] e12 rfl
    clear e12 F11 a10
    refine l_op (s_val rfl rfl (r_len Try.underlying46 rfl (F13.ev 0 rfl)) fun a14 e14 => ?_)
    have F15 : Fr 30 [(10, .int .i64 ((s_n : Nat) : Int)), (8, .int .i64 ((k : Nat) : Int)), (6, .int .i64 ((k : Nat) : Int)), (5, .slice oa on oc), (0, .slice s_a s_n s_c), (1, .string pfx)] a14 := F13.put [1, 2, 3, 4, 5] e14 rfl
    clear e14 F13 a12
    refine l_op (s_val rfl rfl (r_cmp (b := decide (k < s_n)) (.inr (.inr (.inl rfl))) rfl (F15.ev 1 rfl) (F15.ev 0 rfl) (dec_of (by omega))) fun a16 e16 => ?_)
    have F17 : Fr 30 [(11, .bool (decide (k < s_n))), (6, .int .i64 ((k : Nat) : Int)), (5, .slice oa on oc), (0, .slice s_a s_n s_c), (1, .string pfx)] a16 := F15.put [2, 3, 4, 5] e16 rfl
    clear e16 F15 a14
    refine s_end ?_
    refine x_normal ?_
    refine x_cond (p := k < s_n) (F17.ev 0 rfl) (fun h18 => ?_) (fun h18 => ?_)
    · skip
      refine wp_skip ?_
      refine x_normal ?_
      refine wp_seq ?_
      refine wp_block ?_
      refine wp_seq ?_
      refine wp_region_lit ?_
      refine l_op (s_val rfl rfl (r_move rfl (F17.ev 3 rfl)) fun a19 e19 => ?_)
      have F20 : Fr 30 [(14, .slice s_a s_n s_c), (6, .int .i64 ((k : Nat) : Int)), (5, .slice oa on oc), (0, .slice s_a s_n s_c), (1, .string pfx)] a19 := F17.put [1, 2, 3, 4] e19 rfl
      clear e19 F17 a16
      refine l_op (s_val rfl rfl (r_move rfl (F20.ev 1 rfl)) fun a21 e21 => ?_)
      have F22 : Fr 30 [(15, .int .i64 ((k : Nat) : Int)), (14, .slice s_a s_n s_c), (6, .int .i64 ((k : Nat) : Int)), (5, .slice oa on oc), (0, .slice s_a s_n s_c), (1, .string pfx)] a21 := F20.put [0, 1, 2, 3, 4] e21 rfl
      clear e21 F20 a19
      obtain ⟨B23, O23, x1, ad23, hx1, okx1, ln23, cl23⟩ := Rd.at (Rd.mv (Nat.succ_pos _) V_v_s (S3.trans S9)) k (by first | assumption | omega)
      clear ln23
      refine l_op (s_val rfl rfl (r_indexAddr (i := k) ET_46 rfl ((F22.ev 1 rfl).trans (by rw [ad23])) (F22.ev 0 rfl) (by omega) (by first | assumption | omega)) fun a24 e24 => ?_)
      have F25 : Fr 30 [(16, .pointer (some ⟨B23, O23 + k * 2, none⟩)), (6, .int .i64 ((k : Nat) : Int)), (5, .slice oa on oc), (0, .slice s_a s_n s_c), (1, .string pfx)] a24 := F22.put [2, 3, 4, 5] e24 rfl
      clear e24 F22 a21
      refine l_op (s_val rfl rfl (r_field FI_98_0 rfl (F25.ev 0 rfl) rfl) fun a26 e26 => ?_)
      have F27 : Fr 30 [(17, .pointer (some ⟨B23, O23 + k * 2, none⟩)), (6, .int .i64 ((k : Nat) : Int)), (5, .slice oa on oc), (0, .slice s_a s_n s_c), (1, .string pfx)] a26 := F25.put [1, 2, 3, 4] e26 rfl
      clear e26 F25 a24
      refine l_op (s_val rfl rfl (r_load (cs := [.string x1.key]) TI_9 rfl (F27.ev 0 rfl) rfl (fun _ => rfl) (elem_sub (f := 0) cl23 [.string x1.key] rfl)) fun a28 e28 => ?_)
      have F29 : Fr 30 [(18, .string x1.key), (6, .int .i64 ((k : Nat) : Int)), (5, .slice oa on oc), (0, .slice s_a s_n s_c), (1, .string pfx)] a28 := F27.put [1, 2, 3, 4] e28 rfl
      clear e28 F27 a26
      refine l_op (s_val rfl rfl (r_move rfl (F29.ev 4 rfl)) fun a30 e30 => ?_)
      have F31 : Fr 30 [(19, .string pfx), (18, .string x1.key), (6, .int .i64 ((k : Nat) : Int)), (5, .slice oa on oc), (0, .slice s_a s_n s_c), (1, .string pfx)] a30 := F29.put [0, 1, 2, 3, 4] e30 rfl
      clear e30 F29 a28
      refine l_op (c_call CF_108 rfl rfl rfl (lc (F31.ev 1 rfl) (lc (F31.ev 0 rfl) rfl)) (spec_l02Begins_c (H := fun _ => True) (s := x1.key) (pfx := pfx) okx1.1 h_pfx) ?_)
      rintro _ w32 ⟨rfl, m32⟩
      refine ⟨_, rfl, fun a32 e32 => ?_⟩
      have S32 : Mv [ow 9 1 encS okS (.slice oa on oc) (keysUnder (s.take k) pfx)] w9 [ow 9 1 encS okS (.slice oa on oc) (keysUnder (s.take k) pfx)] w32 := At.frame S9.at' [] rfl m32
      clear m32
      have F33 : Fr 30 [(20, .bool (begins x1.key pfx)), (6, .int .i64 ((k : Nat) : Int)), (5, .slice oa on oc), (0, .slice s_a s_n s_c), (1, .string pfx)] a32 := F31.put [2, 3, 4, 5] e32 rfl
      clear e32 F31 a30
      refine s_end ?_
      refine x_normal ?_
      refine x_condb (b := (begins x1.key pfx)) (F33.ev 0 rfl) (fun h34 => ?_) (fun h34 => ?_)
      · skip
        refine wp_region_lit ?_
        refine l_op (s_val rfl rfl (r_move rfl (F33.ev 2 rfl)) fun a35 e35 => ?_)
        have F36 : Fr 30 [(21, .slice oa on oc), (6, .int .i64 ((k : Nat) : Int)), (5, .slice oa on oc), (0, .slice s_a s_n s_c), (1, .string pfx)] a35 := F33.put [1, 2, 3, 4] e35 rfl
        clear e35 F33 a32
        refine l_op (s_val rfl rfl (r_move rfl (F36.ev 3 rfl)) fun a37 e37 => ?_)
        have F38 : Fr 30 [(22, .slice s_a s_n s_c), (21, .slice oa on oc), (6, .int .i64 ((k : Nat) : Int)), (5, .slice oa on oc), (0, .slice s_a s_n s_c), (1, .string pfx)] a37 := F36.put [0, 1, 2, 3, 4] e37 rfl
        clear e37 F36 a35
        refine l_op (s_val rfl rfl (r_move rfl (F38.ev 2 rfl)) fun a39 e39 => ?_)
        have F40 : Fr 30 [(23, .int .i64 ((k : Nat) : Int)), (22, .slice s_a s_n s_c), (21, .slice oa on oc), (6, .int .i64 ((k : Nat) : Int)), (5, .slice oa on oc), (0, .slice s_a s_n s_c), (1, .string pfx)] a39 := F38.put [0, 1, 2, 3, 4, 5] e39 rfl
        clear e39 F38 a37
        obtain ⟨B41, O41, y41, ad41, hy41, oky41, ln41, cl41⟩ := Rd.at (Rd.mv (Nat.succ_pos _) V_v_s (S3.trans (S9.trans S32))) k (by first | assumption | omega)
        clear ln41
        obtain rfl := Option.some.inj (hx1.symm.trans hy41)
        clear hy41 oky41
        refine l_op (s_val rfl rfl (r_indexAddr (i := k) ET_46 rfl ((F40.ev 1 rfl).trans (by rw [ad41])) (F40.ev 0 rfl) (by omega) (by first | assumption | omega)) fun a42 e42 => ?_)
        have F43 : Fr 30 [(24, .pointer (some ⟨B41, O41 + k * 2, none⟩)), (21, .slice oa on oc), (6, .int .i64 ((k : Nat) : Int)), (5, .slice oa on oc), (0, .slice s_a s_n s_c), (1, .string pfx)] a42 := F40.put [2, 3, 4, 5, 6] e42 rfl
        clear e42 F40 a39
        refine l_op (s_val rfl rfl (r_field FI_98_0 rfl (F43.ev 0 rfl) rfl) fun a44 e44 => ?_)
        have F45 : Fr 30 [(25, .pointer (some ⟨B41, O41 + k * 2, none⟩)), (21, .slice oa on oc), (6, .int .i64 ((k : Nat) : Int)), (5, .slice oa on oc), (0, .slice s_a s_n s_c), (1, .string pfx)] a44 := F43.put [1, 2, 3, 4, 5] e44 rfl
        clear e44 F43 a42
        refine l_op (s_val rfl rfl (r_load (cs := [.string x1.key]) TI_9 rfl (F45.ev 0 rfl) rfl (fun _ => rfl) (elem_sub (f := 0) cl41 [.string x1.key] rfl)) fun a46 e46 => ?_)
        have F47 : Fr 30 [(26, .string x1.key), (21, .slice oa on oc), (6, .int .i64 ((k : Nat) : Int)), (5, .slice oa on oc), (0, .slice s_a s_n s_c), (1, .string pfx)] a46 := F45.put [1, 2, 3, 4, 5] e46 rfl
        clear e46 F45 a44
        refine l_op (s_buildSl (ok := okS) (vs := [.string x1.key]) S32.at' ([x1.key]) ET_22 rfl rfl rfl rfl rfl (lc (pr2 (F47.ev 0 rfl)) rfl) rfl (rowsOk rfl) (fun x hx => (List.mem_singleton.1 hx) ▸ okx1.1) fun b48 a48 w48 e48 S48i => ?_)
        have S48 : Mv [ow 9 1 encS okS (.slice oa on oc) (keysUnder (s.take k) pfx)] w32 [ow 9 1 encS okS (.slice (some ⟨b48, 0, none⟩) 1 1) ([x1.key]), ow 9 1 encS okS (.slice oa on oc) (keysUnder (s.take k) pfx)] w48 := S48i
        clear S48i
        have F49 : Fr 30 [(27, .slice (some ⟨b48, 0, none⟩) 1 1), (21, .slice oa on oc), (6, .int .i64 ((k : Nat) : Int)), (5, .slice oa on oc), (0, .slice s_a s_n s_c), (1, .string pfx)] a48 := F47.put [1, 2, 3, 4, 5] e48 rfl
        clear e48 F47 a46
        refine l_op (s_app (news := [x1.key]) S48.at' 1 ET_22 rfl rfl rfl rfl rfl (F49.ev 1 rfl) (F49.ev 0 rfl) ((At.rd S48.at' ET_22.hk 0 rfl)).1 (by have := keysUnder_take s pfx k; simp only [List.length_cons, List.length_nil]; omega) fun A50 N50 C50 a50 w50 e50 S50i l50 => ?_)
        have S50 : Mv [ow 9 1 encS okS (.slice (some ⟨b48, 0, none⟩) 1 1) ([x1.key]), ow 9 1 encS okS (.slice oa on oc) (keysUnder (s.take k) pfx)] w48 [ow 9 1 encS okS (.slice A50 N50 C50) ((keysUnder (s.take k) pfx) ++ ([x1.key])), ow 9 1 encS okS (.slice (some ⟨b48, 0, none⟩) 1 1) ([x1.key])] w50 := S50i
        clear S50i
        have S51 : Mv [ow 9 1 encS okS (.slice A50 N50 C50) ((keysUnder (s.take k) pfx) ++ ([x1.key])), ow 9 1 encS okS (.slice (some ⟨b48, 0, none⟩) 1 1) ([x1.key])] w50 [ow 9 1 encS okS (.slice A50 N50 C50) ((keysUnder (s.take k) pfx) ++ ([x1.key]))] w50 := At.drop S50.at' 1
        have F52 : Fr 30 [(28, .slice A50 N50 C50), (6, .int .i64 ((k : Nat) : Int)), (5, .slice oa on oc), (0, .slice s_a s_n s_c), (1, .string pfx)] a50 := F49.put [2, 3, 4, 5] e50 rfl
        clear e50 F49 a48
        refine l_op (s_val rfl rfl (r_assign rfl (F52.ev 0 rfl)) fun a53 e53 => ?_)
        have F54 : Fr 30 [(5, .slice A50 N50 C50), (6, .int .i64 ((k : Nat) : Int)), (0, .slice s_a s_n s_c), (1, .string pfx)] a53 := F52.put [1, 3, 4] e53 rfl
        clear e53 F52 a50
        refine s_end ?_
        refine x_block_normal ?_
        refine x_normal ?_
        refine wp_region_lit ?_
        refine l_op (s_val rfl rfl (r_move rfl (F54.ev 1 rfl)) fun a55 e55 => ?_)
        have F56 : Fr 30 [(12, .int .i64 ((k : Nat) : Int)), (5, .slice A50 N50 C50), (6, .int .i64 ((k : Nat) : Int)), (0, .slice s_a s_n s_c), (1, .string pfx)] a55 := F54.put [0, 1, 2, 3] e55 rfl
        clear e55 F54 a53
        refine l_op (s_val rfl rfl (r_add (z := ((k + 1 : Nat) : Int)) rfl (F56.ev 0 rfl) rfl (by first | rfl | omega) ⟨by first | omega | (unfold i64ok at *; omega), by first | omega | (unfold i64ok at *; omega)⟩) fun a57 e57 => ?_)
        have F58 : Fr 30 [(13, .int .i64 ((k + 1 : Nat) : Int)), (5, .slice A50 N50 C50), (6, .int .i64 ((k : Nat) : Int)), (0, .slice s_a s_n s_c), (1, .string pfx)] a57 := F56.put [1, 2, 3, 4] e57 rfl
        clear e57 F56 a55
        refine l_op (s_val rfl rfl (r_assign rfl (F58.ev 0 rfl)) fun a59 e59 => ?_)
        have F60 : Fr 30 [(6, .int .i64 ((k + 1 : Nat) : Int)), (5, .slice A50 N50 C50), (0, .slice s_a s_n s_c), (1, .string pfx)] a59 := F58.put [1, 3, 4] e59 rfl
        clear e59 F58 a57
        refine s_end ?_
        refine x_normal ⟨k + 1, by omega, A50, N50, C50, F60.keep [0, 1, 2, 3], (Mv.cast ((S9.trans (S32.trans (S48.trans (S50.trans S51)))).pick [0] rfl) (by (rw [keysUnder_step hx1]; first | rw [if_pos (by assumption)] | rw [if_neg (ne_true_of_eq_false (by assumption)), List.append_nil]); all_goals rfl)), by omega⟩
      · skip
        refine wp_skip ?_
        refine x_block_normal ?_
        refine x_normal ?_
        refine wp_region_lit ?_
        refine l_op (s_val rfl rfl (r_move rfl (F33.ev 1 rfl)) fun a61 e61 => ?_)
        have F62 : Fr 30 [(12, .int .i64 ((k : Nat) : Int)), (6, .int .i64 ((k : Nat) : Int)), (5, .slice oa on oc), (0, .slice s_a s_n s_c), (1, .string pfx)] a61 := F33.put [1, 2, 3, 4] e61 rfl
        clear e61 F33 a32
        refine l_op (s_val rfl rfl (r_add (z := ((k + 1 : Nat) : Int)) rfl (F62.ev 0 rfl) rfl (by first | rfl | omega) ⟨by first | omega | (unfold i64ok at *; omega), by first | omega | (unfold i64ok at *; omega)⟩) fun a63 e63 => ?_)
        have F64 : Fr 30 [(13, .int .i64 ((k + 1 : Nat) : Int)), (6, .int .i64 ((k : Nat) : Int)), (5, .slice oa on oc), (0, .slice s_a s_n s_c), (1, .string pfx)] a63 := F62.put [1, 2, 3, 4] e63 rfl
        clear e63 F62 a61
        refine l_op (s_val rfl rfl (r_assign rfl (F64.ev 0 rfl)) fun a65 e65 => ?_)
        have F66 : Fr 30 [(6, .int .i64 ((k + 1 : Nat) : Int)), (5, .slice oa on oc), (0, .slice s_a s_n s_c), (1, .string pfx)] a65 := F64.put [2, 3, 4] e65 rfl
        clear e65 F64 a63
        refine s_end ?_
        refine x_normal ⟨k + 1, by omega, oa, on, oc, F66.keep [0, 1, 2, 3], (Mv.cast ((S9.trans S32).pick [0] rfl) (by (rw [keysUnder_step hx1]; first | rw [if_pos (by assumption)] | rw [if_neg (ne_true_of_eq_false (by assumption)), List.append_nil]); all_goals rfl)), by omega⟩
    · skip
      refine wp_exit ?_
      refine x_then_exit ?_
      refine x_then_exit ?_
      refine x_block_here ?_
      refine x_normal ?_
      refine wp_seq ?_
      refine wp_region_lit ?_
      refine l_op (s_val rfl rfl (r_move rfl (F17.ev 2 rfl)) fun a67 e67 => ?_)
      have F68 : Fr 30 [(29, .slice oa on oc)] a67 := F17.put [] e67 rfl
      clear e67 F17 a16
      refine l_op (s_val rfl rfl (r_assign rfl (F68.ev 0 rfl)) fun a69 e69 => ?_)
      have F70 : Fr 30 [(4, .slice oa on oc)] a69 := F68.put [] e69 rfl
      clear e69 F68 a67
      refine s_end ?_
      refine x_normal ?_
      refine wp_ret ?_
      have Z71 : Rd 1 encS okS (V H w []) w9 (.slice oa on oc) (keysUnder (s.take k) pfx) := At.freeze (S3.trans S9) ET_22.hk 0 rfl (fun b hb => ((S3.trans S9).fresh b ⟨_, nth_mem (i := 0) rfl, hb⟩).resolve_left (fps_nil _))
      have S71 : Mv [ow 9 1 encS okS (.slice oa on oc) (keysUnder (s.take k) pfx)] w9 [] w9 := At.drop S9.at' 0
      refine x_done (v := .slice oa on oc) F70 (results_1 Try.results54 (.tmp (F70.ev 0 rfl))) ?_
      exact ⟨oa, on, oc, rfl, (Mv.pick (S3.trans (S9.trans S71)) [] rfl), (Rd.cast (Rd.give Z71) (show (keysUnder (s.take k) pfx) = (keysUnder s pfx) from by rw [List.take_of_length_le (by omega)]))⟩
end Go.Proofs.Ytbbkihijhdpliaa
