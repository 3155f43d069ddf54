/-
  Walks: disks that are as they should be.
-/
import Derived.Test.YtgfilegkabbliaaDatFo
import Derived.Test.YtgfilegkabbliaaGenNsb
namespace Go.Proofs.Ytgfilegkabbliaa
open Go.ChangeShapes Go.WideShapes Go.ChangeAt Go.RowKit
set_option maxRecDepth 100000
set_option maxHeartbeats 1000000
theorem spec_KeyOk_c {w : World} {H : Nat → Prop} {key : ByteArray} (h_key : okS key) :
    Calls Try.prog 120 #[.string key] w fun e w' => e = .returned (.bool (keyOk key)) ∧ Mv [] w [] w' := by
 have uU : True := (fun _ => trivial) H
 clear uU
 have kz := h_key
 unfold okS at kz
 refine calls_enter 25 Try.func120 rfl Try.ntmps120 (Nat.le_of_ble_eq_true rfl) (fun _ F0i => ?_)
 have F0 : Fr 25 [(0, .string key)] _ := F0i
 clear F0i
 refine wp_seq (wp_region_lit (l_op (f_val F0 rfl rfl (r_assign rfl rfl) rfl fun _ F1 => ?_)))
 have F2 : Fr 25 [(2, .bool false), (0, .string key)] _ := F1.cut rfl
 clear F0 F1
 refine s_end (x_normal (wp_seq (wp_seq (wp_region_lit (l_op (f_val F2 rfl rfl (r_assign rfl rfl) rfl fun _ F3 => ?_))))))
 have F4 : Fr 25 [(3, .int .i64 0), (0, .string key)] _ := F3.cut rfl
 clear F2 F3
 refine s_end (x_normal (wp_block ?_))
 refine x_loop (fun (k : Nat) aZ wZ => Fr 25 [(3, .int .i64 ((k : Nat) : Int)), (0, .string key)] aZ ∧ Mv [] w [] wZ ∧ (k ≤ key.size) ∧ (∀ j, j < k → kb (byteAt key j) = true)) (fun (k : Nat) => key.size - k) (0) ?_ ?_
 · exact ⟨F4.cut rfl, (Mv.refl (At.nil w)), by omega, all_none⟩
 · rintro k a5 w5 ⟨F5, S5, hk_0, hk_1⟩
   refine wp_seq (wp_seq (wp_region_lit (l_op (f_mv F5 rfl rfl rfl rfl rfl fun _ F6 => ?_))))
   refine l_op (f_mv F6 rfl rfl rfl rfl rfl fun _ F7 => ?_)
   refine l_op (f_val F7 rfl rfl (r_lenS (fun t ht => by cases ht; exact Try.underlying9) rfl rfl (F7.ev 5 rfl)) rfl fun _ F8 => ?_)
   refine l_op (f_val F8 rfl rfl (r_cmp (b := decide (k < key.size)) (.inr (.inr (.inl rfl))) rfl (F8.ev 4 rfl) (F8.ev 6 rfl) (dec_of (by omega))) rfl fun _ F9 => ?_)
   have F10 : Fr 25 [(7, .bool (decide (k < key.size))), (3, .int .i64 ((k : Nat) : Int)), (0, .string key)] _ := F9.cut rfl
   clear F5 F6 F7 F8 F9
   refine s_end (x_normal (x_cond (p := k < key.size) (F10.ev 7 rfl) (fun h11 => ?_) (fun h11 => ?_)))
   · skip
     refine wp_skip (x_normal (wp_seq (wp_block (wp_seq (wp_region_lit (l_op (f_mv F10 rfl rfl rfl rfl rfl fun _ F12 => ?_)))))))
     refine l_op (f_mv F12 rfl rfl rfl rfl rfl fun _ F13 => ?_)
     refine l_op (f_val F13 rfl rfl (r_indexS (i := k) Try.underlying9 rfl (F13.ev 10 rfl) (F13.ev 11 rfl) (by omega) (by first | assumption | omega)) rfl fun _ F14 => ?_)
     refine l_op (f_val F14 rfl rfl (r_convU8 Try.underlying3 Try.underlying5 rfl (F14.ev 12 rfl) ⟨by omega, by first | omega | (have := byteAt_lt key k; omega)⟩) rfl fun _ F15 => ?_)
     refine l_op (f_call F15 CF_61 rfl rfl rfl rfl (lc (F15.ev 13 rfl) (lc rfl (lc rfl rfl))) (spec_l01In_c (H := fun _ => True) (x := ((byteAt key k : Nat) : Int)) (least := 33) (most := 126) (by have := byteAt_lt key k; exact ⟨by omega, by omega⟩) (by first | assumption | exact ⟨by omega, by omega⟩ | (unfold i64ok at *; omega)) (by first | assumption | exact ⟨by omega, by omega⟩ | (unfold i64ok at *; omega))) ?_)
     rintro _ w16 ⟨rfl, m16⟩
     refine ⟨_, rfl, fun _ F17 => ?_⟩
     have S16 := At.frame0 S5.at' m16
     clear m16
     refine l_op (f_val F17 rfl rfl (r_not rfl (F17.ev 14 rfl)) rfl fun _ F18 => ?_)
     refine l_op (f_mv F18 rfl rfl rfl rfl rfl fun _ F19 => ?_)
     rcases Bool.eq_false_or_eq_true (!(inB ((byteAt key k : Nat) : Int) 33 126)) with h20 | h20
     · rw [h20] at F19
       refine l_op (f_skip F19 (wanted_g F19 rfl rfl rfl rfl) rfl rfl fun _ F21 => ?_)
       refine l_op (f_skip F21 (wanted_g F21 rfl rfl rfl rfl) rfl rfl fun _ F22 => ?_)
       refine l_op (f_skip F22 (wanted_g F22 rfl rfl rfl rfl) rfl rfl fun _ F23 => ?_)
       refine l_op (f_skip F23 (wanted_g F23 rfl rfl rfl rfl) rfl rfl fun _ F24 => ?_)
       refine l_op (f_val F24 rfl rfl (r_pick (b := true) rfl (F24.ev 16 rfl) rfl) rfl fun _ F25 => ?_)
       have F26 : Fr 25 [(21, .bool true), (3, .int .i64 ((k : Nat) : Int)), (0, .string key)] _ := F25.cut rfl
       clear F10 F12 F13 F14 F15 F17 F18 F19 F21 F22 F23 F24 F25
       have T27 : Mv _ _ [] _ := S16
       refine s_end (x_normal (wp_cond_true (F26.ev 21 rfl) (wp_seq (wp_region_lit (l_op (f_val F26 rfl rfl (r_assign rfl rfl) rfl fun _ F28 => ?_))))))
       have F29 : Fr 25 [(2, .bool false)] _ := F28.cut rfl
       clear F26 F28
       refine s_end (x_normal (wp_ret (x_block_ret (x_then_ret (x_then_ret (x_block_ret (x_then_ret ?_)))))))
       refine x_done (v := .bool false) F29 (results_1 Try.results120 (.tmp (F29.ev 2 rfl))) ?_
       exact ⟨(by rw [(show false = (keyOk key) from by first | exact (keyOk_bad (j := k) (by omega) (by rw [kb_in]; simp_all)).symm | exact (keyOk_all (fun j hj => hk_1 j (by omega))).symm)]), (Mv.pick (S5.trans T27) [] rfl)⟩
     · rw [h20] at F19
       refine l_op (f_mv F19 (wanted_g F19 rfl rfl rfl rfl) rfl rfl rfl rfl fun _ F30 => ?_)
       refine l_op (f_mv F30 (wanted_g F30 rfl rfl rfl rfl) rfl rfl rfl rfl fun _ F31 => ?_)
       refine l_op (f_val F31 (wanted_g F31 rfl rfl rfl rfl) rfl (r_indexS (i := k) Try.underlying9 rfl (F31.ev 17 rfl) (F31.ev 18 rfl) (by omega) (by first | assumption | omega)) rfl fun _ F32 => ?_)
       refine l_op (f_val F32 (wanted_g F32 rfl rfl rfl rfl) rfl (r_cmp (b := decide (byteAt key k = 42)) (.inl rfl) rfl (F32.ev 19 rfl) rfl (dec_of (by omega))) rfl fun _ F33 => ?_)
       refine l_op (f_val F33 rfl rfl (r_pick (b := false) rfl (F33.ev 16 rfl) (F33.ev 20 rfl)) rfl fun _ F34 => ?_)
       have F35 : Fr 25 [(21, .bool (decide (byteAt key k = 42))), (3, .int .i64 ((k : Nat) : Int)), (0, .string key)] _ := F34.cut rfl
       clear F10 F12 F13 F14 F15 F17 F18 F19 F30 F31 F32 F33 F34
       have T36 : Mv _ _ [] _ := S16
       refine s_end (x_normal (x_cond (p := byteAt key k = 42) (F35.ev 21 rfl) (fun h37 => ?_) (fun h37 => ?_)))
       · skip
         refine wp_seq (wp_region_lit (l_op (f_val F35 rfl rfl (r_assign rfl rfl) rfl fun _ F38 => ?_)))
         have F39 : Fr 25 [(2, .bool false)] _ := F38.cut rfl
         clear F35 F38
         refine s_end (x_normal (wp_ret (x_block_ret (x_then_ret (x_then_ret (x_block_ret (x_then_ret ?_)))))))
         refine x_done (v := .bool false) F39 (results_1 Try.results120 (.tmp (F39.ev 2 rfl))) ?_
         exact ⟨(by rw [(show false = (keyOk key) from by first | exact (keyOk_bad (j := k) (by omega) (by rw [kb_in]; simp_all)).symm | exact (keyOk_all (fun j hj => hk_1 j (by omega))).symm)]), (Mv.pick (S5.trans T36) [] rfl)⟩
       · skip
         refine wp_skip (x_block_normal (x_normal (wp_region_lit (l_op (f_mv F35 rfl rfl rfl rfl rfl fun _ F40 => ?_)))))
         refine l_op (f_val F40 rfl rfl (r_add (z := ((k + 1 : Nat) : Int)) rfl (F40.ev 8 rfl) rfl (by first | rfl | omega) ⟨by first | omega | (unfold i64ok at *; omega), by first | omega | (unfold i64ok at *; omega)⟩) rfl fun _ F41 => ?_)
         refine l_op (f_as F41 rfl rfl rfl rfl rfl fun _ F42 => ?_)
         have F43 : Fr 25 [(3, .int .i64 ((k + 1 : Nat) : Int)), (0, .string key)] _ := F42.cut rfl
         clear F35 F40 F41 F42
         refine s_end ?_
         refine x_normal ⟨k + 1, by omega, F43.cut rfl, ((S5.trans T36).pick [] rfl), by omega, all_step hk_1 (by rw [kb_in]; simp_all)⟩
   · skip
     refine wp_exit (x_then_exit (x_then_exit (x_block_here (x_normal (wp_seq (wp_region_lit (l_op (f_mv F10 rfl rfl rfl rfl rfl fun _ F44 => ?_))))))))
     refine l_op (f_val F44 rfl rfl (r_lenS (fun t ht => by cases ht; exact Try.underlying9) rfl rfl (F44.ev 22 rfl)) rfl fun _ F45 => ?_)
     refine l_op (f_call F45 CF_61 rfl rfl rfl rfl (lc (F45.ev 23 rfl) (lc rfl (lc rfl rfl))) (spec_l01In_c (H := fun _ => True) (x := ((key.size : Nat) : Int)) (least := 1) (most := 40) (by first | assumption | exact ⟨by omega, by omega⟩ | (unfold i64ok at *; omega)) (by first | assumption | exact ⟨by omega, by omega⟩ | (unfold i64ok at *; omega)) (by first | assumption | exact ⟨by omega, by omega⟩ | (unfold i64ok at *; omega))) ?_)
     rintro _ w46 ⟨rfl, m46⟩
     refine ⟨_, rfl, fun _ F47 => ?_⟩
     have S46 := At.frame0 S5.at' m46
     clear m46
     refine l_op (f_as F47 rfl rfl rfl rfl rfl fun _ F48 => ?_)
     have F49 : Fr 25 [(2, .bool (inB ((key.size : Nat) : Int) 1 40))] _ := F48.cut rfl
     clear F10 F44 F45 F47 F48
     have T50 : Mv _ _ [] _ := S46
     refine s_end (x_normal (wp_ret ?_))
     refine x_done (v := .bool (inB ((key.size : Nat) : Int) 1 40)) F49 (results_1 Try.results120 (.tmp (F49.ev 2 rfl))) ?_
     exact ⟨(by rw [(show (inB ((key.size : Nat) : Int) 1 40) = (keyOk key) from by first | exact (keyOk_bad (j := k) (by omega) (by rw [kb_in]; simp_all)).symm | exact (keyOk_all (fun j hj => hk_1 j (by omega))).symm)]), (Mv.pick (S5.trans T50) [] rfl)⟩
theorem impl_KeyOk_c {w : World} {H : Nat → Prop} {key : ByteArray} (h_key : okS key) :
    Calls Try.prog 124 #[.string key] w fun e w' => e = .returned (.bool (keyOk key)) ∧ Mv [] w [] w' := by
 have uU : True := (fun _ => trivial) H
 clear uU
 have kz := h_key
 unfold okS at kz
 refine calls_enter 29 Try.func124 rfl Try.ntmps124 (Nat.le_of_ble_eq_true rfl) (fun _ F0i => ?_)
 have F0 : Fr 29 [(0, .string key)] _ := F0i
 clear F0i
 refine wp_seq (wp_region_lit (l_op (f_val F0 rfl rfl (r_assign rfl rfl) rfl fun _ F1 => ?_)))
 have F2 : Fr 29 [(2, .bool false), (0, .string key)] _ := F1.cut rfl
 clear F0 F1
 refine s_end (x_normal (wp_seq (wp_seq (wp_region_lit (l_op (f_mv F2 rfl rfl rfl rfl rfl fun _ F3 => ?_))))))
 refine l_op (f_val F3 rfl rfl (r_lenS (fun t ht => by cases ht; exact Try.underlying9) rfl rfl (F3.ev 4 rfl)) rfl fun _ F4 => ?_)
 refine l_op (f_val F4 rfl rfl (r_move rfl rfl) rfl fun _ F5 => ?_)
 have F6 : Fr 29 [(6, .int .i64 0), (5, .int .i64 ((key.size : Nat) : Int)), (0, .string key)] _ := F5.cut rfl
 clear F2 F3 F4 F5
 refine s_end (x_normal (wp_block ?_))
 refine x_loop (fun (k : Nat) aZ wZ => Fr 29 [(6, .int .i64 ((k : Nat) : Int)), (5, .int .i64 ((key.size : Nat) : Int)), (0, .string key)] aZ ∧ Mv [] w [] wZ ∧ (k ≤ key.size) ∧ (∀ j, j < k → kb (byteAt key j) = true)) (fun (k : Nat) => key.size - k) (0) ?_ ?_
 · exact ⟨F6.cut rfl, (Mv.refl (At.nil w)), by omega, all_none⟩
 · rintro k a7 w7 ⟨F7, S7, hk_0, hk_1⟩
   refine wp_seq (wp_region_lit (l_op (f_val F7 rfl rfl (r_cmp (b := decide (k < key.size)) (.inr (.inr (.inl rfl))) rfl (F7.ev 6 rfl) (F7.ev 5 rfl) (dec_of (by omega))) rfl fun _ F8 => ?_)))
   have F9 : Fr 29 [(7, .bool (decide (k < key.size))), (6, .int .i64 ((k : Nat) : Int)), (5, .int .i64 ((key.size : Nat) : Int)), (0, .string key)] _ := F8.cut rfl
   clear F7 F8
   refine s_end (x_normal (wp_seq (x_cond (p := k < key.size) (F9.ev 7 rfl) (fun h10 => ?_) (fun h10 => ?_))))
   · skip
     refine wp_skip (x_normal (wp_seq (wp_block (wp_seq (wp_region_lit (l_op (f_mv F9 rfl rfl rfl rfl rfl fun _ F11 => ?_)))))))
     refine l_op (f_as F11 rfl rfl rfl rfl rfl fun _ F12 => ?_)
     have F13 : Fr 29 [(3, .int .i64 ((k : Nat) : Int)), (6, .int .i64 ((k : Nat) : Int)), (5, .int .i64 ((key.size : Nat) : Int)), (0, .string key)] _ := F12.cut rfl
     clear F9 F11 F12
     refine s_end (x_normal (wp_seq (wp_region_lit (l_op (f_mv F13 rfl rfl rfl rfl rfl fun _ F14 => ?_)))))
     refine l_op (f_mv F14 rfl rfl rfl rfl rfl fun _ F15 => ?_)
     refine l_op (f_val F15 rfl rfl (r_indexS (i := k) Try.underlying9 rfl (F15.ev 9 rfl) (F15.ev 10 rfl) (by omega) (by first | assumption | omega)) rfl fun _ F16 => ?_)
     refine l_op (f_val F16 rfl rfl (r_cmp (b := decide (byteAt key k < 33)) (.inr (.inr (.inl rfl))) rfl (F16.ev 11 rfl) rfl (dec_of (by omega))) rfl fun _ F17 => ?_)
     refine l_op (f_mv F17 rfl rfl rfl rfl rfl fun _ F18 => ?_)
     rcases Decidable.em (byteAt key k < 33) with h19 | h19
     · rw [decide_eq_true h19] at F18
       refine l_op (f_skip F18 (wanted_g F18 rfl rfl rfl rfl) rfl rfl fun _ F20 => ?_)
       refine l_op (f_skip F20 (wanted_g F20 rfl rfl rfl rfl) rfl rfl fun _ F21 => ?_)
       refine l_op (f_skip F21 (wanted_g F21 rfl rfl rfl rfl) rfl rfl fun _ F22 => ?_)
       refine l_op (f_skip F22 (wanted_g F22 rfl rfl rfl rfl) rfl rfl fun _ F23 => ?_)
       refine l_op (f_val F23 rfl rfl (r_pick (b := true) rfl (F23.ev 13 rfl) rfl) rfl fun _ F24 => ?_)
       refine l_op (f_mv F24 rfl rfl rfl rfl rfl fun _ F25 => ?_)
       refine l_op (f_skip F25 (wanted_g F25 rfl rfl rfl rfl) rfl rfl fun _ F26 => ?_)
       refine l_op (f_skip F26 (wanted_g F26 rfl rfl rfl rfl) rfl rfl fun _ F27 => ?_)
       refine l_op (f_skip F27 (wanted_g F27 rfl rfl rfl rfl) rfl rfl fun _ F28 => ?_)
       refine l_op (f_skip F28 (wanted_g F28 rfl rfl rfl rfl) rfl rfl fun _ F29 => ?_)
       refine l_op (f_val F29 rfl rfl (r_pick (b := true) rfl (F29.ev 19 rfl) rfl) rfl fun _ F30 => ?_)
       have F31 : Fr 29 [(24, .bool true), (6, .int .i64 ((k : Nat) : Int)), (5, .int .i64 ((key.size : Nat) : Int)), (0, .string key)] _ := F30.cut rfl
       clear F13 F14 F15 F16 F17 F18 F20 F21 F22 F23 F24 F25 F26 F27 F28 F29 F30
       refine s_end (x_normal (wp_cond_true (F31.ev 24 rfl) (wp_seq (wp_region_lit (l_op (f_val F31 rfl rfl (r_assign rfl rfl) rfl fun _ F32 => ?_))))))
       have F33 : Fr 29 [(2, .bool false)] _ := F32.cut rfl
       clear F31 F32
       refine s_end (x_normal (wp_ret (x_block_ret (x_then_ret (x_then_ret (x_block_ret (x_then_ret ?_)))))))
       refine x_done (v := .bool false) F33 (results_1 Try.results124 (.tmp (F33.ev 2 rfl))) ?_
       exact ⟨(by rw [(show false = (keyOk key) from by first | exact (keyOk_bad (j := k) (by omega) (by unfold kb; exact decide_eq_false (by omega))).symm | exact (keyOk_all (fun j hj => hk_1 j (by omega))).symm)]), (Mv.pick S7 [] rfl)⟩
     · rw [decide_eq_false h19] at F18
       refine l_op (f_mv F18 (wanted_g F18 rfl rfl rfl rfl) rfl rfl rfl rfl fun _ F34 => ?_)
       refine l_op (f_mv F34 (wanted_g F34 rfl rfl rfl rfl) rfl rfl rfl rfl fun _ F35 => ?_)
       refine l_op (f_val F35 (wanted_g F35 rfl rfl rfl rfl) rfl (r_indexS (i := k) Try.underlying9 rfl (F35.ev 14 rfl) (F35.ev 15 rfl) (by omega) (by first | assumption | omega)) rfl fun _ F36 => ?_)
       refine l_op (f_val F36 (wanted_g F36 rfl rfl rfl rfl) rfl (r_cmp (b := decide (byteAt key k > 126)) (.inr (.inr (.inr (.inr (.inl rfl))))) rfl (F36.ev 16 rfl) rfl (dec_of (by omega))) rfl fun _ F37 => ?_)
       refine l_op (f_val F37 rfl rfl (r_pick (b := false) rfl (F37.ev 13 rfl) (F37.ev 17 rfl)) rfl fun _ F38 => ?_)
       refine l_op (f_mv F38 rfl rfl rfl rfl rfl fun _ F39 => ?_)
       rcases Decidable.em (byteAt key k > 126) with h40 | h40
       · rw [decide_eq_true h40] at F39
         refine l_op (f_skip F39 (wanted_g F39 rfl rfl rfl rfl) rfl rfl fun _ F41 => ?_)
         refine l_op (f_skip F41 (wanted_g F41 rfl rfl rfl rfl) rfl rfl fun _ F42 => ?_)
         refine l_op (f_skip F42 (wanted_g F42 rfl rfl rfl rfl) rfl rfl fun _ F43 => ?_)
         refine l_op (f_skip F43 (wanted_g F43 rfl rfl rfl rfl) rfl rfl fun _ F44 => ?_)
         refine l_op (f_val F44 rfl rfl (r_pick (b := true) rfl (F44.ev 19 rfl) rfl) rfl fun _ F45 => ?_)
         have F46 : Fr 29 [(24, .bool true), (6, .int .i64 ((k : Nat) : Int)), (5, .int .i64 ((key.size : Nat) : Int)), (0, .string key)] _ := F45.cut rfl
         clear F13 F14 F15 F16 F17 F18 F34 F35 F36 F37 F38 F39 F41 F42 F43 F44 F45
         refine s_end (x_normal (wp_cond_true (F46.ev 24 rfl) (wp_seq (wp_region_lit (l_op (f_val F46 rfl rfl (r_assign rfl rfl) rfl fun _ F47 => ?_))))))
         have F48 : Fr 29 [(2, .bool false)] _ := F47.cut rfl
         clear F46 F47
         refine s_end (x_normal (wp_ret (x_block_ret (x_then_ret (x_then_ret (x_block_ret (x_then_ret ?_)))))))
         refine x_done (v := .bool false) F48 (results_1 Try.results124 (.tmp (F48.ev 2 rfl))) ?_
         exact ⟨(by rw [(show false = (keyOk key) from by first | exact (keyOk_bad (j := k) (by omega) (by unfold kb; exact decide_eq_false (by omega))).symm | exact (keyOk_all (fun j hj => hk_1 j (by omega))).symm)]), (Mv.pick S7 [] rfl)⟩
       · rw [decide_eq_false h40] at F39
         refine l_op (f_mv F39 (wanted_g F39 rfl rfl rfl rfl) rfl rfl rfl rfl fun _ F49 => ?_)
         refine l_op (f_mv F49 (wanted_g F49 rfl rfl rfl rfl) rfl rfl rfl rfl fun _ F50 => ?_)
         refine l_op (f_val F50 (wanted_g F50 rfl rfl rfl rfl) rfl (r_indexS (i := k) Try.underlying9 rfl (F50.ev 20 rfl) (F50.ev 21 rfl) (by omega) (by first | assumption | omega)) rfl fun _ F51 => ?_)
         refine l_op (f_val F51 (wanted_g F51 rfl rfl rfl rfl) rfl (r_cmp (b := decide (byteAt key k = 42)) (.inl rfl) rfl (F51.ev 22 rfl) rfl (dec_of (by omega))) rfl fun _ F52 => ?_)
         refine l_op (f_val F52 rfl rfl (r_pick (b := false) rfl (F52.ev 19 rfl) (F52.ev 23 rfl)) rfl fun _ F53 => ?_)
         have F54 : Fr 29 [(24, .bool (decide (byteAt key k = 42))), (6, .int .i64 ((k : Nat) : Int)), (5, .int .i64 ((key.size : Nat) : Int)), (0, .string key)] _ := F53.cut rfl
         clear F13 F14 F15 F16 F17 F18 F34 F35 F36 F37 F38 F39 F49 F50 F51 F52 F53
         refine s_end (x_normal (x_cond (p := byteAt key k = 42) (F54.ev 24 rfl) (fun h55 => ?_) (fun h55 => ?_)))
         · skip
           refine wp_seq (wp_region_lit (l_op (f_val F54 rfl rfl (r_assign rfl rfl) rfl fun _ F56 => ?_)))
           have F57 : Fr 29 [(2, .bool false)] _ := F56.cut rfl
           clear F54 F56
           refine s_end (x_normal (wp_ret (x_block_ret (x_then_ret (x_then_ret (x_block_ret (x_then_ret ?_)))))))
           refine x_done (v := .bool false) F57 (results_1 Try.results124 (.tmp (F57.ev 2 rfl))) ?_
           exact ⟨(by rw [(show false = (keyOk key) from by first | exact (keyOk_bad (j := k) (by omega) (by unfold kb; exact decide_eq_false (by omega))).symm | exact (keyOk_all (fun j hj => hk_1 j (by omega))).symm)]), (Mv.pick S7 [] rfl)⟩
         · skip
           refine wp_skip (x_block_normal (x_normal (wp_region_lit (l_op (f_val F54 rfl rfl (r_add (z := ((k + 1 : Nat) : Int)) rfl (F54.ev 6 rfl) rfl (by first | rfl | omega) ⟨by first | omega | (unfold i64ok at *; omega), by first | omega | (unfold i64ok at *; omega)⟩) rfl fun _ F58 => ?_)))))
           refine l_op (f_mv F58 rfl rfl rfl rfl rfl fun _ F59 => ?_)
           have F60 : Fr 29 [(6, .int .i64 ((k + 1 : Nat) : Int)), (5, .int .i64 ((key.size : Nat) : Int)), (0, .string key)] _ := F59.cut rfl
           clear F54 F58 F59
           refine s_end ?_
           refine x_normal ⟨k + 1, by omega, F60.cut rfl, (S7.pick [] rfl), by omega, all_step hk_1 (by unfold kb; exact decide_eq_true (by omega))⟩
   · skip
     refine wp_exit (x_then_exit (x_then_exit (x_block_here (x_normal (wp_seq (wp_region_lit (l_op (f_mv F9 rfl rfl rfl rfl rfl fun _ F61 => ?_))))))))
     refine l_op (f_val F61 rfl rfl (r_lenS (fun t ht => by cases ht; exact Try.underlying9) rfl rfl (F61.ev 26 rfl)) rfl fun _ F62 => ?_)
     refine l_op (f_call F62 CF_65 rfl rfl rfl rfl (lc (F62.ev 27 rfl) (lc rfl (lc rfl rfl))) (impl_within_c (H := fun _ => True) (n := ((key.size : Nat) : Int)) (low := 1) (high := 40) (by first | assumption | exact ⟨by omega, by omega⟩ | (unfold i64ok at *; omega)) (by first | assumption | exact ⟨by omega, by omega⟩ | (unfold i64ok at *; omega)) (by first | assumption | exact ⟨by omega, by omega⟩ | (unfold i64ok at *; omega))) ?_)
     rintro _ w63 ⟨rfl, m63⟩
     refine ⟨_, rfl, fun _ F64 => ?_⟩
     have S63 := At.frame0 S7.at' m63
     clear m63
     refine l_op (f_as F64 rfl rfl rfl rfl rfl fun _ F65 => ?_)
     have F66 : Fr 29 [(2, .bool (inB ((key.size : Nat) : Int) 1 40))] _ := F65.cut rfl
     clear F9 F61 F62 F64 F65
     have T67 : Mv _ _ [] _ := S63
     refine s_end (x_normal (wp_ret ?_))
     refine x_done (v := .bool (inB ((key.size : Nat) : Int) 1 40)) F66 (results_1 Try.results124 (.tmp (F66.ev 2 rfl))) ?_
     exact ⟨(by rw [(show (inB ((key.size : Nat) : Int) 1 40) = (keyOk key) from by first | exact (keyOk_bad (j := k) (by omega) (by unfold kb; exact decide_eq_false (by omega))).symm | exact (keyOk_all (fun j hj => hk_1 j (by omega))).symm)]), (Mv.pick (S7.trans T67) [] rfl)⟩
theorem spec_StoreOk_c {w : World} {H : Nat → Prop} {s : List CellD} {s_a : Option Addr} {s_n s_c : Nat} (v_s : Rd 2 encC okC H w (.slice s_a s_n s_c) s) :
    Calls Try.prog 60 #[.slice s_a s_n s_c] w fun e w' => e = .returned (.bool (storeOk s)) ∧ Mv [] w [] w' := by
 have V_v_s : Rd 2 encC okC (V H w []) w (.slice s_a s_n s_c) s := Rd.start v_s (fun _ _ => fps_nil _)
 obtain ⟨ln_s, le_s, mx_s, ni_s⟩ := Rd.inv v_s
 refine calls_enter 48 Try.func60 rfl Try.ntmps60 (Nat.le_of_ble_eq_true rfl) (fun _ F0i => ?_)
 have F0 : Fr 48 [(0, .slice s_a s_n s_c)] _ := F0i
 clear F0i
 refine wp_seq (wp_region_lit (l_op (f_val F0 rfl rfl (r_assign rfl rfl) rfl fun _ F1 => ?_)))
 have F2 : Fr 48 [(2, .bool false), (0, .slice s_a s_n s_c)] _ := F1.cut rfl
 clear F0 F1
 refine s_end (x_normal (wp_seq (wp_seq (wp_region_lit (l_op (f_val F2 rfl rfl (r_assign rfl rfl) rfl fun _ F3 => ?_))))))
 have F4 : Fr 48 [(3, .int .i64 0), (0, .slice s_a s_n s_c)] _ := F3.cut rfl
 clear F2 F3
 refine s_end (x_normal (wp_block ?_))
 refine x_loop (fun (k : Nat) aZ wZ => Fr 48 [(3, .int .i64 ((k : Nat) : Int)), (0, .slice s_a s_n s_c)] aZ ∧ Mv [] w [] wZ ∧ (k ≤ s_n) ∧ (∀ j, j < k → cellOk s j = true)) (fun (k : Nat) => s_n - k) (0) ?_ ?_
 · exact ⟨F4.cut rfl, (Mv.refl (At.nil w)), by omega, all_none⟩
 · rintro k a5 w5 ⟨F5, S5, hk_0, hk_1⟩
   refine wp_seq (wp_seq (wp_region_lit (l_op (f_mv F5 rfl rfl rfl rfl rfl fun _ F6 => ?_))))
   refine l_op (f_mv F6 rfl rfl rfl rfl rfl fun _ F7 => ?_)
   refine l_op (f_val F7 rfl rfl (r_len Try.underlying74 rfl (F7.ev 5 rfl)) rfl fun _ F8 => ?_)
   refine l_op (f_val F8 rfl rfl (r_cmp (b := decide (k < s_n)) (.inr (.inr (.inl rfl))) rfl (F8.ev 4 rfl) (F8.ev 6 rfl) (dec_of (by omega))) rfl fun _ F9 => ?_)
   have F10 : Fr 48 [(7, .bool (decide (k < s_n))), (3, .int .i64 ((k : Nat) : Int)), (0, .slice s_a s_n s_c)] _ := F9.cut rfl
   clear F5 F6 F7 F8 F9
   refine s_end (x_normal (x_cond (p := k < s_n) (F10.ev 7 rfl) (fun h11 => ?_) (fun h11 => ?_)))
   · skip
     refine wp_skip (x_normal (wp_seq (wp_block (wp_seq ?_))))
     obtain ⟨x1, hx1, okx1⟩ := Rd.elem (Rd.mv (Nat.succ_pos _) V_v_s S5) k (by first | assumption | omega)
     refine x_draw (fun aZ wZ => Fr 48 [(0, .slice s_a s_n s_c), (3, .int .i64 ((k : Nat) : Int)), (44, .bool (!cellOk s k))] aZ ∧ Mv [] w5 [] wZ) [] mixed S5.at' (listed := #[false, false, false, false, false, false, false, false, false, false, false, false, false, false, false, false, false, false, false, false, false, false, false, false, false, false, false, false, false, false, false, false, false, false, false]) rfl (fun w13 S13 => ?_) [] rfl ?_
     · skip
       refine g_take F10 rfl (i := 0) (listed' := #[true, false, false, false, false, false, false, false, false, false, false, false, false, false, false, false, false, false, false, false, false, false, false, false, false, false, false, false, false, false, false, false, false, false, false]) rfl (by kernel_rfl) (by kernel_rfl) (by kernel_rfl) (fun _ _ _ h => h) (Sd.of (Mv.refl S13.at') [] rfl) rfl rfl rfl rfl (fun _ hz => (r_move rfl (F10.ev 0 rfl))) fun _ F14 => ?_
       refine g_take F14 rfl (i := 1) (listed' := #[true, true, false, false, false, false, false, false, false, false, false, false, false, false, false, false, false, false, false, false, false, false, false, false, false, false, false, false, false, false, false, false, false, false, false]) rfl (by kernel_rfl) (by kernel_rfl) (by kernel_rfl) (fun _ _ _ h => h) (Sd.of (Mv.refl S13.at') [] rfl) rfl rfl rfl rfl (fun _ hz => (r_move rfl (F14.ev 3 rfl))) fun _ F15 => ?_
       obtain ⟨B16, O16, y16, ad16, hy16, oky16, ln16, cl16⟩ := Rd.atK (Nat.succ_pos _) (Rd.mv (Nat.succ_pos _) V_v_s (S5.trans S13)) k (by first | assumption | omega)
       clear ln16
       obtain rfl := Option.some.inj (hx1.symm.trans hy16)
       clear hy16 oky16
       refine g_take F15 rfl (i := 2) (listed' := #[true, true, true, false, false, false, false, false, false, false, false, false, false, false, false, false, false, false, false, false, false, false, false, false, false, false, false, false, false, false, false, false, false, false, false]) rfl (by kernel_rfl) (by kernel_rfl) (by kernel_rfl) (fun _ _ _ h => h) (Sd.of (Mv.refl S13.at') [] rfl) rfl rfl rfl rfl (fun _ hz => (r_indexAddr (i := k) ET_74 rfl ((F15.ev 10 rfl).trans (by rw [ad16])) (F15.ev 11 rfl) (by omega) (by first | assumption | omega))) fun _ F17 => ?_
       refine g_take F17 rfl (i := 3) (listed' := #[true, true, true, true, false, false, false, false, false, false, false, false, false, false, false, false, false, false, false, false, false, false, false, false, false, false, false, false, false, false, false, false, false, false, false]) rfl (by kernel_rfl) (by kernel_rfl) (by kernel_rfl) (fun _ _ _ h => h) (Sd.of (Mv.refl S13.at') [] rfl) rfl rfl rfl rfl (fun _ hz => (r_field FI_144_0 rfl (F17.ev 12 rfl) rfl)) fun _ F18 => ?_
       refine g_take (v := .string x1.key) F18 rfl (i := 4) (listed' := #[true, true, true, true, true, false, false, false, false, false, false, false, false, false, false, false, false, false, false, false, false, false, false, false, false, false, false, false, false, false, false, false, false, false, false]) rfl (by kernel_rfl) (by kernel_rfl) (by kernel_rfl) (fun _ _ _ h => h) (Sd.of (Mv.refl S13.at') [] rfl) rfl rfl rfl rfl (fun _ hz => (r_load (cs := [.string x1.key]) TI_9 rfl (F18.ev 13 rfl) rfl (fun _ => rfl) (elem_sub (f := 0) (cl16 _ hz.kp) [.string x1.key] rfl))) fun _ F19 => ?_
       refine d_one (i := 5) (listed' := #[true, true, true, true, true, true, false, false, false, false, false, false, false, false, false, false, false, false, false, false, false, false, false, false, false, false, false, false, false, false, false, false, false, false, false]) rfl (by kernel_rfl) rfl rfl ?_
       refine f_call F19 CF_120 rfl rfl rfl rfl (lc (F19.ev 14 rfl) rfl) (spec_KeyOk_c (H := fun _ => True) (key := x1.key) okx1.1) ?_
       rintro _ w20 ⟨rfl, m20⟩
       refine ⟨_, rfl, fun _ F21 => ?_⟩
       have S20 := At.frame0 S13.at' m20
       clear m20
       refine ⟨Sd.of S20 [] rfl, ?_⟩
       refine g_take F21 rfl (i := 6) (listed' := #[true, true, true, true, true, true, true, false, false, false, false, false, false, false, false, false, false, false, false, false, false, false, false, false, false, false, false, false, false, false, false, false, false, false, false]) rfl (by kernel_rfl) (by kernel_rfl) (by kernel_rfl) (fun _ _ _ h => h) (Sd.of S20 [] rfl) rfl rfl rfl rfl (fun _ hz => (r_not rfl (F21.ev 15 rfl))) fun _ F22 => ?_
       refine g_take F22 rfl (i := 7) (listed' := #[true, true, true, true, true, true, true, true, false, false, false, false, false, false, false, false, false, false, false, false, false, false, false, false, false, false, false, false, false, false, false, false, false, false, false]) rfl (by kernel_rfl) (by kernel_rfl) (by kernel_rfl) (fun _ _ _ h => h) (Sd.of S20 [] rfl) rfl rfl rfl rfl (fun _ hz => (r_move rfl (F22.ev 16 rfl))) fun _ F23 => ?_
       rcases Bool.eq_false_or_eq_true (!(keyOk x1.key)) with h24 | h24
       · rw [h24] at F23
         refine g_skip F23 rfl (i := 8) (listed' := #[true, true, true, true, true, true, true, true, true, false, false, false, false, false, false, false, false, false, false, false, false, false, false, false, false, false, false, false, false, false, false, false, false, false, false]) rfl (by kernel_rfl) (by kernel_rfl) (by kernel_rfl) (fun _ _ _ h => h) (Sd.of S20 [] rfl) rfl (wanted_g F23 rfl rfl rfl rfl) rfl rfl fun _ F25 => ?_
         refine g_skip F25 rfl (i := 9) (listed' := #[true, true, true, true, true, true, true, true, true, true, false, false, false, false, false, false, false, false, false, false, false, false, false, false, false, false, false, false, false, false, false, false, false, false, false]) rfl (by kernel_rfl) (by kernel_rfl) (by kernel_rfl) (fun _ _ _ h => h) (Sd.of S20 [] rfl) rfl (wanted_g F25 rfl rfl rfl rfl) rfl rfl fun _ F26 => ?_
         refine g_skip F26 rfl (i := 10) (listed' := #[true, true, true, true, true, true, true, true, true, true, true, false, false, false, false, false, false, false, false, false, false, false, false, false, false, false, false, false, false, false, false, false, false, false, false]) rfl (by kernel_rfl) (by kernel_rfl) (by kernel_rfl) (fun _ _ _ h => h) (Sd.of S20 [] rfl) rfl (wanted_g F26 rfl rfl rfl rfl) rfl rfl fun _ F27 => ?_
         refine g_skip F27 rfl (i := 11) (listed' := #[true, true, true, true, true, true, true, true, true, true, true, true, false, false, false, false, false, false, false, false, false, false, false, false, false, false, false, false, false, false, false, false, false, false, false]) rfl (by kernel_rfl) (by kernel_rfl) (by kernel_rfl) (fun _ _ _ h => h) (Sd.of S20 [] rfl) rfl (wanted_g F27 rfl rfl rfl rfl) rfl rfl fun _ F28 => ?_
         refine g_skip F28 rfl (i := 12) (listed' := #[true, true, true, true, true, true, true, true, true, true, true, true, true, false, false, false, false, false, false, false, false, false, false, false, false, false, false, false, false, false, false, false, false, false, false]) rfl (by kernel_rfl) (by kernel_rfl) (by kernel_rfl) (fun _ _ _ h => h) (Sd.of S20 [] rfl) rfl (wanted_g F28 rfl rfl rfl rfl) rfl rfl fun _ F29 => ?_
         refine g_skip F29 rfl (i := 13) (listed' := #[true, true, true, true, true, true, true, true, true, true, true, true, true, true, false, false, false, false, false, false, false, false, false, false, false, false, false, false, false, false, false, false, false, false, false]) rfl (by kernel_rfl) (by kernel_rfl) (by kernel_rfl) (fun _ _ _ h => h) (Sd.of S20 [] rfl) rfl (wanted_g F29 rfl rfl rfl rfl) rfl rfl fun _ F30 => ?_
         refine g_skip F30 rfl (i := 14) (listed' := #[true, true, true, true, true, true, true, true, true, true, true, true, true, true, true, false, false, false, false, false, false, false, false, false, false, false, false, false, false, false, false, false, false, false, false]) rfl (by kernel_rfl) (by kernel_rfl) (by kernel_rfl) (fun _ _ _ h => h) (Sd.of S20 [] rfl) rfl (wanted_g F30 rfl rfl rfl rfl) rfl rfl fun _ F31 => ?_
         refine g_skip F31 rfl (i := 15) (listed' := #[true, true, true, true, true, true, true, true, true, true, true, true, true, true, true, true, false, false, false, false, false, false, false, false, false, false, false, false, false, false, false, false, false, false, false]) rfl (by kernel_rfl) (by kernel_rfl) (by kernel_rfl) (fun _ _ _ h => h) (Sd.of S20 [] rfl) rfl (wanted_g F31 rfl rfl rfl rfl) rfl rfl fun _ F32 => ?_
         refine g_take F32 rfl (i := 16) (listed' := #[true, true, true, true, true, true, true, true, true, true, true, true, true, true, true, true, true, false, false, false, false, false, false, false, false, false, false, false, false, false, false, false, false, false, false]) rfl (by kernel_rfl) (by kernel_rfl) (by kernel_rfl) (fun _ _ _ h => h) (Sd.of S20 [] rfl) rfl rfl rfl rfl (fun _ hz => (r_pick (b := true) rfl (F32.ev 17 rfl) rfl)) fun _ F33 => ?_
         refine g_take F33 rfl (i := 17) (listed' := #[true, true, true, true, true, true, true, true, true, true, true, true, true, true, true, true, true, true, false, false, false, false, false, false, false, false, false, false, false, false, false, false, false, false, false]) rfl (by kernel_rfl) (by kernel_rfl) (by kernel_rfl) (fun _ _ _ h => h) (Sd.of S20 [] rfl) rfl rfl rfl rfl (fun _ hz => (r_move rfl (F33.ev 26 rfl))) fun _ F34 => ?_
         refine g_skip F34 rfl (i := 18) (listed' := #[true, true, true, true, true, true, true, true, true, true, true, true, true, true, true, true, true, true, true, false, false, false, false, false, false, false, false, false, false, false, false, false, false, false, false]) rfl (by kernel_rfl) (by kernel_rfl) (by kernel_rfl) (fun _ _ _ h => h) (Sd.of S20 [] rfl) rfl (wanted_g F34 rfl rfl rfl rfl) rfl rfl fun _ F35 => ?_
         refine g_skip F35 rfl (i := 19) (listed' := #[true, true, true, true, true, true, true, true, true, true, true, true, true, true, true, true, true, true, true, true, false, false, false, false, false, false, false, false, false, false, false, false, false, false, false]) rfl (by kernel_rfl) (by kernel_rfl) (by kernel_rfl) (fun _ _ _ h => h) (Sd.of S20 [] rfl) rfl (wanted_g F35 rfl rfl rfl rfl) rfl rfl fun _ F36 => ?_
         refine g_skip F36 rfl (i := 20) (listed' := #[true, true, true, true, true, true, true, true, true, true, true, true, true, true, true, true, true, true, true, true, true, false, false, false, false, false, false, false, false, false, false, false, false, false, false]) rfl (by kernel_rfl) (by kernel_rfl) (by kernel_rfl) (fun _ _ _ h => h) (Sd.of S20 [] rfl) rfl (wanted_g F36 rfl rfl rfl rfl) rfl rfl fun _ F37 => ?_
         refine g_skip F37 rfl (i := 21) (listed' := #[true, true, true, true, true, true, true, true, true, true, true, true, true, true, true, true, true, true, true, true, true, true, false, false, false, false, false, false, false, false, false, false, false, false, false]) rfl (by kernel_rfl) (by kernel_rfl) (by kernel_rfl) (fun _ _ _ h => h) (Sd.of S20 [] rfl) rfl (wanted_u F37 rfl rfl rfl) rfl rfl fun _ F38 => ?_
         refine g_skip F38 rfl (i := 22) (listed' := #[true, true, true, true, true, true, true, true, true, true, true, true, true, true, true, true, true, true, true, true, true, true, true, false, false, false, false, false, false, false, false, false, false, false, false]) rfl (by kernel_rfl) (by kernel_rfl) (by kernel_rfl) (fun _ _ _ h => h) (Sd.of S20 [] rfl) rfl (wanted_u F38 rfl rfl rfl) rfl rfl fun _ F39 => ?_
         refine g_skip F39 rfl (i := 23) (listed' := #[true, true, true, true, true, true, true, true, true, true, true, true, true, true, true, true, true, true, true, true, true, true, true, true, false, false, false, false, false, false, false, false, false, false, false]) rfl (by kernel_rfl) (by kernel_rfl) (by kernel_rfl) (fun _ _ _ h => h) (Sd.of S20 [] rfl) rfl (wanted_u F39 rfl rfl rfl) rfl rfl fun _ F40 => ?_
         refine g_skip F40 rfl (i := 24) (listed' := #[true, true, true, true, true, true, true, true, true, true, true, true, true, true, true, true, true, true, true, true, true, true, true, true, true, false, false, false, false, false, false, false, false, false, false]) rfl (by kernel_rfl) (by kernel_rfl) (by kernel_rfl) (fun _ _ _ h => h) (Sd.of S20 [] rfl) rfl (wanted_u F40 rfl rfl rfl) rfl rfl fun _ F41 => ?_
         refine g_skip F41 rfl (i := 25) (listed' := #[true, true, true, true, true, true, true, true, true, true, true, true, true, true, true, true, true, true, true, true, true, true, true, true, true, true, false, false, false, false, false, false, false, false, false]) rfl (by kernel_rfl) (by kernel_rfl) (by kernel_rfl) (fun _ _ _ h => h) (Sd.of S20 [] rfl) rfl (wanted_u F41 rfl rfl rfl) rfl rfl fun _ F42 => ?_
         refine g_skip F42 rfl (i := 26) (listed' := #[true, true, true, true, true, true, true, true, true, true, true, true, true, true, true, true, true, true, true, true, true, true, true, true, true, true, true, false, false, false, false, false, false, false, false]) rfl (by kernel_rfl) (by kernel_rfl) (by kernel_rfl) (fun _ _ _ h => h) (Sd.of S20 [] rfl) rfl (wanted_u F42 rfl rfl rfl) rfl rfl fun _ F43 => ?_
         refine g_skip F43 rfl (i := 27) (listed' := #[true, true, true, true, true, true, true, true, true, true, true, true, true, true, true, true, true, true, true, true, true, true, true, true, true, true, true, true, false, false, false, false, false, false, false]) rfl (by kernel_rfl) (by kernel_rfl) (by kernel_rfl) (fun _ _ _ h => h) (Sd.of S20 [] rfl) rfl (wanted_u F43 rfl rfl rfl) rfl rfl fun _ F44 => ?_
         refine g_skip F44 rfl (i := 28) (listed' := #[true, true, true, true, true, true, true, true, true, true, true, true, true, true, true, true, true, true, true, true, true, true, true, true, true, true, true, true, true, false, false, false, false, false, false]) rfl (by kernel_rfl) (by kernel_rfl) (by kernel_rfl) (fun _ _ _ h => h) (Sd.of S20 [] rfl) rfl (wanted_u F44 rfl rfl rfl) rfl rfl fun _ F45 => ?_
         refine g_skip F45 rfl (i := 29) (listed' := #[true, true, true, true, true, true, true, true, true, true, true, true, true, true, true, true, true, true, true, true, true, true, true, true, true, true, true, true, true, true, false, false, false, false, false]) rfl (by kernel_rfl) (by kernel_rfl) (by kernel_rfl) (fun _ _ _ h => h) (Sd.of S20 [] rfl) rfl (wanted_u F45 rfl rfl rfl) rfl rfl fun _ F46 => ?_
         refine g_skip F46 rfl (i := 30) (listed' := #[true, true, true, true, true, true, true, true, true, true, true, true, true, true, true, true, true, true, true, true, true, true, true, true, true, true, true, true, true, true, true, false, false, false, false]) rfl (by kernel_rfl) (by kernel_rfl) (by kernel_rfl) (fun _ _ _ h => h) (Sd.of S20 [] rfl) rfl (wanted_u F46 rfl rfl rfl) rfl rfl fun _ F47 => ?_
         refine g_skip F47 rfl (i := 31) (listed' := #[true, true, true, true, true, true, true, true, true, true, true, true, true, true, true, true, true, true, true, true, true, true, true, true, true, true, true, true, true, true, true, true, false, false, false]) rfl (by kernel_rfl) (by kernel_rfl) (by kernel_rfl) (fun _ _ _ h => h) (Sd.of S20 [] rfl) rfl (wanted_u F47 rfl rfl rfl) rfl rfl fun _ F48 => ?_
         refine g_skip F48 rfl (i := 32) (listed' := #[true, true, true, true, true, true, true, true, true, true, true, true, true, true, true, true, true, true, true, true, true, true, true, true, true, true, true, true, true, true, true, true, true, false, false]) rfl (by kernel_rfl) (by kernel_rfl) (by kernel_rfl) (fun _ _ _ h => h) (Sd.of S20 [] rfl) rfl (wanted_u F48 rfl rfl rfl) rfl rfl fun _ F49 => ?_
         refine g_skip F49 rfl (i := 33) (listed' := #[true, true, true, true, true, true, true, true, true, true, true, true, true, true, true, true, true, true, true, true, true, true, true, true, true, true, true, true, true, true, true, true, true, true, false]) rfl (by kernel_rfl) (by kernel_rfl) (by kernel_rfl) (fun _ _ _ h => h) (Sd.of S20 [] rfl) rfl (wanted_g F49 rfl rfl rfl rfl) rfl rfl fun _ F50 => ?_
         refine g_take F50 rfl (i := 34) (listed' := #[true, true, true, true, true, true, true, true, true, true, true, true, true, true, true, true, true, true, true, true, true, true, true, true, true, true, true, true, true, true, true, true, true, true, true]) rfl (by kernel_rfl) (by kernel_rfl) (by kernel_rfl) (fun _ _ _ h => h) (Sd.of S20 [] rfl) rfl rfl rfl rfl (fun _ hz => (r_pick (b := true) rfl (F50.ev 27 rfl) rfl)) fun _ F51 => ?_
         refine wpAnyH_done (by kernel_rfl) (x_normal ?_) _
         exact ⟨Fr.cast (F51.cut rfl) (congrArg (fun zZ => ([(0, .slice s_a s_n s_c), (3, .int .i64 ((k : Nat) : Int)), (44, .bool zZ)] : List (Nat × Value))) (show true = (!cellOk s k) from by first | exact ck_1 hx1 (by assumption) | exact ck_2 hx1 (by assumption) (by assumption) | exact ck_3 hx1 (by assumption) (by assumption) (by assumption) | exact ck_4 hx1 (by assumption) (by assumption) (by assumption) hx2)), ((S13.trans S20).pick [] rfl)⟩
       · rw [h24] at F23
         refine g_take F23 rfl (i := 8) (listed' := #[true, true, true, true, true, true, true, true, true, false, false, false, false, false, false, false, false, false, false, false, false, false, false, false, false, false, false, false, false, false, false, false, false, false, false]) rfl (by kernel_rfl) (by kernel_rfl) (by kernel_rfl) (fun _ _ _ h => h) (Sd.of S20 [] rfl) rfl (wanted_g F23 rfl rfl rfl rfl) rfl rfl (fun _ hz => (r_move rfl (F23.ev 0 rfl))) fun _ F52 => ?_
         refine g_take F52 rfl (i := 9) (listed' := #[true, true, true, true, true, true, true, true, true, true, false, false, false, false, false, false, false, false, false, false, false, false, false, false, false, false, false, false, false, false, false, false, false, false, false]) rfl (by kernel_rfl) (by kernel_rfl) (by kernel_rfl) (fun _ _ _ h => h) (Sd.of S20 [] rfl) rfl (wanted_g F52 rfl rfl rfl rfl) rfl rfl (fun _ hz => (r_move rfl (F52.ev 3 rfl))) fun _ F53 => ?_
         obtain ⟨B54, O54, y54, ad54, hy54, oky54, ln54, cl54⟩ := Rd.atK (Nat.succ_pos _) (Rd.mv (Nat.succ_pos _) V_v_s (S5.trans S13)) k (by first | assumption | omega)
         clear ln54
         obtain rfl := Option.some.inj (hx1.symm.trans hy54)
         clear hy54 oky54
         refine g_take F53 rfl (i := 10) (listed' := #[true, true, true, true, true, true, true, true, true, true, true, false, false, false, false, false, false, false, false, false, false, false, false, false, false, false, false, false, false, false, false, false, false, false, false]) rfl (by kernel_rfl) (by kernel_rfl) (by kernel_rfl) (fun _ _ _ h => h) (Sd.of S20 [] rfl) rfl (wanted_g F53 rfl rfl rfl rfl) rfl rfl (fun _ hz => (r_indexAddr (i := k) ET_74 rfl ((F53.ev 18 rfl).trans (by rw [ad54])) (F53.ev 19 rfl) (by omega) (by first | assumption | omega))) fun _ F55 => ?_
         refine g_take F55 rfl (i := 11) (listed' := #[true, true, true, true, true, true, true, true, true, true, true, true, false, false, false, false, false, false, false, false, false, false, false, false, false, false, false, false, false, false, false, false, false, false, false]) rfl (by kernel_rfl) (by kernel_rfl) (by kernel_rfl) (fun _ _ _ h => h) (Sd.of S20 [] rfl) rfl (wanted_g F55 rfl rfl rfl rfl) rfl rfl (fun _ hz => (r_field FI_144_1 rfl (F55.ev 20 rfl) rfl)) fun _ F56 => ?_
         refine g_take (v := .string x1.val) F56 rfl (i := 12) (listed' := #[true, true, true, true, true, true, true, true, true, true, true, true, true, false, false, false, false, false, false, false, false, false, false, false, false, false, false, false, false, false, false, false, false, false, false]) rfl (by kernel_rfl) (by kernel_rfl) (by kernel_rfl) (fun _ _ _ h => h) (Sd.of S20 [] rfl) rfl (wanted_g F56 rfl rfl rfl rfl) rfl rfl (fun _ hz => (r_load (cs := [.string x1.val]) TI_9 rfl (F56.ev 21 rfl) rfl (fun _ => rfl) (elem_sub (f := 1) (cl54 _ hz.kp) [.string x1.val] rfl))) fun _ F57 => ?_
         refine g_take F57 rfl (i := 13) (listed' := #[true, true, true, true, true, true, true, true, true, true, true, true, true, true, false, false, false, false, false, false, false, false, false, false, false, false, false, false, false, false, false, false, false, false, false]) rfl (by kernel_rfl) (by kernel_rfl) (by kernel_rfl) (fun _ _ _ h => h) (Sd.of S20 [] rfl) rfl (wanted_g F57 rfl rfl rfl rfl) rfl rfl (fun _ hz => (r_lenS (fun t ht => by cases ht; exact Try.underlying9) rfl rfl (F57.ev 22 rfl))) fun _ F58 => ?_
         refine d_one (i := 14) (listed' := #[true, true, true, true, true, true, true, true, true, true, true, true, true, true, true, false, false, false, false, false, false, false, false, false, false, false, false, false, false, false, false, false, false, false, false]) rfl (by kernel_rfl) rfl rfl ?_
         refine f_call F58 CF_61 (wanted_g F58 rfl rfl rfl rfl) rfl rfl rfl (lc (F58.ev 23 rfl) (lc rfl (lc rfl rfl))) (spec_l01In_c (H := fun _ => True) (x := ((x1.val.size : Nat) : Int)) (least := 1) (most := 60) (by first | exact ⟨by omega, by omega⟩ | (have hz := okx1.2; unfold okS at hz; exact ⟨by omega, by omega⟩)) (by first | exact ⟨by omega, by omega⟩ | (have hz := okx1.2; unfold okS at hz; exact ⟨by omega, by omega⟩)) (by first | exact ⟨by omega, by omega⟩ | (have hz := okx1.2; unfold okS at hz; exact ⟨by omega, by omega⟩))) ?_
         rintro _ w59 ⟨rfl, m59⟩
         refine ⟨_, rfl, fun _ F60 => ?_⟩
         have S59 := At.frame0 S20.at' m59
         clear m59
         refine ⟨Sd.of (S20.trans S59) [] rfl, ?_⟩
         refine g_take F60 rfl (i := 15) (listed' := #[true, true, true, true, true, true, true, true, true, true, true, true, true, true, true, true, false, false, false, false, false, false, false, false, false, false, false, false, false, false, false, false, false, false, false]) rfl (by kernel_rfl) (by kernel_rfl) (by kernel_rfl) (fun _ _ _ h => h) (Sd.of (S20.trans S59) [] rfl) rfl (wanted_g F60 rfl rfl rfl rfl) rfl rfl (fun _ hz => (r_not rfl (F60.ev 24 rfl))) fun _ F61 => ?_
         refine g_take F61 rfl (i := 16) (listed' := #[true, true, true, true, true, true, true, true, true, true, true, true, true, true, true, true, true, false, false, false, false, false, false, false, false, false, false, false, false, false, false, false, false, false, false]) rfl (by kernel_rfl) (by kernel_rfl) (by kernel_rfl) (fun _ _ _ h => h) (Sd.of (S20.trans S59) [] rfl) rfl rfl rfl rfl (fun _ hz => (r_pick (b := false) rfl (F61.ev 17 rfl) (F61.ev 25 rfl))) fun _ F62 => ?_
         refine g_take F62 rfl (i := 17) (listed' := #[true, true, true, true, true, true, true, true, true, true, true, true, true, true, true, true, true, true, false, false, false, false, false, false, false, false, false, false, false, false, false, false, false, false, false]) rfl (by kernel_rfl) (by kernel_rfl) (by kernel_rfl) (fun _ _ _ h => h) (Sd.of (S20.trans S59) [] rfl) rfl rfl rfl rfl (fun _ hz => (r_move rfl (F62.ev 26 rfl))) fun _ F63 => ?_
         rcases Bool.eq_false_or_eq_true (!(inB ((x1.val.size : Nat) : Int) 1 60)) with h64 | h64
         · rw [h64] at F63
           refine g_skip F63 rfl (i := 18) (listed' := #[true, true, true, true, true, true, true, true, true, true, true, true, true, true, true, true, true, true, true, false, false, false, false, false, false, false, false, false, false, false, false, false, false, false, false]) rfl (by kernel_rfl) (by kernel_rfl) (by kernel_rfl) (fun _ _ _ h => h) (Sd.of (S20.trans S59) [] rfl) rfl (wanted_g F63 rfl rfl rfl rfl) rfl rfl fun _ F65 => ?_
           refine g_skip F65 rfl (i := 19) (listed' := #[true, true, true, true, true, true, true, true, true, true, true, true, true, true, true, true, true, true, true, true, false, false, false, false, false, false, false, false, false, false, false, false, false, false, false]) rfl (by kernel_rfl) (by kernel_rfl) (by kernel_rfl) (fun _ _ _ h => h) (Sd.of (S20.trans S59) [] rfl) rfl (wanted_g F65 rfl rfl rfl rfl) rfl rfl fun _ F66 => ?_
           refine g_skip F66 rfl (i := 20) (listed' := #[true, true, true, true, true, true, true, true, true, true, true, true, true, true, true, true, true, true, true, true, true, false, false, false, false, false, false, false, false, false, false, false, false, false, false]) rfl (by kernel_rfl) (by kernel_rfl) (by kernel_rfl) (fun _ _ _ h => h) (Sd.of (S20.trans S59) [] rfl) rfl (wanted_g F66 rfl rfl rfl rfl) rfl rfl fun _ F67 => ?_
           refine g_skip F67 rfl (i := 21) (listed' := #[true, true, true, true, true, true, true, true, true, true, true, true, true, true, true, true, true, true, true, true, true, true, false, false, false, false, false, false, false, false, false, false, false, false, false]) rfl (by kernel_rfl) (by kernel_rfl) (by kernel_rfl) (fun _ _ _ h => h) (Sd.of (S20.trans S59) [] rfl) rfl (wanted_u F67 rfl rfl rfl) rfl rfl fun _ F68 => ?_
           refine g_skip F68 rfl (i := 22) (listed' := #[true, true, true, true, true, true, true, true, true, true, true, true, true, true, true, true, true, true, true, true, true, true, true, false, false, false, false, false, false, false, false, false, false, false, false]) rfl (by kernel_rfl) (by kernel_rfl) (by kernel_rfl) (fun _ _ _ h => h) (Sd.of (S20.trans S59) [] rfl) rfl (wanted_u F68 rfl rfl rfl) rfl rfl fun _ F69 => ?_
           refine g_skip F69 rfl (i := 23) (listed' := #[true, true, true, true, true, true, true, true, true, true, true, true, true, true, true, true, true, true, true, true, true, true, true, true, false, false, false, false, false, false, false, false, false, false, false]) rfl (by kernel_rfl) (by kernel_rfl) (by kernel_rfl) (fun _ _ _ h => h) (Sd.of (S20.trans S59) [] rfl) rfl (wanted_u F69 rfl rfl rfl) rfl rfl fun _ F70 => ?_
           refine g_skip F70 rfl (i := 24) (listed' := #[true, true, true, true, true, true, true, true, true, true, true, true, true, true, true, true, true, true, true, true, true, true, true, true, true, false, false, false, false, false, false, false, false, false, false]) rfl (by kernel_rfl) (by kernel_rfl) (by kernel_rfl) (fun _ _ _ h => h) (Sd.of (S20.trans S59) [] rfl) rfl (wanted_u F70 rfl rfl rfl) rfl rfl fun _ F71 => ?_
           refine g_skip F71 rfl (i := 25) (listed' := #[true, true, true, true, true, true, true, true, true, true, true, true, true, true, true, true, true, true, true, true, true, true, true, true, true, true, false, false, false, false, false, false, false, false, false]) rfl (by kernel_rfl) (by kernel_rfl) (by kernel_rfl) (fun _ _ _ h => h) (Sd.of (S20.trans S59) [] rfl) rfl (wanted_u F71 rfl rfl rfl) rfl rfl fun _ F72 => ?_
           refine g_skip F72 rfl (i := 26) (listed' := #[true, true, true, true, true, true, true, true, true, true, true, true, true, true, true, true, true, true, true, true, true, true, true, true, true, true, true, false, false, false, false, false, false, false, false]) rfl (by kernel_rfl) (by kernel_rfl) (by kernel_rfl) (fun _ _ _ h => h) (Sd.of (S20.trans S59) [] rfl) rfl (wanted_u F72 rfl rfl rfl) rfl rfl fun _ F73 => ?_
           refine g_skip F73 rfl (i := 27) (listed' := #[true, true, true, true, true, true, true, true, true, true, true, true, true, true, true, true, true, true, true, true, true, true, true, true, true, true, true, true, false, false, false, false, false, false, false]) rfl (by kernel_rfl) (by kernel_rfl) (by kernel_rfl) (fun _ _ _ h => h) (Sd.of (S20.trans S59) [] rfl) rfl (wanted_u F73 rfl rfl rfl) rfl rfl fun _ F74 => ?_
           refine g_skip F74 rfl (i := 28) (listed' := #[true, true, true, true, true, true, true, true, true, true, true, true, true, true, true, true, true, true, true, true, true, true, true, true, true, true, true, true, true, false, false, false, false, false, false]) rfl (by kernel_rfl) (by kernel_rfl) (by kernel_rfl) (fun _ _ _ h => h) (Sd.of (S20.trans S59) [] rfl) rfl (wanted_u F74 rfl rfl rfl) rfl rfl fun _ F75 => ?_
           refine g_skip F75 rfl (i := 29) (listed' := #[true, true, true, true, true, true, true, true, true, true, true, true, true, true, true, true, true, true, true, true, true, true, true, true, true, true, true, true, true, true, false, false, false, false, false]) rfl (by kernel_rfl) (by kernel_rfl) (by kernel_rfl) (fun _ _ _ h => h) (Sd.of (S20.trans S59) [] rfl) rfl (wanted_u F75 rfl rfl rfl) rfl rfl fun _ F76 => ?_
           refine g_skip F76 rfl (i := 30) (listed' := #[true, true, true, true, true, true, true, true, true, true, true, true, true, true, true, true, true, true, true, true, true, true, true, true, true, true, true, true, true, true, true, false, false, false, false]) rfl (by kernel_rfl) (by kernel_rfl) (by kernel_rfl) (fun _ _ _ h => h) (Sd.of (S20.trans S59) [] rfl) rfl (wanted_u F76 rfl rfl rfl) rfl rfl fun _ F77 => ?_
           refine g_skip F77 rfl (i := 31) (listed' := #[true, true, true, true, true, true, true, true, true, true, true, true, true, true, true, true, true, true, true, true, true, true, true, true, true, true, true, true, true, true, true, true, false, false, false]) rfl (by kernel_rfl) (by kernel_rfl) (by kernel_rfl) (fun _ _ _ h => h) (Sd.of (S20.trans S59) [] rfl) rfl (wanted_u F77 rfl rfl rfl) rfl rfl fun _ F78 => ?_
           refine g_skip F78 rfl (i := 32) (listed' := #[true, true, true, true, true, true, true, true, true, true, true, true, true, true, true, true, true, true, true, true, true, true, true, true, true, true, true, true, true, true, true, true, true, false, false]) rfl (by kernel_rfl) (by kernel_rfl) (by kernel_rfl) (fun _ _ _ h => h) (Sd.of (S20.trans S59) [] rfl) rfl (wanted_u F78 rfl rfl rfl) rfl rfl fun _ F79 => ?_
           refine g_skip F79 rfl (i := 33) (listed' := #[true, true, true, true, true, true, true, true, true, true, true, true, true, true, true, true, true, true, true, true, true, true, true, true, true, true, true, true, true, true, true, true, true, true, false]) rfl (by kernel_rfl) (by kernel_rfl) (by kernel_rfl) (fun _ _ _ h => h) (Sd.of (S20.trans S59) [] rfl) rfl (wanted_g F79 rfl rfl rfl rfl) rfl rfl fun _ F80 => ?_
           refine g_take F80 rfl (i := 34) (listed' := #[true, true, true, true, true, true, true, true, true, true, true, true, true, true, true, true, true, true, true, true, true, true, true, true, true, true, true, true, true, true, true, true, true, true, true]) rfl (by kernel_rfl) (by kernel_rfl) (by kernel_rfl) (fun _ _ _ h => h) (Sd.of (S20.trans S59) [] rfl) rfl rfl rfl rfl (fun _ hz => (r_pick (b := true) rfl (F80.ev 27 rfl) rfl)) fun _ F81 => ?_
           refine wpAnyH_done (by kernel_rfl) (x_normal ?_) _
           exact ⟨Fr.cast (F81.cut rfl) (congrArg (fun zZ => ([(0, .slice s_a s_n s_c), (3, .int .i64 ((k : Nat) : Int)), (44, .bool zZ)] : List (Nat × Value))) (show true = (!cellOk s k) from by first | exact ck_1 hx1 (by assumption) | exact ck_2 hx1 (by assumption) (by assumption) | exact ck_3 hx1 (by assumption) (by assumption) (by assumption) | exact ck_4 hx1 (by assumption) (by assumption) (by assumption) hx2)), ((S13.trans (S20.trans S59)).pick [] rfl)⟩
         · rw [h64] at F63
           refine g_take F63 rfl (i := 18) (listed' := #[true, true, true, true, true, true, true, true, true, true, true, true, true, true, true, true, true, true, true, false, false, false, false, false, false, false, false, false, false, false, false, false, false, false, false]) rfl (by kernel_rfl) (by kernel_rfl) (by kernel_rfl) (fun _ _ _ h => h) (Sd.of (S20.trans S59) [] rfl) rfl (wanted_g F63 rfl rfl rfl rfl) rfl rfl (fun _ hz => (r_move rfl (F63.ev 3 rfl))) fun _ F82 => ?_
           refine g_take F82 rfl (i := 19) (listed' := #[true, true, true, true, true, true, true, true, true, true, true, true, true, true, true, true, true, true, true, true, false, false, false, false, false, false, false, false, false, false, false, false, false, false, false]) rfl (by kernel_rfl) (by kernel_rfl) (by kernel_rfl) (fun _ _ _ h => h) (Sd.of (S20.trans S59) [] rfl) rfl (wanted_g F82 rfl rfl rfl rfl) rfl rfl (fun _ hz => (r_cmp (b := decide (k > 0)) (.inr (.inr (.inr (.inr (.inl rfl))))) rfl (F82.ev 28 rfl) rfl (dec_of (by omega)))) fun _ F83 => ?_
           refine g_take F83 rfl (i := 20) (listed' := #[true, true, true, true, true, true, true, true, true, true, true, true, true, true, true, true, true, true, true, true, true, false, false, false, false, false, false, false, false, false, false, false, false, false, false]) rfl (by kernel_rfl) (by kernel_rfl) (by kernel_rfl) (fun _ _ _ h => h) (Sd.of (S20.trans S59) [] rfl) rfl (wanted_g F83 rfl rfl rfl rfl) rfl rfl (fun _ hz => (r_move rfl (F83.ev 29 rfl))) fun _ F84 => ?_
           rcases Decidable.em (k > 0) with h85 | h85
           · rw [decide_eq_true h85] at F84
             refine g_take F84 rfl (i := 21) (listed' := #[true, true, true, true, true, true, true, true, true, true, true, true, true, true, true, true, true, true, true, true, true, true, false, false, false, false, false, false, false, false, false, false, false, false, false]) rfl (by kernel_rfl) (by kernel_rfl) (by kernel_rfl) (fun _ _ _ h => h) (Sd.of (S20.trans S59) [] rfl) rfl (wanted_g F84 rfl rfl rfl rfl) rfl rfl (fun _ hz => (r_move rfl (F84.ev 0 rfl))) fun _ F86 => ?_
             refine g_take F86 rfl (i := 22) (listed' := #[true, true, true, true, true, true, true, true, true, true, true, true, true, true, true, true, true, true, true, true, true, true, true, false, false, false, false, false, false, false, false, false, false, false, false]) rfl (by kernel_rfl) (by kernel_rfl) (by kernel_rfl) (fun _ _ _ h => h) (Sd.of (S20.trans S59) [] rfl) rfl (wanted_g F86 rfl rfl rfl rfl) rfl rfl (fun _ hz => (r_move rfl (F86.ev 3 rfl))) fun _ F87 => ?_
             refine g_take F87 rfl (i := 23) (listed' := #[true, true, true, true, true, true, true, true, true, true, true, true, true, true, true, true, true, true, true, true, true, true, true, true, false, false, false, false, false, false, false, false, false, false, false]) rfl (by kernel_rfl) (by kernel_rfl) (by kernel_rfl) (fun _ _ _ h => h) (Sd.of (S20.trans S59) [] rfl) rfl (wanted_g F87 rfl rfl rfl rfl) rfl rfl (fun _ hz => (r_sub (z := ((k - 1 : Nat) : Int)) rfl (F87.ev 32 rfl) rfl (by first | rfl | omega) ⟨by first | omega | (unfold i64ok at *; omega), by first | omega | (unfold i64ok at *; omega)⟩)) fun _ F88 => ?_
             obtain ⟨B89, O89, x2, ad89, hx2, okx2, ln89, cl89⟩ := Rd.atK (Nat.succ_pos _) (Rd.mv (Nat.succ_pos _) V_v_s (S5.trans S13)) (k - 1) (by first | assumption | omega)
             clear ln89
             refine g_take F88 rfl (i := 24) (listed' := #[true, true, true, true, true, true, true, true, true, true, true, true, true, true, true, true, true, true, true, true, true, true, true, true, true, false, false, false, false, false, false, false, false, false, false]) rfl (by kernel_rfl) (by kernel_rfl) (by kernel_rfl) (fun _ _ _ h => h) (Sd.of (S20.trans S59) [] rfl) rfl (wanted_g F88 rfl rfl rfl rfl) rfl rfl (fun _ hz => (r_indexAddr (i := k - 1) ET_74 rfl ((F88.ev 31 rfl).trans (by rw [ad89])) (F88.ev 33 rfl) (by omega) (by first | assumption | omega))) fun _ F90 => ?_
             refine g_take F90 rfl (i := 25) (listed' := #[true, true, true, true, true, true, true, true, true, true, true, true, true, true, true, true, true, true, true, true, true, true, true, true, true, true, false, false, false, false, false, false, false, false, false]) rfl (by kernel_rfl) (by kernel_rfl) (by kernel_rfl) (fun _ _ _ h => h) (Sd.of (S20.trans S59) [] rfl) rfl (wanted_g F90 rfl rfl rfl rfl) rfl rfl (fun _ hz => (r_field FI_144_0 rfl (F90.ev 34 rfl) rfl)) fun _ F91 => ?_
             refine g_take (v := .string x2.key) F91 rfl (i := 26) (listed' := #[true, true, true, true, true, true, true, true, true, true, true, true, true, true, true, true, true, true, true, true, true, true, true, true, true, true, true, false, false, false, false, false, false, false, false]) rfl (by kernel_rfl) (by kernel_rfl) (by kernel_rfl) (fun _ _ _ h => h) (Sd.of (S20.trans S59) [] rfl) rfl (wanted_g F91 rfl rfl rfl rfl) rfl rfl (fun _ hz => (r_load (cs := [.string x2.key]) TI_9 rfl (F91.ev 35 rfl) rfl (fun _ => rfl) (elem_sub (f := 0) (cl89 _ hz.kp) [.string x2.key] rfl))) fun _ F92 => ?_
             refine g_take F92 rfl (i := 27) (listed' := #[true, true, true, true, true, true, true, true, true, true, true, true, true, true, true, true, true, true, true, true, true, true, true, true, true, true, true, true, false, false, false, false, false, false, false]) rfl (by kernel_rfl) (by kernel_rfl) (by kernel_rfl) (fun _ _ _ h => h) (Sd.of (S20.trans S59) [] rfl) rfl (wanted_g F92 rfl rfl rfl rfl) rfl rfl (fun _ hz => (r_move rfl (F92.ev 0 rfl))) fun _ F93 => ?_
             refine g_take F93 rfl (i := 28) (listed' := #[true, true, true, true, true, true, true, true, true, true, true, true, true, true, true, true, true, true, true, true, true, true, true, true, true, true, true, true, true, false, false, false, false, false, false]) rfl (by kernel_rfl) (by kernel_rfl) (by kernel_rfl) (fun _ _ _ h => h) (Sd.of (S20.trans S59) [] rfl) rfl (wanted_g F93 rfl rfl rfl rfl) rfl rfl (fun _ hz => (r_move rfl (F93.ev 3 rfl))) fun _ F94 => ?_
             obtain ⟨B95, O95, y95, ad95, hy95, oky95, ln95, cl95⟩ := Rd.atK (Nat.succ_pos _) (Rd.mv (Nat.succ_pos _) V_v_s (S5.trans S13)) k (by first | assumption | omega)
             clear ln95
             obtain rfl := Option.some.inj (hx1.symm.trans hy95)
             clear hy95 oky95
             refine g_take F94 rfl (i := 29) (listed' := #[true, true, true, true, true, true, true, true, true, true, true, true, true, true, true, true, true, true, true, true, true, true, true, true, true, true, true, true, true, true, false, false, false, false, false]) rfl (by kernel_rfl) (by kernel_rfl) (by kernel_rfl) (fun _ _ _ h => h) (Sd.of (S20.trans S59) [] rfl) rfl (wanted_g F94 rfl rfl rfl rfl) rfl rfl (fun _ hz => (r_indexAddr (i := k) ET_74 rfl ((F94.ev 37 rfl).trans (by rw [ad95])) (F94.ev 38 rfl) (by omega) (by first | assumption | omega))) fun _ F96 => ?_
             refine g_take F96 rfl (i := 30) (listed' := #[true, true, true, true, true, true, true, true, true, true, true, true, true, true, true, true, true, true, true, true, true, true, true, true, true, true, true, true, true, true, true, false, false, false, false]) rfl (by kernel_rfl) (by kernel_rfl) (by kernel_rfl) (fun _ _ _ h => h) (Sd.of (S20.trans S59) [] rfl) rfl (wanted_g F96 rfl rfl rfl rfl) rfl rfl (fun _ hz => (r_field FI_144_0 rfl (F96.ev 39 rfl) rfl)) fun _ F97 => ?_
             refine g_take (v := .string x1.key) F97 rfl (i := 31) (listed' := #[true, true, true, true, true, true, true, true, true, true, true, true, true, true, true, true, true, true, true, true, true, true, true, true, true, true, true, true, true, true, true, true, false, false, false]) rfl (by kernel_rfl) (by kernel_rfl) (by kernel_rfl) (fun _ _ _ h => h) (Sd.of (S20.trans S59) [] rfl) rfl (wanted_g F97 rfl rfl rfl rfl) rfl rfl (fun _ hz => (r_load (cs := [.string x1.key]) TI_9 rfl (F97.ev 40 rfl) rfl (fun _ => rfl) (elem_sub (f := 0) (cl95 _ hz.kp) [.string x1.key] rfl))) fun _ F98 => ?_
             refine g_take F98 rfl (i := 32) (listed' := #[true, true, true, true, true, true, true, true, true, true, true, true, true, true, true, true, true, true, true, true, true, true, true, true, true, true, true, true, true, true, true, true, true, false, false]) rfl (by kernel_rfl) (by kernel_rfl) (by kernel_rfl) (fun _ _ _ h => h) (Sd.of (S20.trans S59) [] rfl) rfl (wanted_g F98 rfl rfl rfl rfl) rfl rfl (fun _ hz => (r_cmps (b := (!ltS x2.key x1.key)) (.inr (.inr (.inr (.inr (.inr rfl))))) rfl (F98.ev 36 rfl) (F98.ev 41 rfl) rfl)) fun _ F99 => ?_
             refine g_take F99 rfl (i := 33) (listed' := #[true, true, true, true, true, true, true, true, true, true, true, true, true, true, true, true, true, true, true, true, true, true, true, true, true, true, true, true, true, true, true, true, true, true, false]) rfl (by kernel_rfl) (by kernel_rfl) (by kernel_rfl) (fun _ _ _ h => h) (Sd.of (S20.trans S59) [] rfl) rfl (wanted_g F99 rfl rfl rfl rfl) rfl rfl (fun _ hz => (r_pick (b := true) rfl (F99.ev 30 rfl) (F99.ev 42 rfl))) fun _ F100 => ?_
             refine g_take F100 rfl (i := 34) (listed' := #[true, true, true, true, true, true, true, true, true, true, true, true, true, true, true, true, true, true, true, true, true, true, true, true, true, true, true, true, true, true, true, true, true, true, true]) rfl (by kernel_rfl) (by kernel_rfl) (by kernel_rfl) (fun _ _ _ h => h) (Sd.of (S20.trans S59) [] rfl) rfl rfl rfl rfl (fun _ hz => (r_pick (b := false) rfl (F100.ev 27 rfl) (F100.ev 43 rfl))) fun _ F101 => ?_
             refine wpAnyH_done (by kernel_rfl) (x_normal ?_) _
             exact ⟨Fr.cast (F101.cut rfl) (congrArg (fun zZ => ([(0, .slice s_a s_n s_c), (3, .int .i64 ((k : Nat) : Int)), (44, .bool zZ)] : List (Nat × Value))) (show (!ltS x2.key x1.key) = (!cellOk s k) from by first | exact ck_1 hx1 (by assumption) | exact ck_2 hx1 (by assumption) (by assumption) | exact ck_3 hx1 (by assumption) (by assumption) (by assumption) | exact ck_4 hx1 (by assumption) (by assumption) (by assumption) hx2)), ((S13.trans (S20.trans S59)).pick [] rfl)⟩
           · rw [decide_eq_false h85] at F84
             refine g_skip F84 rfl (i := 21) (listed' := #[true, true, true, true, true, true, true, true, true, true, true, true, true, true, true, true, true, true, true, true, true, true, false, false, false, false, false, false, false, false, false, false, false, false, false]) rfl (by kernel_rfl) (by kernel_rfl) (by kernel_rfl) (fun _ _ _ h => h) (Sd.of (S20.trans S59) [] rfl) rfl (wanted_g F84 rfl rfl rfl rfl) rfl rfl fun _ F102 => ?_
             refine g_skip F102 rfl (i := 22) (listed' := #[true, true, true, true, true, true, true, true, true, true, true, true, true, true, true, true, true, true, true, true, true, true, true, false, false, false, false, false, false, false, false, false, false, false, false]) rfl (by kernel_rfl) (by kernel_rfl) (by kernel_rfl) (fun _ _ _ h => h) (Sd.of (S20.trans S59) [] rfl) rfl (wanted_g F102 rfl rfl rfl rfl) rfl rfl fun _ F103 => ?_
             refine g_skip F103 rfl (i := 23) (listed' := #[true, true, true, true, true, true, true, true, true, true, true, true, true, true, true, true, true, true, true, true, true, true, true, true, false, false, false, false, false, false, false, false, false, false, false]) rfl (by kernel_rfl) (by kernel_rfl) (by kernel_rfl) (fun _ _ _ h => h) (Sd.of (S20.trans S59) [] rfl) rfl (wanted_g F103 rfl rfl rfl rfl) rfl rfl fun _ F104 => ?_
             refine g_skip F104 rfl (i := 24) (listed' := #[true, true, true, true, true, true, true, true, true, true, true, true, true, true, true, true, true, true, true, true, true, true, true, true, true, false, false, false, false, false, false, false, false, false, false]) rfl (by kernel_rfl) (by kernel_rfl) (by kernel_rfl) (fun _ _ _ h => h) (Sd.of (S20.trans S59) [] rfl) rfl (wanted_g F104 rfl rfl rfl rfl) rfl rfl fun _ F105 => ?_
             refine g_skip F105 rfl (i := 25) (listed' := #[true, true, true, true, true, true, true, true, true, true, true, true, true, true, true, true, true, true, true, true, true, true, true, true, true, true, false, false, false, false, false, false, false, false, false]) rfl (by kernel_rfl) (by kernel_rfl) (by kernel_rfl) (fun _ _ _ h => h) (Sd.of (S20.trans S59) [] rfl) rfl (wanted_g F105 rfl rfl rfl rfl) rfl rfl fun _ F106 => ?_
             refine g_skip F106 rfl (i := 26) (listed' := #[true, true, true, true, true, true, true, true, true, true, true, true, true, true, true, true, true, true, true, true, true, true, true, true, true, true, true, false, false, false, false, false, false, false, false]) rfl (by kernel_rfl) (by kernel_rfl) (by kernel_rfl) (fun _ _ _ h => h) (Sd.of (S20.trans S59) [] rfl) rfl (wanted_g F106 rfl rfl rfl rfl) rfl rfl fun _ F107 => ?_
             refine g_skip F107 rfl (i := 27) (listed' := #[true, true, true, true, true, true, true, true, true, true, true, true, true, true, true, true, true, true, true, true, true, true, true, true, true, true, true, true, false, false, false, false, false, false, false]) rfl (by kernel_rfl) (by kernel_rfl) (by kernel_rfl) (fun _ _ _ h => h) (Sd.of (S20.trans S59) [] rfl) rfl (wanted_g F107 rfl rfl rfl rfl) rfl rfl fun _ F108 => ?_
             refine g_skip F108 rfl (i := 28) (listed' := #[true, true, true, true, true, true, true, true, true, true, true, true, true, true, true, true, true, true, true, true, true, true, true, true, true, true, true, true, true, false, false, false, false, false, false]) rfl (by kernel_rfl) (by kernel_rfl) (by kernel_rfl) (fun _ _ _ h => h) (Sd.of (S20.trans S59) [] rfl) rfl (wanted_g F108 rfl rfl rfl rfl) rfl rfl fun _ F109 => ?_
             refine g_skip F109 rfl (i := 29) (listed' := #[true, true, true, true, true, true, true, true, true, true, true, true, true, true, true, true, true, true, true, true, true, true, true, true, true, true, true, true, true, true, false, false, false, false, false]) rfl (by kernel_rfl) (by kernel_rfl) (by kernel_rfl) (fun _ _ _ h => h) (Sd.of (S20.trans S59) [] rfl) rfl (wanted_g F109 rfl rfl rfl rfl) rfl rfl fun _ F110 => ?_
             refine g_skip F110 rfl (i := 30) (listed' := #[true, true, true, true, true, true, true, true, true, true, true, true, true, true, true, true, true, true, true, true, true, true, true, true, true, true, true, true, true, true, true, false, false, false, false]) rfl (by kernel_rfl) (by kernel_rfl) (by kernel_rfl) (fun _ _ _ h => h) (Sd.of (S20.trans S59) [] rfl) rfl (wanted_g F110 rfl rfl rfl rfl) rfl rfl fun _ F111 => ?_
             refine g_skip F111 rfl (i := 31) (listed' := #[true, true, true, true, true, true, true, true, true, true, true, true, true, true, true, true, true, true, true, true, true, true, true, true, true, true, true, true, true, true, true, true, false, false, false]) rfl (by kernel_rfl) (by kernel_rfl) (by kernel_rfl) (fun _ _ _ h => h) (Sd.of (S20.trans S59) [] rfl) rfl (wanted_g F111 rfl rfl rfl rfl) rfl rfl fun _ F112 => ?_
             refine g_skip F112 rfl (i := 32) (listed' := #[true, true, true, true, true, true, true, true, true, true, true, true, true, true, true, true, true, true, true, true, true, true, true, true, true, true, true, true, true, true, true, true, true, false, false]) rfl (by kernel_rfl) (by kernel_rfl) (by kernel_rfl) (fun _ _ _ h => h) (Sd.of (S20.trans S59) [] rfl) rfl (wanted_g F112 rfl rfl rfl rfl) rfl rfl fun _ F113 => ?_
             refine g_take F113 rfl (i := 33) (listed' := #[true, true, true, true, true, true, true, true, true, true, true, true, true, true, true, true, true, true, true, true, true, true, true, true, true, true, true, true, true, true, true, true, true, true, false]) rfl (by kernel_rfl) (by kernel_rfl) (by kernel_rfl) (fun _ _ _ h => h) (Sd.of (S20.trans S59) [] rfl) rfl (wanted_g F113 rfl rfl rfl rfl) rfl rfl (fun _ hz => (r_pick (b := false) rfl (F113.ev 30 rfl) rfl)) fun _ F114 => ?_
             refine g_take F114 rfl (i := 34) (listed' := #[true, true, true, true, true, true, true, true, true, true, true, true, true, true, true, true, true, true, true, true, true, true, true, true, true, true, true, true, true, true, true, true, true, true, true]) rfl (by kernel_rfl) (by kernel_rfl) (by kernel_rfl) (fun _ _ _ h => h) (Sd.of (S20.trans S59) [] rfl) rfl rfl rfl rfl (fun _ hz => (r_pick (b := false) rfl (F114.ev 27 rfl) (F114.ev 43 rfl))) fun _ F115 => ?_
             refine wpAnyH_done (by kernel_rfl) (x_normal ?_) _
             exact ⟨Fr.cast (F115.cut rfl) (congrArg (fun zZ => ([(0, .slice s_a s_n s_c), (3, .int .i64 ((k : Nat) : Int)), (44, .bool zZ)] : List (Nat × Value))) (show false = (!cellOk s k) from by first | exact ck_1 hx1 (by assumption) | exact ck_2 hx1 (by assumption) (by assumption) | exact ck_3 hx1 (by assumption) (by assumption) (by assumption) | exact ck_4 hx1 (by assumption) (by assumption) (by assumption) hx2)), ((S13.trans (S20.trans S59)).pick [] rfl)⟩
     · rintro a116 w116 ⟨F116, S116⟩
       refine x_normal (x_condb (b := (!cellOk s k)) (F116.ev 44 rfl) (fun h117 => ?_) (fun h117 => ?_))
       · skip
         refine wp_seq (wp_region_lit (l_op (f_val F116 rfl rfl (r_assign rfl rfl) rfl fun _ F118 => ?_)))
         have F119 : Fr 48 [(2, .bool false)] _ := F118.cut rfl
         clear F116 F118
         refine s_end (x_normal (wp_ret (x_block_ret (x_then_ret (x_then_ret (x_block_ret (x_then_ret ?_)))))))
         refine x_done (v := .bool false) F119 (results_1 Try.results60 (.tmp (F119.ev 2 rfl))) ?_
         exact ⟨(by rw [(show false = (storeOk s) from by exact (storeOk_bad (k := k) (by omega) (nt (by assumption))).symm)]), (Mv.pick (S5.trans S116) [] rfl)⟩
       · skip
         refine wp_skip (x_block_normal (x_normal (wp_region_lit (l_op (f_mv F116 rfl rfl rfl rfl rfl fun _ F120 => ?_)))))
         refine l_op (f_val F120 rfl rfl (r_add (z := ((k + 1 : Nat) : Int)) rfl (F120.ev 8 rfl) rfl (by first | rfl | omega) ⟨by first | omega | (unfold i64ok at *; omega), by first | omega | (unfold i64ok at *; omega)⟩) rfl fun _ F121 => ?_)
         refine l_op (f_as F121 rfl rfl rfl rfl rfl fun _ F122 => ?_)
         have F123 : Fr 48 [(3, .int .i64 ((k + 1 : Nat) : Int)), (0, .slice s_a s_n s_c)] _ := F122.cut rfl
         clear F116 F120 F121 F122
         refine s_end ?_
         refine x_normal ⟨k + 1, by omega, F123.cut rfl, ((S5.trans S116).pick [] rfl), by omega, all_step hk_1 (nf (by assumption))⟩
   · skip
     refine wp_exit (x_then_exit (x_then_exit (x_block_here (x_normal (wp_seq (wp_region_lit (l_op (f_mv F10 rfl rfl rfl rfl rfl fun _ F124 => ?_))))))))
     refine l_op (f_val F124 rfl rfl (r_len Try.underlying74 rfl (F124.ev 45 rfl)) rfl fun _ F125 => ?_)
     refine l_op (f_val F125 rfl rfl (r_cmp (b := decide (s_n ≤ 900)) (.inr (.inr (.inr (.inl rfl)))) rfl (F125.ev 46 rfl) rfl (dec_of (by omega))) rfl fun _ F126 => ?_)
     refine l_op (f_as F126 rfl rfl rfl rfl rfl fun _ F127 => ?_)
     have F128 : Fr 48 [(2, .bool (decide (s_n ≤ 900)))] _ := F127.cut rfl
     clear F10 F124 F125 F126 F127
     refine s_end (x_normal (wp_ret ?_))
     refine x_done (v := .bool (decide (s_n ≤ 900))) F128 (results_1 Try.results60 (.tmp (F128.ev 2 rfl))) ?_
     exact ⟨(by rw [(show (decide (s_n ≤ 900)) = (storeOk s) from by rw [ln_s]; exact (storeOk_all (fun j hj => hk_1 j (by omega))).symm)]), (Mv.pick S5 [] rfl)⟩
theorem impl_StoreOk_c {w : World} {H : Nat → Prop} {s : List CellD} {s_a : Option Addr} {s_n s_c : Nat} (v_s : Rd 2 encC okC H w (.slice s_a s_n s_c) s) :
    Calls Try.prog 66 #[.slice s_a s_n s_c] w fun e w' => e = .returned (.bool (storeOk s)) ∧ Mv [] w [] w' := by
 have V_v_s : Rd 2 encC okC (V H w []) w (.slice s_a s_n s_c) s := Rd.start v_s (fun _ _ => fps_nil _)
 obtain ⟨ln_s, le_s, mx_s, ni_s⟩ := Rd.inv v_s
 refine calls_enter 42 Try.func66 rfl Try.ntmps66 (Nat.le_of_ble_eq_true rfl) (fun _ F0i => ?_)
 have F0 : Fr 42 [(0, .slice s_a s_n s_c)] _ := F0i
 clear F0i
 refine wp_seq (wp_region_lit (l_op (f_val F0 rfl rfl (r_assign rfl rfl) rfl fun _ F1 => ?_)))
 have F2 : Fr 42 [(2, .bool false), (0, .slice s_a s_n s_c)] _ := F1.cut rfl
 clear F0 F1
 refine s_end (x_normal (wp_seq (wp_seq (wp_region_lit (l_op (f_mv F2 rfl rfl rfl rfl rfl fun _ F3 => ?_))))))
 refine l_op (f_val F3 rfl rfl (r_len Try.underlying74 rfl (F3.ev 5 rfl)) rfl fun _ F4 => ?_)
 refine l_op (f_val F4 rfl rfl (r_move rfl rfl) rfl fun _ F5 => ?_)
 have F6 : Fr 42 [(7, .int .i64 0), (6, .int .i64 ((s_n : Nat) : Int)), (5, .slice s_a s_n s_c), (0, .slice s_a s_n s_c)] _ := F5.cut rfl
 clear F2 F3 F4 F5
 refine s_end (x_normal (wp_block ?_))
 refine x_loop (fun (k : Nat) aZ wZ => Fr 42 [(7, .int .i64 ((k : Nat) : Int)), (6, .int .i64 ((s_n : Nat) : Int)), (5, .slice s_a s_n s_c), (0, .slice s_a s_n s_c)] aZ ∧ Mv [] w [] wZ ∧ (k ≤ s_n) ∧ (∀ j, j < k → cellOk s j = true)) (fun (k : Nat) => s_n - k) (0) ?_ ?_
 · exact ⟨F6.cut rfl, (Mv.refl (At.nil w)), by omega, all_none⟩
 · rintro k a7 w7 ⟨F7, S7, hk_0, hk_1⟩
   refine wp_seq (wp_region_lit (l_op (f_val F7 rfl rfl (r_cmp (b := decide (k < s_n)) (.inr (.inr (.inl rfl))) rfl (F7.ev 7 rfl) (F7.ev 6 rfl) (dec_of (by omega))) rfl fun _ F8 => ?_)))
   have F9 : Fr 42 [(8, .bool (decide (k < s_n))), (7, .int .i64 ((k : Nat) : Int)), (6, .int .i64 ((s_n : Nat) : Int)), (5, .slice s_a s_n s_c), (0, .slice s_a s_n s_c)] _ := F8.cut rfl
   clear F7 F8
   refine s_end (x_normal (wp_seq (x_cond (p := k < s_n) (F9.ev 8 rfl) (fun h10 => ?_) (fun h10 => ?_))))
   · skip
     refine wp_skip (x_normal (wp_seq (wp_block (wp_seq (wp_region_lit (l_op (f_mv F9 rfl rfl rfl rfl rfl fun _ F11 => ?_)))))))
     obtain ⟨B12, O12, x1, ad12, hx1, okx1, ln12, cl12⟩ := Rd.at (Rd.mv (Nat.succ_pos _) V_v_s S7) k (by first | assumption | omega)
     clear ln12
     refine l_op (f_val F11 rfl rfl (r_indexAddr (i := k) ET_74 rfl ((F11.ev 5 rfl).trans (by rw [ad12])) (F11.ev 7 rfl) (by omega) (by first | assumption | omega)) rfl fun _ F13 => ?_)
     refine l_op (f_val (v := .agg #[.string x1.key, .string x1.val]) F13 rfl rfl (r_load (cs := [.string x1.key, .string x1.val]) TI_144 rfl (F13.ev 10 rfl) rfl (fun h => nomatch h) (elem_sub (f := 0) cl12 [.string x1.key, .string x1.val] rfl)) rfl fun _ F14 => ?_)
     refine l_op (f_alloc F14 S7.at' ZI_144 rfl rfl rfl rfl rfl fun b15 _ w15 F16 S15 => ?_)
     refine l_op (f_as F16 rfl rfl rfl rfl rfl fun _ F17 => ?_)
     refine l_op (s_store S15.at' 0 TI_144 rfl rfl rfl rfl rfl (F17.ev 4 rfl) (F17.ev 11 rfl) rfl rfl rfl rfl rfl fun w18 S18 => ?_)
     have F19 : Fr 42 [(3, .int .i64 ((k : Nat) : Int)), (4, .pointer (some ⟨b15, 0, none⟩)), (11, .agg #[.string x1.key, .string x1.val]), (7, .int .i64 ((k : Nat) : Int)), (6, .int .i64 ((s_n : Nat) : Int)), (5, .slice s_a s_n s_c), (0, .slice s_a s_n s_c)] _ := F17.cut rfl
     clear F9 F11 F13 F14 F16 F17
     have T20 : Mv _ _ [bx b15 [.string x1.key, .string x1.val] 144] _ := S18
     refine s_end (x_normal (wp_seq ?_))
     refine x_draw (fun aZ wZ => Fr 42 [(0, .slice s_a s_n s_c), (5, .slice s_a s_n s_c), (6, .int .i64 ((s_n : Nat) : Int)), (7, .int .i64 ((k : Nat) : Int)), (37, .bool (!cellOk s k))] aZ ∧ Mv [bx b15 [.string x1.key, .string x1.val] 144] w18 [bx b15 [.string x1.key, .string x1.val] 144] wZ) [bx b15 [.string x1.key, .string x1.val] 144] mixed T20.at' (listed := #[false, false, false, false, false, false, false, false, false, false, false, false, false, false, false, false, false, false, false, false, false, false, false, false, false, false]) rfl (fun w22 S22 => ?_) [0] rfl ?_
     · skip
       refine g_take F19 rfl (i := 0) (listed' := #[true, false, false, false, false, false, false, false, false, false, false, false, false, false, false, false, false, false, false, false, false, false, false, false, false, false]) rfl (by kernel_rfl) (by kernel_rfl) (by kernel_rfl) (fun _ _ _ h => h) (Sd.of (Mv.refl S22.at') [0] rfl) rfl rfl rfl rfl (fun _ hz => (r_field FI_144_0 rfl (F19.ev 4 rfl) rfl)) fun _ F23 => ?_
       refine g_take (v := .string x1.key) F23 rfl (i := 1) (listed' := #[true, true, false, false, false, false, false, false, false, false, false, false, false, false, false, false, false, false, false, false, false, false, false, false, false, false]) rfl (by kernel_rfl) (by kernel_rfl) (by kernel_rfl) (fun _ _ _ h => h) (Sd.of (Mv.refl S22.at') [0] rfl) rfl rfl rfl rfl (fun _ hz => (r_loadX (hz.bx 0 rfl) TI_9 rfl (F23.ev 12 rfl) rfl rfl (fun _ => rfl) rfl)) fun _ F24 => ?_
       refine d_one (i := 2) (listed' := #[true, true, true, false, false, false, false, false, false, false, false, false, false, false, false, false, false, false, false, false, false, false, false, false, false, false]) rfl (by kernel_rfl) rfl rfl ?_
       refine f_call F24 CF_124 rfl rfl rfl rfl (lc (F24.ev 13 rfl) rfl) (impl_KeyOk_c (H := fun _ => True) (key := x1.key) okx1.1) ?_
       rintro _ w25 ⟨rfl, m25⟩
       refine ⟨_, rfl, fun _ F26 => ?_⟩
       have S25 := At.frame0 S22.at' m25
       clear m25
       refine ⟨Sd.of S25 [0] rfl, ?_⟩
       refine g_take F26 rfl (i := 3) (listed' := #[true, true, true, true, false, false, false, false, false, false, false, false, false, false, false, false, false, false, false, false, false, false, false, false, false, false]) rfl (by kernel_rfl) (by kernel_rfl) (by kernel_rfl) (fun _ _ _ h => h) (Sd.of S25 [0] rfl) rfl rfl rfl rfl (fun _ hz => (r_not rfl (F26.ev 14 rfl))) fun _ F27 => ?_
       refine g_take F27 rfl (i := 4) (listed' := #[true, true, true, true, true, false, false, false, false, false, false, false, false, false, false, false, false, false, false, false, false, false, false, false, false, false]) rfl (by kernel_rfl) (by kernel_rfl) (by kernel_rfl) (fun _ _ _ h => h) (Sd.of S25 [0] rfl) rfl rfl rfl rfl (fun _ hz => (r_move rfl (F27.ev 15 rfl))) fun _ F28 => ?_
       rcases Bool.eq_false_or_eq_true (!(keyOk x1.key)) with h29 | h29
       · rw [h29] at F28
         refine g_skip F28 rfl (i := 5) (listed' := #[true, true, true, true, true, true, false, false, false, false, false, false, false, false, false, false, false, false, false, false, false, false, false, false, false, false]) rfl (by kernel_rfl) (by kernel_rfl) (by kernel_rfl) (fun _ _ _ h => h) (Sd.of S25 [0] rfl) rfl (wanted_g F28 rfl rfl rfl rfl) rfl rfl fun _ F30 => ?_
         refine g_skip F30 rfl (i := 6) (listed' := #[true, true, true, true, true, true, true, false, false, false, false, false, false, false, false, false, false, false, false, false, false, false, false, false, false, false]) rfl (by kernel_rfl) (by kernel_rfl) (by kernel_rfl) (fun _ _ _ h => h) (Sd.of S25 [0] rfl) rfl (wanted_g F30 rfl rfl rfl rfl) rfl rfl fun _ F31 => ?_
         refine g_skip F31 rfl (i := 7) (listed' := #[true, true, true, true, true, true, true, true, false, false, false, false, false, false, false, false, false, false, false, false, false, false, false, false, false, false]) rfl (by kernel_rfl) (by kernel_rfl) (by kernel_rfl) (fun _ _ _ h => h) (Sd.of S25 [0] rfl) rfl (wanted_g F31 rfl rfl rfl rfl) rfl rfl fun _ F32 => ?_
         refine g_skip F32 rfl (i := 8) (listed' := #[true, true, true, true, true, true, true, true, true, false, false, false, false, false, false, false, false, false, false, false, false, false, false, false, false, false]) rfl (by kernel_rfl) (by kernel_rfl) (by kernel_rfl) (fun _ _ _ h => h) (Sd.of S25 [0] rfl) rfl (wanted_g F32 rfl rfl rfl rfl) rfl rfl fun _ F33 => ?_
         refine g_skip F33 rfl (i := 9) (listed' := #[true, true, true, true, true, true, true, true, true, true, false, false, false, false, false, false, false, false, false, false, false, false, false, false, false, false]) rfl (by kernel_rfl) (by kernel_rfl) (by kernel_rfl) (fun _ _ _ h => h) (Sd.of S25 [0] rfl) rfl (wanted_g F33 rfl rfl rfl rfl) rfl rfl fun _ F34 => ?_
         refine g_take F34 rfl (i := 10) (listed' := #[true, true, true, true, true, true, true, true, true, true, true, false, false, false, false, false, false, false, false, false, false, false, false, false, false, false]) rfl (by kernel_rfl) (by kernel_rfl) (by kernel_rfl) (fun _ _ _ h => h) (Sd.of S25 [0] rfl) rfl rfl rfl rfl (fun _ hz => (r_pick (b := true) rfl (F34.ev 16 rfl) rfl)) fun _ F35 => ?_
         refine g_take F35 rfl (i := 11) (listed' := #[true, true, true, true, true, true, true, true, true, true, true, true, false, false, false, false, false, false, false, false, false, false, false, false, false, false]) rfl (by kernel_rfl) (by kernel_rfl) (by kernel_rfl) (fun _ _ _ h => h) (Sd.of S25 [0] rfl) rfl rfl rfl rfl (fun _ hz => (r_move rfl (F35.ev 22 rfl))) fun _ F36 => ?_
         refine g_skip F36 rfl (i := 12) (listed' := #[true, true, true, true, true, true, true, true, true, true, true, true, true, false, false, false, false, false, false, false, false, false, false, false, false, false]) rfl (by kernel_rfl) (by kernel_rfl) (by kernel_rfl) (fun _ _ _ h => h) (Sd.of S25 [0] rfl) rfl (wanted_g F36 rfl rfl rfl rfl) rfl rfl fun _ F37 => ?_
         refine g_skip F37 rfl (i := 13) (listed' := #[true, true, true, true, true, true, true, true, true, true, true, true, true, true, false, false, false, false, false, false, false, false, false, false, false, false]) rfl (by kernel_rfl) (by kernel_rfl) (by kernel_rfl) (fun _ _ _ h => h) (Sd.of S25 [0] rfl) rfl (wanted_g F37 rfl rfl rfl rfl) rfl rfl fun _ F38 => ?_
         refine g_skip F38 rfl (i := 14) (listed' := #[true, true, true, true, true, true, true, true, true, true, true, true, true, true, true, false, false, false, false, false, false, false, false, false, false, false]) rfl (by kernel_rfl) (by kernel_rfl) (by kernel_rfl) (fun _ _ _ h => h) (Sd.of S25 [0] rfl) rfl (wanted_g F38 rfl rfl rfl rfl) rfl rfl fun _ F39 => ?_
         refine g_skip F39 rfl (i := 15) (listed' := #[true, true, true, true, true, true, true, true, true, true, true, true, true, true, true, true, false, false, false, false, false, false, false, false, false, false]) rfl (by kernel_rfl) (by kernel_rfl) (by kernel_rfl) (fun _ _ _ h => h) (Sd.of S25 [0] rfl) rfl (wanted_u F39 rfl rfl rfl) rfl rfl fun _ F40 => ?_
         refine g_skip F40 rfl (i := 16) (listed' := #[true, true, true, true, true, true, true, true, true, true, true, true, true, true, true, true, true, false, false, false, false, false, false, false, false, false]) rfl (by kernel_rfl) (by kernel_rfl) (by kernel_rfl) (fun _ _ _ h => h) (Sd.of S25 [0] rfl) rfl (wanted_u F40 rfl rfl rfl) rfl rfl fun _ F41 => ?_
         refine g_skip F41 rfl (i := 17) (listed' := #[true, true, true, true, true, true, true, true, true, true, true, true, true, true, true, true, true, true, false, false, false, false, false, false, false, false]) rfl (by kernel_rfl) (by kernel_rfl) (by kernel_rfl) (fun _ _ _ h => h) (Sd.of S25 [0] rfl) rfl (wanted_u F41 rfl rfl rfl) rfl rfl fun _ F42 => ?_
         refine g_skip F42 rfl (i := 18) (listed' := #[true, true, true, true, true, true, true, true, true, true, true, true, true, true, true, true, true, true, true, false, false, false, false, false, false, false]) rfl (by kernel_rfl) (by kernel_rfl) (by kernel_rfl) (fun _ _ _ h => h) (Sd.of S25 [0] rfl) rfl (wanted_u F42 rfl rfl rfl) rfl rfl fun _ F43 => ?_
         refine g_skip F43 rfl (i := 19) (listed' := #[true, true, true, true, true, true, true, true, true, true, true, true, true, true, true, true, true, true, true, true, false, false, false, false, false, false]) rfl (by kernel_rfl) (by kernel_rfl) (by kernel_rfl) (fun _ _ _ h => h) (Sd.of S25 [0] rfl) rfl (wanted_u F43 rfl rfl rfl) rfl rfl fun _ F44 => ?_
         refine g_skip F44 rfl (i := 20) (listed' := #[true, true, true, true, true, true, true, true, true, true, true, true, true, true, true, true, true, true, true, true, true, false, false, false, false, false]) rfl (by kernel_rfl) (by kernel_rfl) (by kernel_rfl) (fun _ _ _ h => h) (Sd.of S25 [0] rfl) rfl (wanted_u F44 rfl rfl rfl) rfl rfl fun _ F45 => ?_
         refine g_skip F45 rfl (i := 21) (listed' := #[true, true, true, true, true, true, true, true, true, true, true, true, true, true, true, true, true, true, true, true, true, true, false, false, false, false]) rfl (by kernel_rfl) (by kernel_rfl) (by kernel_rfl) (fun _ _ _ h => h) (Sd.of S25 [0] rfl) rfl (wanted_u F45 rfl rfl rfl) rfl rfl fun _ F46 => ?_
         refine g_skip F46 rfl (i := 22) (listed' := #[true, true, true, true, true, true, true, true, true, true, true, true, true, true, true, true, true, true, true, true, true, true, true, false, false, false]) rfl (by kernel_rfl) (by kernel_rfl) (by kernel_rfl) (fun _ _ _ h => h) (Sd.of S25 [0] rfl) rfl (wanted_u F46 rfl rfl rfl) rfl rfl fun _ F47 => ?_
         refine g_skip F47 rfl (i := 23) (listed' := #[true, true, true, true, true, true, true, true, true, true, true, true, true, true, true, true, true, true, true, true, true, true, true, true, false, false]) rfl (by kernel_rfl) (by kernel_rfl) (by kernel_rfl) (fun _ _ _ h => h) (Sd.of S25 [0] rfl) rfl (wanted_u F47 rfl rfl rfl) rfl rfl fun _ F48 => ?_
         refine g_skip F48 rfl (i := 24) (listed' := #[true, true, true, true, true, true, true, true, true, true, true, true, true, true, true, true, true, true, true, true, true, true, true, true, true, false]) rfl (by kernel_rfl) (by kernel_rfl) (by kernel_rfl) (fun _ _ _ h => h) (Sd.of S25 [0] rfl) rfl (wanted_g F48 rfl rfl rfl rfl) rfl rfl fun _ F49 => ?_
         refine g_take F49 rfl (i := 25) (listed' := #[true, true, true, true, true, true, true, true, true, true, true, true, true, true, true, true, true, true, true, true, true, true, true, true, true, true]) rfl (by kernel_rfl) (by kernel_rfl) (by kernel_rfl) (fun _ _ _ h => h) (Sd.of S25 [0] rfl) rfl rfl rfl rfl (fun _ hz => (r_pick (b := true) rfl (F49.ev 23 rfl) rfl)) fun _ F50 => ?_
         refine wpAnyH_done (by kernel_rfl) (x_normal ?_) _
         exact ⟨Fr.cast (F50.cut rfl) (congrArg (fun zZ => ([(0, .slice s_a s_n s_c), (5, .slice s_a s_n s_c), (6, .int .i64 ((s_n : Nat) : Int)), (7, .int .i64 ((k : Nat) : Int)), (37, .bool zZ)] : List (Nat × Value))) (show true = (!cellOk s k) from by first | exact ck_1 hx1 (by assumption) | exact ck_2 hx1 (by assumption) (by assumption) | exact ck_3 hx1 (by assumption) (by assumption) (by assumption) | exact ck_5 hx1 (by assumption) (by assumption) (by assumption) hx2)), ((S22.trans S25).pick [0] rfl)⟩
       · rw [h29] at F28
         refine g_take F28 rfl (i := 5) (listed' := #[true, true, true, true, true, true, false, false, false, false, false, false, false, false, false, false, false, false, false, false, false, false, false, false, false, false]) rfl (by kernel_rfl) (by kernel_rfl) (by kernel_rfl) (fun _ _ _ h => h) (Sd.of S25 [0] rfl) rfl (wanted_g F28 rfl rfl rfl rfl) rfl rfl (fun _ hz => (r_field FI_144_1 rfl (F28.ev 4 rfl) rfl)) fun _ F51 => ?_
         refine g_take (v := .string x1.val) F51 rfl (i := 6) (listed' := #[true, true, true, true, true, true, true, false, false, false, false, false, false, false, false, false, false, false, false, false, false, false, false, false, false, false]) rfl (by kernel_rfl) (by kernel_rfl) (by kernel_rfl) (fun _ _ _ h => h) (Sd.of S25 [0] rfl) rfl (wanted_g F51 rfl rfl rfl rfl) rfl rfl (fun _ hz => (r_loadX (hz.bx 0 rfl) TI_9 rfl (F51.ev 17 rfl) rfl rfl (fun _ => rfl) rfl)) fun _ F52 => ?_
         refine g_take F52 rfl (i := 7) (listed' := #[true, true, true, true, true, true, true, true, false, false, false, false, false, false, false, false, false, false, false, false, false, false, false, false, false, false]) rfl (by kernel_rfl) (by kernel_rfl) (by kernel_rfl) (fun _ _ _ h => h) (Sd.of S25 [0] rfl) rfl (wanted_g F52 rfl rfl rfl rfl) rfl rfl (fun _ hz => (r_lenS (fun t ht => by cases ht; exact Try.underlying9) rfl rfl (F52.ev 18 rfl))) fun _ F53 => ?_
         refine d_one (i := 8) (listed' := #[true, true, true, true, true, true, true, true, true, false, false, false, false, false, false, false, false, false, false, false, false, false, false, false, false, false]) rfl (by kernel_rfl) rfl rfl ?_
         refine f_call F53 CF_65 (wanted_g F53 rfl rfl rfl rfl) rfl rfl rfl (lc (F53.ev 19 rfl) (lc rfl (lc rfl rfl))) (impl_within_c (H := fun _ => True) (n := ((x1.val.size : Nat) : Int)) (low := 1) (high := 60) (by first | exact ⟨by omega, by omega⟩ | (have hz := okx1.2; unfold okS at hz; exact ⟨by omega, by omega⟩)) (by first | exact ⟨by omega, by omega⟩ | (have hz := okx1.2; unfold okS at hz; exact ⟨by omega, by omega⟩)) (by first | exact ⟨by omega, by omega⟩ | (have hz := okx1.2; unfold okS at hz; exact ⟨by omega, by omega⟩))) ?_
         rintro _ w54 ⟨rfl, m54⟩
         refine ⟨_, rfl, fun _ F55 => ?_⟩
         have S54 := At.frame0 S25.at' m54
         clear m54
         refine ⟨Sd.of (S25.trans S54) [0] rfl, ?_⟩
         refine g_take F55 rfl (i := 9) (listed' := #[true, true, true, true, true, true, true, true, true, true, false, false, false, false, false, false, false, false, false, false, false, false, false, false, false, false]) rfl (by kernel_rfl) (by kernel_rfl) (by kernel_rfl) (fun _ _ _ h => h) (Sd.of (S25.trans S54) [0] rfl) rfl (wanted_g F55 rfl rfl rfl rfl) rfl rfl (fun _ hz => (r_not rfl (F55.ev 20 rfl))) fun _ F56 => ?_
         refine g_take F56 rfl (i := 10) (listed' := #[true, true, true, true, true, true, true, true, true, true, true, false, false, false, false, false, false, false, false, false, false, false, false, false, false, false]) rfl (by kernel_rfl) (by kernel_rfl) (by kernel_rfl) (fun _ _ _ h => h) (Sd.of (S25.trans S54) [0] rfl) rfl rfl rfl rfl (fun _ hz => (r_pick (b := false) rfl (F56.ev 16 rfl) (F56.ev 21 rfl))) fun _ F57 => ?_
         refine g_take F57 rfl (i := 11) (listed' := #[true, true, true, true, true, true, true, true, true, true, true, true, false, false, false, false, false, false, false, false, false, false, false, false, false, false]) rfl (by kernel_rfl) (by kernel_rfl) (by kernel_rfl) (fun _ _ _ h => h) (Sd.of (S25.trans S54) [0] rfl) rfl rfl rfl rfl (fun _ hz => (r_move rfl (F57.ev 22 rfl))) fun _ F58 => ?_
         rcases Bool.eq_false_or_eq_true (!(inB ((x1.val.size : Nat) : Int) 1 60)) with h59 | h59
         · rw [h59] at F58
           refine g_skip F58 rfl (i := 12) (listed' := #[true, true, true, true, true, true, true, true, true, true, true, true, true, false, false, false, false, false, false, false, false, false, false, false, false, false]) rfl (by kernel_rfl) (by kernel_rfl) (by kernel_rfl) (fun _ _ _ h => h) (Sd.of (S25.trans S54) [0] rfl) rfl (wanted_g F58 rfl rfl rfl rfl) rfl rfl fun _ F60 => ?_
           refine g_skip F60 rfl (i := 13) (listed' := #[true, true, true, true, true, true, true, true, true, true, true, true, true, true, false, false, false, false, false, false, false, false, false, false, false, false]) rfl (by kernel_rfl) (by kernel_rfl) (by kernel_rfl) (fun _ _ _ h => h) (Sd.of (S25.trans S54) [0] rfl) rfl (wanted_g F60 rfl rfl rfl rfl) rfl rfl fun _ F61 => ?_
           refine g_skip F61 rfl (i := 14) (listed' := #[true, true, true, true, true, true, true, true, true, true, true, true, true, true, true, false, false, false, false, false, false, false, false, false, false, false]) rfl (by kernel_rfl) (by kernel_rfl) (by kernel_rfl) (fun _ _ _ h => h) (Sd.of (S25.trans S54) [0] rfl) rfl (wanted_g F61 rfl rfl rfl rfl) rfl rfl fun _ F62 => ?_
           refine g_skip F62 rfl (i := 15) (listed' := #[true, true, true, true, true, true, true, true, true, true, true, true, true, true, true, true, false, false, false, false, false, false, false, false, false, false]) rfl (by kernel_rfl) (by kernel_rfl) (by kernel_rfl) (fun _ _ _ h => h) (Sd.of (S25.trans S54) [0] rfl) rfl (wanted_u F62 rfl rfl rfl) rfl rfl fun _ F63 => ?_
           refine g_skip F63 rfl (i := 16) (listed' := #[true, true, true, true, true, true, true, true, true, true, true, true, true, true, true, true, true, false, false, false, false, false, false, false, false, false]) rfl (by kernel_rfl) (by kernel_rfl) (by kernel_rfl) (fun _ _ _ h => h) (Sd.of (S25.trans S54) [0] rfl) rfl (wanted_u F63 rfl rfl rfl) rfl rfl fun _ F64 => ?_
           refine g_skip F64 rfl (i := 17) (listed' := #[true, true, true, true, true, true, true, true, true, true, true, true, true, true, true, true, true, true, false, false, false, false, false, false, false, false]) rfl (by kernel_rfl) (by kernel_rfl) (by kernel_rfl) (fun _ _ _ h => h) (Sd.of (S25.trans S54) [0] rfl) rfl (wanted_u F64 rfl rfl rfl) rfl rfl fun _ F65 => ?_
           refine g_skip F65 rfl (i := 18) (listed' := #[true, true, true, true, true, true, true, true, true, true, true, true, true, true, true, true, true, true, true, false, false, false, false, false, false, false]) rfl (by kernel_rfl) (by kernel_rfl) (by kernel_rfl) (fun _ _ _ h => h) (Sd.of (S25.trans S54) [0] rfl) rfl (wanted_u F65 rfl rfl rfl) rfl rfl fun _ F66 => ?_
           refine g_skip F66 rfl (i := 19) (listed' := #[true, true, true, true, true, true, true, true, true, true, true, true, true, true, true, true, true, true, true, true, false, false, false, false, false, false]) rfl (by kernel_rfl) (by kernel_rfl) (by kernel_rfl) (fun _ _ _ h => h) (Sd.of (S25.trans S54) [0] rfl) rfl (wanted_u F66 rfl rfl rfl) rfl rfl fun _ F67 => ?_
           refine g_skip F67 rfl (i := 20) (listed' := #[true, true, true, true, true, true, true, true, true, true, true, true, true, true, true, true, true, true, true, true, true, false, false, false, false, false]) rfl (by kernel_rfl) (by kernel_rfl) (by kernel_rfl) (fun _ _ _ h => h) (Sd.of (S25.trans S54) [0] rfl) rfl (wanted_u F67 rfl rfl rfl) rfl rfl fun _ F68 => ?_
           refine g_skip F68 rfl (i := 21) (listed' := #[true, true, true, true, true, true, true, true, true, true, true, true, true, true, true, true, true, true, true, true, true, true, false, false, false, false]) rfl (by kernel_rfl) (by kernel_rfl) (by kernel_rfl) (fun _ _ _ h => h) (Sd.of (S25.trans S54) [0] rfl) rfl (wanted_u F68 rfl rfl rfl) rfl rfl fun _ F69 => ?_
           refine g_skip F69 rfl (i := 22) (listed' := #[true, true, true, true, true, true, true, true, true, true, true, true, true, true, true, true, true, true, true, true, true, true, true, false, false, false]) rfl (by kernel_rfl) (by kernel_rfl) (by kernel_rfl) (fun _ _ _ h => h) (Sd.of (S25.trans S54) [0] rfl) rfl (wanted_u F69 rfl rfl rfl) rfl rfl fun _ F70 => ?_
           refine g_skip F70 rfl (i := 23) (listed' := #[true, true, true, true, true, true, true, true, true, true, true, true, true, true, true, true, true, true, true, true, true, true, true, true, false, false]) rfl (by kernel_rfl) (by kernel_rfl) (by kernel_rfl) (fun _ _ _ h => h) (Sd.of (S25.trans S54) [0] rfl) rfl (wanted_u F70 rfl rfl rfl) rfl rfl fun _ F71 => ?_
           refine g_skip F71 rfl (i := 24) (listed' := #[true, true, true, true, true, true, true, true, true, true, true, true, true, true, true, true, true, true, true, true, true, true, true, true, true, false]) rfl (by kernel_rfl) (by kernel_rfl) (by kernel_rfl) (fun _ _ _ h => h) (Sd.of (S25.trans S54) [0] rfl) rfl (wanted_g F71 rfl rfl rfl rfl) rfl rfl fun _ F72 => ?_
           refine g_take F72 rfl (i := 25) (listed' := #[true, true, true, true, true, true, true, true, true, true, true, true, true, true, true, true, true, true, true, true, true, true, true, true, true, true]) rfl (by kernel_rfl) (by kernel_rfl) (by kernel_rfl) (fun _ _ _ h => h) (Sd.of (S25.trans S54) [0] rfl) rfl rfl rfl rfl (fun _ hz => (r_pick (b := true) rfl (F72.ev 23 rfl) rfl)) fun _ F73 => ?_
           refine wpAnyH_done (by kernel_rfl) (x_normal ?_) _
           exact ⟨Fr.cast (F73.cut rfl) (congrArg (fun zZ => ([(0, .slice s_a s_n s_c), (5, .slice s_a s_n s_c), (6, .int .i64 ((s_n : Nat) : Int)), (7, .int .i64 ((k : Nat) : Int)), (37, .bool zZ)] : List (Nat × Value))) (show true = (!cellOk s k) from by first | exact ck_1 hx1 (by assumption) | exact ck_2 hx1 (by assumption) (by assumption) | exact ck_3 hx1 (by assumption) (by assumption) (by assumption) | exact ck_5 hx1 (by assumption) (by assumption) (by assumption) hx2)), ((S22.trans (S25.trans S54)).pick [0] rfl)⟩
         · rw [h59] at F58
           refine g_take F58 rfl (i := 12) (listed' := #[true, true, true, true, true, true, true, true, true, true, true, true, true, false, false, false, false, false, false, false, false, false, false, false, false, false]) rfl (by kernel_rfl) (by kernel_rfl) (by kernel_rfl) (fun _ _ _ h => h) (Sd.of (S25.trans S54) [0] rfl) rfl (wanted_g F58 rfl rfl rfl rfl) rfl rfl (fun _ hz => (r_move rfl (F58.ev 3 rfl))) fun _ F74 => ?_
           refine g_take F74 rfl (i := 13) (listed' := #[true, true, true, true, true, true, true, true, true, true, true, true, true, true, false, false, false, false, false, false, false, false, false, false, false, false]) rfl (by kernel_rfl) (by kernel_rfl) (by kernel_rfl) (fun _ _ _ h => h) (Sd.of (S25.trans S54) [0] rfl) rfl (wanted_g F74 rfl rfl rfl rfl) rfl rfl (fun _ hz => (r_cmp (b := decide (k > 0)) (.inr (.inr (.inr (.inr (.inl rfl))))) rfl (F74.ev 24 rfl) rfl (dec_of (by omega)))) fun _ F75 => ?_
           refine g_take F75 rfl (i := 14) (listed' := #[true, true, true, true, true, true, true, true, true, true, true, true, true, true, true, false, false, false, false, false, false, false, false, false, false, false]) rfl (by kernel_rfl) (by kernel_rfl) (by kernel_rfl) (fun _ _ _ h => h) (Sd.of (S25.trans S54) [0] rfl) rfl (wanted_g F75 rfl rfl rfl rfl) rfl rfl (fun _ hz => (r_move rfl (F75.ev 25 rfl))) fun _ F76 => ?_
           rcases Decidable.em (k > 0) with h77 | h77
           · rw [decide_eq_true h77] at F76
             refine g_take F76 rfl (i := 15) (listed' := #[true, true, true, true, true, true, true, true, true, true, true, true, true, true, true, true, false, false, false, false, false, false, false, false, false, false]) rfl (by kernel_rfl) (by kernel_rfl) (by kernel_rfl) (fun _ _ _ h => h) (Sd.of (S25.trans S54) [0] rfl) rfl (wanted_g F76 rfl rfl rfl rfl) rfl rfl (fun _ hz => (r_field FI_144_0 rfl (F76.ev 4 rfl) rfl)) fun _ F78 => ?_
             refine g_take (v := .string x1.key) F78 rfl (i := 16) (listed' := #[true, true, true, true, true, true, true, true, true, true, true, true, true, true, true, true, true, false, false, false, false, false, false, false, false, false]) rfl (by kernel_rfl) (by kernel_rfl) (by kernel_rfl) (fun _ _ _ h => h) (Sd.of (S25.trans S54) [0] rfl) rfl (wanted_g F78 rfl rfl rfl rfl) rfl rfl (fun _ hz => (r_loadX (hz.bx 0 rfl) TI_9 rfl (F78.ev 27 rfl) rfl rfl (fun _ => rfl) rfl)) fun _ F79 => ?_
             refine g_take F79 rfl (i := 17) (listed' := #[true, true, true, true, true, true, true, true, true, true, true, true, true, true, true, true, true, true, false, false, false, false, false, false, false, false]) rfl (by kernel_rfl) (by kernel_rfl) (by kernel_rfl) (fun _ _ _ h => h) (Sd.of (S25.trans S54) [0] rfl) rfl (wanted_g F79 rfl rfl rfl rfl) rfl rfl (fun _ hz => (r_move rfl (F79.ev 0 rfl))) fun _ F80 => ?_
             refine g_take F80 rfl (i := 18) (listed' := #[true, true, true, true, true, true, true, true, true, true, true, true, true, true, true, true, true, true, true, false, false, false, false, false, false, false]) rfl (by kernel_rfl) (by kernel_rfl) (by kernel_rfl) (fun _ _ _ h => h) (Sd.of (S25.trans S54) [0] rfl) rfl (wanted_g F80 rfl rfl rfl rfl) rfl rfl (fun _ hz => (r_move rfl (F80.ev 3 rfl))) fun _ F81 => ?_
             refine g_take F81 rfl (i := 19) (listed' := #[true, true, true, true, true, true, true, true, true, true, true, true, true, true, true, true, true, true, true, true, false, false, false, false, false, false]) rfl (by kernel_rfl) (by kernel_rfl) (by kernel_rfl) (fun _ _ _ h => h) (Sd.of (S25.trans S54) [0] rfl) rfl (wanted_g F81 rfl rfl rfl rfl) rfl rfl (fun _ hz => (r_sub (z := ((k - 1 : Nat) : Int)) rfl (F81.ev 30 rfl) rfl (by first | rfl | omega) ⟨by first | omega | (unfold i64ok at *; omega), by first | omega | (unfold i64ok at *; omega)⟩)) fun _ F82 => ?_
             obtain ⟨B83, O83, x2, ad83, hx2, okx2, ln83, cl83⟩ := Rd.atK (Nat.succ_pos _) (Rd.mv (Nat.succ_pos _) V_v_s (S7.trans (S15.trans (T20.trans S22)))) (k - 1) (by first | assumption | omega)
             clear ln83
             refine g_take F82 rfl (i := 20) (listed' := #[true, true, true, true, true, true, true, true, true, true, true, true, true, true, true, true, true, true, true, true, true, false, false, false, false, false]) rfl (by kernel_rfl) (by kernel_rfl) (by kernel_rfl) (fun _ _ _ h => h) (Sd.of (S25.trans S54) [0] rfl) rfl (wanted_g F82 rfl rfl rfl rfl) rfl rfl (fun _ hz => (r_indexAddr (i := k - 1) ET_74 rfl ((F82.ev 29 rfl).trans (by rw [ad83])) (F82.ev 31 rfl) (by omega) (by first | assumption | omega))) fun _ F84 => ?_
             refine g_take F84 rfl (i := 21) (listed' := #[true, true, true, true, true, true, true, true, true, true, true, true, true, true, true, true, true, true, true, true, true, true, false, false, false, false]) rfl (by kernel_rfl) (by kernel_rfl) (by kernel_rfl) (fun _ _ _ h => h) (Sd.of (S25.trans S54) [0] rfl) rfl (wanted_g F84 rfl rfl rfl rfl) rfl rfl (fun _ hz => (r_field FI_144_0 rfl (F84.ev 32 rfl) rfl)) fun _ F85 => ?_
             refine g_take (v := .string x2.key) F85 rfl (i := 22) (listed' := #[true, true, true, true, true, true, true, true, true, true, true, true, true, true, true, true, true, true, true, true, true, true, true, false, false, false]) rfl (by kernel_rfl) (by kernel_rfl) (by kernel_rfl) (fun _ _ _ h => h) (Sd.of (S25.trans S54) [0] rfl) rfl (wanted_g F85 rfl rfl rfl rfl) rfl rfl (fun _ hz => (r_load (cs := [.string x2.key]) TI_9 rfl (F85.ev 33 rfl) rfl (fun _ => rfl) (elem_sub (f := 0) (cl83 _ hz.kp) [.string x2.key] rfl))) fun _ F86 => ?_
             refine g_take F86 rfl (i := 23) (listed' := #[true, true, true, true, true, true, true, true, true, true, true, true, true, true, true, true, true, true, true, true, true, true, true, true, false, false]) rfl (by kernel_rfl) (by kernel_rfl) (by kernel_rfl) (fun _ _ _ h => h) (Sd.of (S25.trans S54) [0] rfl) rfl (wanted_g F86 rfl rfl rfl rfl) rfl rfl (fun _ hz => (r_cmps (b := (leS x1.key x2.key)) (.inr (.inr (.inr (.inl rfl)))) rfl (F86.ev 28 rfl) (F86.ev 34 rfl) rfl)) fun _ F87 => ?_
             refine g_take F87 rfl (i := 24) (listed' := #[true, true, true, true, true, true, true, true, true, true, true, true, true, true, true, true, true, true, true, true, true, true, true, true, true, false]) rfl (by kernel_rfl) (by kernel_rfl) (by kernel_rfl) (fun _ _ _ h => h) (Sd.of (S25.trans S54) [0] rfl) rfl (wanted_g F87 rfl rfl rfl rfl) rfl rfl (fun _ hz => (r_pick (b := true) rfl (F87.ev 26 rfl) (F87.ev 35 rfl))) fun _ F88 => ?_
             refine g_take F88 rfl (i := 25) (listed' := #[true, true, true, true, true, true, true, true, true, true, true, true, true, true, true, true, true, true, true, true, true, true, true, true, true, true]) rfl (by kernel_rfl) (by kernel_rfl) (by kernel_rfl) (fun _ _ _ h => h) (Sd.of (S25.trans S54) [0] rfl) rfl rfl rfl rfl (fun _ hz => (r_pick (b := false) rfl (F88.ev 23 rfl) (F88.ev 36 rfl))) fun _ F89 => ?_
             refine wpAnyH_done (by kernel_rfl) (x_normal ?_) _
             exact ⟨Fr.cast (F89.cut rfl) (congrArg (fun zZ => ([(0, .slice s_a s_n s_c), (5, .slice s_a s_n s_c), (6, .int .i64 ((s_n : Nat) : Int)), (7, .int .i64 ((k : Nat) : Int)), (37, .bool zZ)] : List (Nat × Value))) (show (leS x1.key x2.key) = (!cellOk s k) from by first | exact ck_1 hx1 (by assumption) | exact ck_2 hx1 (by assumption) (by assumption) | exact ck_3 hx1 (by assumption) (by assumption) (by assumption) | exact ck_5 hx1 (by assumption) (by assumption) (by assumption) hx2)), ((S22.trans (S25.trans S54)).pick [0] rfl)⟩
           · rw [decide_eq_false h77] at F76
             refine g_skip F76 rfl (i := 15) (listed' := #[true, true, true, true, true, true, true, true, true, true, true, true, true, true, true, true, false, false, false, false, false, false, false, false, false, false]) rfl (by kernel_rfl) (by kernel_rfl) (by kernel_rfl) (fun _ _ _ h => h) (Sd.of (S25.trans S54) [0] rfl) rfl (wanted_g F76 rfl rfl rfl rfl) rfl rfl fun _ F90 => ?_
             refine g_skip F90 rfl (i := 16) (listed' := #[true, true, true, true, true, true, true, true, true, true, true, true, true, true, true, true, true, false, false, false, false, false, false, false, false, false]) rfl (by kernel_rfl) (by kernel_rfl) (by kernel_rfl) (fun _ _ _ h => h) (Sd.of (S25.trans S54) [0] rfl) rfl (wanted_g F90 rfl rfl rfl rfl) rfl rfl fun _ F91 => ?_
             refine g_skip F91 rfl (i := 17) (listed' := #[true, true, true, true, true, true, true, true, true, true, true, true, true, true, true, true, true, true, false, false, false, false, false, false, false, false]) rfl (by kernel_rfl) (by kernel_rfl) (by kernel_rfl) (fun _ _ _ h => h) (Sd.of (S25.trans S54) [0] rfl) rfl (wanted_g F91 rfl rfl rfl rfl) rfl rfl fun _ F92 => ?_
             refine g_skip F92 rfl (i := 18) (listed' := #[true, true, true, true, true, true, true, true, true, true, true, true, true, true, true, true, true, true, true, false, false, false, false, false, false, false]) rfl (by kernel_rfl) (by kernel_rfl) (by kernel_rfl) (fun _ _ _ h => h) (Sd.of (S25.trans S54) [0] rfl) rfl (wanted_g F92 rfl rfl rfl rfl) rfl rfl fun _ F93 => ?_
             refine g_skip F93 rfl (i := 19) (listed' := #[true, true, true, true, true, true, true, true, true, true, true, true, true, true, true, true, true, true, true, true, false, false, false, false, false, false]) rfl (by kernel_rfl) (by kernel_rfl) (by kernel_rfl) (fun _ _ _ h => h) (Sd.of (S25.trans S54) [0] rfl) rfl (wanted_g F93 rfl rfl rfl rfl) rfl rfl fun _ F94 => ?_
             refine g_skip F94 rfl (i := 20) (listed' := #[true, true, true, true, true, true, true, true, true, true, true, true, true, true, true, true, true, true, true, true, true, false, false, false, false, false]) rfl (by kernel_rfl) (by kernel_rfl) (by kernel_rfl) (fun _ _ _ h => h) (Sd.of (S25.trans S54) [0] rfl) rfl (wanted_g F94 rfl rfl rfl rfl) rfl rfl fun _ F95 => ?_
             refine g_skip F95 rfl (i := 21) (listed' := #[true, true, true, true, true, true, true, true, true, true, true, true, true, true, true, true, true, true, true, true, true, true, false, false, false, false]) rfl (by kernel_rfl) (by kernel_rfl) (by kernel_rfl) (fun _ _ _ h => h) (Sd.of (S25.trans S54) [0] rfl) rfl (wanted_g F95 rfl rfl rfl rfl) rfl rfl fun _ F96 => ?_
             refine g_skip F96 rfl (i := 22) (listed' := #[true, true, true, true, true, true, true, true, true, true, true, true, true, true, true, true, true, true, true, true, true, true, true, false, false, false]) rfl (by kernel_rfl) (by kernel_rfl) (by kernel_rfl) (fun _ _ _ h => h) (Sd.of (S25.trans S54) [0] rfl) rfl (wanted_g F96 rfl rfl rfl rfl) rfl rfl fun _ F97 => ?_
             refine g_skip F97 rfl (i := 23) (listed' := #[true, true, true, true, true, true, true, true, true, true, true, true, true, true, true, true, true, true, true, true, true, true, true, true, false, false]) rfl (by kernel_rfl) (by kernel_rfl) (by kernel_rfl) (fun _ _ _ h => h) (Sd.of (S25.trans S54) [0] rfl) rfl (wanted_g F97 rfl rfl rfl rfl) rfl rfl fun _ F98 => ?_
             refine g_take F98 rfl (i := 24) (listed' := #[true, true, true, true, true, true, true, true, true, true, true, true, true, true, true, true, true, true, true, true, true, true, true, true, true, false]) rfl (by kernel_rfl) (by kernel_rfl) (by kernel_rfl) (fun _ _ _ h => h) (Sd.of (S25.trans S54) [0] rfl) rfl (wanted_g F98 rfl rfl rfl rfl) rfl rfl (fun _ hz => (r_pick (b := false) rfl (F98.ev 26 rfl) rfl)) fun _ F99 => ?_
             refine g_take F99 rfl (i := 25) (listed' := #[true, true, true, true, true, true, true, true, true, true, true, true, true, true, true, true, true, true, true, true, true, true, true, true, true, true]) rfl (by kernel_rfl) (by kernel_rfl) (by kernel_rfl) (fun _ _ _ h => h) (Sd.of (S25.trans S54) [0] rfl) rfl rfl rfl rfl (fun _ hz => (r_pick (b := false) rfl (F99.ev 23 rfl) (F99.ev 36 rfl))) fun _ F100 => ?_
             refine wpAnyH_done (by kernel_rfl) (x_normal ?_) _
             exact ⟨Fr.cast (F100.cut rfl) (congrArg (fun zZ => ([(0, .slice s_a s_n s_c), (5, .slice s_a s_n s_c), (6, .int .i64 ((s_n : Nat) : Int)), (7, .int .i64 ((k : Nat) : Int)), (37, .bool zZ)] : List (Nat × Value))) (show false = (!cellOk s k) from by first | exact ck_1 hx1 (by assumption) | exact ck_2 hx1 (by assumption) (by assumption) | exact ck_3 hx1 (by assumption) (by assumption) (by assumption) | exact ck_5 hx1 (by assumption) (by assumption) (by assumption) hx2)), ((S22.trans (S25.trans S54)).pick [0] rfl)⟩
     · rintro a101 w101 ⟨F101, S101⟩
       refine x_normal (x_condb (b := (!cellOk s k)) (F101.ev 37 rfl) (fun h102 => ?_) (fun h102 => ?_))
       · skip
         refine wp_seq (wp_region_lit (l_op (f_val F101 rfl rfl (r_assign rfl rfl) rfl fun _ F103 => ?_)))
         have F104 : Fr 42 [(2, .bool false)] _ := F103.cut rfl
         clear F101 F103
         refine s_end (x_normal (wp_ret (x_block_ret (x_then_ret (x_then_ret (x_block_ret (x_then_ret ?_)))))))
         refine x_done (v := .bool false) F104 (results_1 Try.results66 (.tmp (F104.ev 2 rfl))) ?_
         exact ⟨(by rw [(show false = (storeOk s) from by exact (storeOk_bad (k := k) (by omega) (nt (by assumption))).symm)]), (Mv.pick (S7.trans (S15.trans (T20.trans S101))) [] rfl)⟩
       · skip
         refine wp_skip (x_block_normal (x_normal (wp_region_lit (l_op (f_val F101 rfl rfl (r_add (z := ((k + 1 : Nat) : Int)) rfl (F101.ev 7 rfl) rfl (by first | rfl | omega) ⟨by first | omega | (unfold i64ok at *; omega), by first | omega | (unfold i64ok at *; omega)⟩) rfl fun _ F105 => ?_)))))
         refine l_op (f_mv F105 rfl rfl rfl rfl rfl fun _ F106 => ?_)
         have F107 : Fr 42 [(7, .int .i64 ((k + 1 : Nat) : Int)), (0, .slice s_a s_n s_c), (5, .slice s_a s_n s_c), (6, .int .i64 ((s_n : Nat) : Int))] _ := F106.cut rfl
         clear F101 F105 F106
         refine s_end ?_
         refine x_normal ⟨k + 1, by omega, F107.cut rfl, ((S7.trans (S15.trans (T20.trans S101))).pick [] rfl), by omega, all_step hk_1 (nf (by assumption))⟩
   · skip
     refine wp_exit (x_then_exit (x_then_exit (x_block_here (x_normal (wp_seq (wp_region_lit (l_op (f_mv F9 rfl rfl rfl rfl rfl fun _ F108 => ?_))))))))
     refine l_op (f_val F108 rfl rfl (r_len Try.underlying74 rfl (F108.ev 39 rfl)) rfl fun _ F109 => ?_)
     refine l_op (f_val F109 rfl rfl (r_cmp (b := decide (s_n ≤ 900)) (.inr (.inr (.inr (.inl rfl)))) rfl (F109.ev 40 rfl) rfl (dec_of (by omega))) rfl fun _ F110 => ?_)
     refine l_op (f_as F110 rfl rfl rfl rfl rfl fun _ F111 => ?_)
     have F112 : Fr 42 [(2, .bool (decide (s_n ≤ 900)))] _ := F111.cut rfl
     clear F9 F108 F109 F110 F111
     refine s_end (x_normal (wp_ret ?_))
     refine x_done (v := .bool (decide (s_n ≤ 900))) F112 (results_1 Try.results66 (.tmp (F112.ev 2 rfl))) ?_
     exact ⟨(by rw [(show (decide (s_n ≤ 900)) = (storeOk s) from by rw [ln_s]; exact (storeOk_all (fun j hj => hk_1 j (by omega))).symm)]), (Mv.pick S7 [] rfl)⟩
theorem spec_BestSlot_c {w : World} {H : Nat → Prop} {d : DiskH} {d_slots_a : Option Addr} {d_slots_n d_slots_c : Nat} (v_d_slots : Rd 3 encSlot okSlot H w (.slice d_slots_a d_slots_n d_slots_c) d.slots) (u_d_slots : NRd inSlot H w d.slots) (h_d_journal_text : okS d.journal.text) (h_d_journal_sure : i64ok d.journal.sure) :
    Calls Try.prog 118 #[.agg #[.slice d_slots_a d_slots_n d_slots_c, .string d.journal.text, .int .i64 d.journal.sure]] w fun e w' => e = .returned (.int .i64 (bestTo (d.slots.map SlotH.d) d.slots.length)) ∧ Mv [] w [] w' ∧ i64ok (bestTo (d.slots.map SlotH.d) d.slots.length) := by
 have uU : True := (fun _ _ => trivial) h_d_journal_text h_d_journal_sure
 clear uU
 have V_v_d_slots : Rd 3 encSlot okSlot (V H w []) w (.slice d_slots_a d_slots_n d_slots_c) d.slots := Rd.start v_d_slots (fun _ _ => fps_nil _)
 obtain ⟨ln_d_slots, le_d_slots, mx_d_slots, ni_d_slots⟩ := Rd.inv v_d_slots
 have V_u_d_slots : NRd inSlot (V H w []) w d.slots := NRd.start u_d_slots (fun _ _ => fps_nil _)
 refine calls_enter 39 Try.func118 rfl Try.ntmps118 (Nat.le_of_ble_eq_true rfl) (fun _ F0i => ?_)
 have F0 : Fr 39 [(0, .agg #[.slice d_slots_a d_slots_n d_slots_c, .string d.journal.text, .int .i64 d.journal.sure])] _ := F0i
 clear F0i
 refine wp_seq (wp_region_lit (l_op (f_box F0 (At.nil w) rfl rfl rfl (F0.ev 0 rfl) rfl rfl fun b1 _ w1 F2 S1 => ?_)))
 refine l_op (f_val F2 rfl rfl (r_assign rfl rfl) rfl fun _ F3 => ?_)
 have F4 : Fr 39 [(2, .int .i64 0), (1, .pointer (some ⟨b1, 0, none⟩))] _ := F3.cut rfl
 clear F0 F2 F3
 have T5 : Mv _ _ [bx b1 [.slice d_slots_a d_slots_n d_slots_c, .string d.journal.text, .int .i64 d.journal.sure] 32] _ := S1
 refine s_end (x_normal (wp_seq (wp_region_lit (l_op (f_val F4 rfl rfl (r_assign rfl rfl) rfl fun _ F6 => ?_)))))
 have F7 : Fr 39 [(3, .int .i64 (-1)), (1, .pointer (some ⟨b1, 0, none⟩))] _ := F6.cut rfl
 clear F4 F6
 refine s_end (x_normal (wp_seq (wp_seq (wp_region_lit (l_op (f_val F7 rfl rfl (r_assign rfl rfl) rfl fun _ F8 => ?_))))))
 have F9 : Fr 39 [(4, .int .i64 0), (3, .int .i64 (-1)), (1, .pointer (some ⟨b1, 0, none⟩))] _ := F8.cut rfl
 clear F7 F8
 refine s_end (x_normal (wp_block ?_))
 refine x_loop (fun (k : Nat) aZ wZ => ∃ (best : Int), Fr 39 [(4, .int .i64 ((k : Nat) : Int)), (3, .int .i64 best), (1, .pointer (some ⟨b1, 0, none⟩))] aZ ∧ Mv [bx b1 [.slice d_slots_a d_slots_n d_slots_c, .string d.journal.text, .int .i64 d.journal.sure] 32] w1 [bx b1 [.slice d_slots_a d_slots_n d_slots_c, .string d.journal.text, .int .i64 d.journal.sure] 32] wZ ∧ (k ≤ d_slots_n) ∧ (best = bestTo (d.slots.map SlotH.d) k) ∧ (-1 ≤ best ∧ best < ((k : Nat) : Int))) (fun (k : Nat) => d_slots_n - k) (0) ?_ ?_
 · exact ⟨(-1), F9.cut rfl, (Mv.refl T5.at'), by omega, rfl, ⟨by omega, by omega⟩⟩
 · rintro k a10 w10 ⟨best, F10, S10, hk_0, hk_1, hk_2⟩
   refine wp_seq (wp_seq (wp_region_lit (l_op (f_mv F10 rfl rfl rfl rfl rfl fun _ F11 => ?_))))
   refine l_op (f_val F11 rfl rfl (r_field FI_32_0 rfl (F11.ev 1 rfl) rfl) rfl fun _ F12 => ?_)
   refine l_op (f_val (v := .slice d_slots_a d_slots_n d_slots_c) F12 rfl rfl (r_loadB S10.at' 0 TI_29 rfl rfl (F12.ev 6 rfl) rfl rfl (fun _ => rfl) rfl) rfl fun _ F13 => ?_)
   refine l_op (f_val F13 rfl rfl (r_len Try.underlying29 rfl (F13.ev 7 rfl)) rfl fun _ F14 => ?_)
   refine l_op (f_val F14 rfl rfl (r_cmp (b := decide (k < d_slots_n)) (.inr (.inr (.inl rfl))) rfl (F14.ev 5 rfl) (F14.ev 8 rfl) (dec_of (by omega))) rfl fun _ F15 => ?_)
   have F16 : Fr 39 [(9, .bool (decide (k < d_slots_n))), (4, .int .i64 ((k : Nat) : Int)), (3, .int .i64 best), (1, .pointer (some ⟨b1, 0, none⟩))] _ := F15.cut rfl
   clear F10 F11 F12 F13 F14 F15
   refine s_end (x_normal (x_cond (p := k < d_slots_n) (F16.ev 9 rfl) (fun h17 => ?_) (fun h17 => ?_)))
   · skip
     refine wp_skip (x_normal (wp_seq (wp_block (wp_seq ?_))))
     obtain ⟨x1, hx1, okx1⟩ := Rd.elem (Rd.mv (Nat.succ_pos _) V_v_d_slots (T5.trans S10)) k (by first | assumption | omega)
     have oj19 := okx1
     unfold okSlot at oj19
     have VI20 : Rd 2 encC okC (V H w [bx b1 [.slice d_slots_a d_slots_n d_slots_c, .string d.journal.text, .int .i64 d.journal.sure] 32]) w10 (.slice x1.a0 x1.n0 x1.c0) x1.d.cells := NRd.get (NRd.mv V_u_d_slots (T5.trans S10)) hx1 (j := 0) rfl
     obtain ⟨ln20, le20, mx20, ni20⟩ := Rd.inv VI20
     obtain ⟨x2, hx2, okx2⟩ := Rd.elem (Rd.mv (Nat.succ_pos _) V_v_d_slots (T5.trans S10)) (best).toNat (by first | assumption | omega)
     have oj21 := okx2
     unfold okSlot at oj21
     have VI22 : Rd 2 encC okC (V H w [bx b1 [.slice d_slots_a d_slots_n d_slots_c, .string d.journal.text, .int .i64 d.journal.sure] 32]) w10 (.slice x2.a0 x2.n0 x2.c0) x2.d.cells := NRd.get (NRd.mv V_u_d_slots (T5.trans S10)) hx2 (j := 0) rfl
     obtain ⟨ln22, le22, mx22, ni22⟩ := Rd.inv VI22
     refine x_draw (fun aZ wZ => Fr 39 [(1, .pointer (some ⟨b1, 0, none⟩)), (3, .int .i64 best), (4, .int .i64 ((k : Nat) : Int)), (36, .bool (x1.d.whole && (decide (best < 0) || decide (x1.d.seq > x2.d.seq))))] aZ ∧ Mv [bx b1 [.slice d_slots_a d_slots_n d_slots_c, .string d.journal.text, .int .i64 d.journal.sure] 32] w10 [bx b1 [.slice d_slots_a d_slots_n d_slots_c, .string d.journal.text, .int .i64 d.journal.sure] 32] wZ) [bx b1 [.slice d_slots_a d_slots_n d_slots_c, .string d.journal.text, .int .i64 d.journal.sure] 32] mixed S10.at' (listed := #[false, false, false, false, false, false, false, false, false, false, false, false, false, false, false, false, false, false, false, false, false, false, false, false, false]) rfl (fun w23 S23 => ?_) [0] rfl ?_
     · skip
       refine g_take F16 rfl (i := 0) (listed' := #[true, false, false, false, false, false, false, false, false, false, false, false, false, false, false, false, false, false, false, false, false, false, false, false, false]) rfl (by kernel_rfl) (by kernel_rfl) (by kernel_rfl) (fun _ _ _ h => h) (Sd.of (Mv.refl S23.at') [0] rfl) rfl rfl rfl rfl (fun _ hz => (r_field FI_32_0 rfl (F16.ev 1 rfl) rfl)) fun _ F24 => ?_
       refine g_take (v := .slice d_slots_a d_slots_n d_slots_c) F24 rfl (i := 1) (listed' := #[true, true, false, false, false, false, false, false, false, false, false, false, false, false, false, false, false, false, false, false, false, false, false, false, false]) rfl (by kernel_rfl) (by kernel_rfl) (by kernel_rfl) (fun _ _ _ h => h) (Sd.of (Mv.refl S23.at') [0] rfl) rfl rfl rfl rfl (fun _ hz => (r_loadX (hz.bx 0 rfl) TI_29 rfl (F24.ev 12 rfl) rfl rfl (fun _ => rfl) rfl)) fun _ F25 => ?_
       refine g_take F25 rfl (i := 2) (listed' := #[true, true, true, false, false, false, false, false, false, false, false, false, false, false, false, false, false, false, false, false, false, false, false, false, false]) rfl (by kernel_rfl) (by kernel_rfl) (by kernel_rfl) (fun _ _ _ h => h) (Sd.of (Mv.refl S23.at') [0] rfl) rfl rfl rfl rfl (fun _ hz => (r_move rfl (F25.ev 4 rfl))) fun _ F26 => ?_
       obtain ⟨B27, O27, y27, ad27, hy27, oky27, ln27, cl27⟩ := Rd.atK (Nat.succ_pos _) (Rd.mv (Nat.succ_pos _) V_v_d_slots (T5.trans (S10.trans S23))) k (by first | assumption | omega)
       clear ln27
       obtain rfl := Option.some.inj (hx1.symm.trans hy27)
       clear hy27 oky27
       refine g_take F26 rfl (i := 3) (listed' := #[true, true, true, true, false, false, false, false, false, false, false, false, false, false, false, false, false, false, false, false, false, false, false, false, false]) rfl (by kernel_rfl) (by kernel_rfl) (by kernel_rfl) (fun _ _ _ h => h) (Sd.of (Mv.refl S23.at') [0] rfl) rfl rfl rfl rfl (fun _ hz => (r_indexAddr (i := k) ET_29 rfl ((F26.ev 13 rfl).trans (by rw [ad27])) (F26.ev 14 rfl) (by omega) (by first | assumption | omega))) fun _ F28 => ?_
       refine g_take F28 rfl (i := 4) (listed' := #[true, true, true, true, true, false, false, false, false, false, false, false, false, false, false, false, false, false, false, false, false, false, false, false, false]) rfl (by kernel_rfl) (by kernel_rfl) (by kernel_rfl) (fun _ _ _ h => h) (Sd.of (Mv.refl S23.at') [0] rfl) rfl rfl rfl rfl (fun _ hz => (r_field FI_99_2 rfl (F28.ev 15 rfl) rfl)) fun _ F29 => ?_
       refine g_take (v := .bool x1.d.whole) F29 rfl (i := 5) (listed' := #[true, true, true, true, true, true, false, false, false, false, false, false, false, false, false, false, false, false, false, false, false, false, false, false, false]) rfl (by kernel_rfl) (by kernel_rfl) (by kernel_rfl) (fun _ _ _ h => h) (Sd.of (Mv.refl S23.at') [0] rfl) rfl rfl rfl rfl (fun _ hz => (r_load (cs := [.bool x1.d.whole]) TI_4 rfl (F29.ev 16 rfl) rfl (fun _ => rfl) (elem_sub (f := 2) (cl27 _ hz.kp) [.bool x1.d.whole] rfl))) fun _ F30 => ?_
       refine g_take F30 rfl (i := 6) (listed' := #[true, true, true, true, true, true, true, false, false, false, false, false, false, false, false, false, false, false, false, false, false, false, false, false, false]) rfl (by kernel_rfl) (by kernel_rfl) (by kernel_rfl) (fun _ _ _ h => h) (Sd.of (Mv.refl S23.at') [0] rfl) rfl rfl rfl rfl (fun _ hz => (r_move rfl (F30.ev 17 rfl))) fun _ F31 => ?_
       rcases Bool.eq_false_or_eq_true x1.d.whole with h32 | h32
       · rw [h32] at F31
         refine g_take F31 rfl (i := 7) (listed' := #[true, true, true, true, true, true, true, true, false, false, false, false, false, false, false, false, false, false, false, false, false, false, false, false, false]) rfl (by kernel_rfl) (by kernel_rfl) (by kernel_rfl) (fun _ _ _ h => h) (Sd.of (Mv.refl S23.at') [0] rfl) rfl (wanted_g F31 rfl rfl rfl rfl) rfl rfl (fun _ hz => (r_move rfl (F31.ev 3 rfl))) fun _ F33 => ?_
         refine g_take F33 rfl (i := 8) (listed' := #[true, true, true, true, true, true, true, true, true, false, false, false, false, false, false, false, false, false, false, false, false, false, false, false, false]) rfl (by kernel_rfl) (by kernel_rfl) (by kernel_rfl) (fun _ _ _ h => h) (Sd.of (Mv.refl S23.at') [0] rfl) rfl (wanted_g F33 rfl rfl rfl rfl) rfl rfl (fun _ hz => (r_cmp (b := decide (best < 0)) (.inr (.inr (.inl rfl))) rfl (F33.ev 19 rfl) rfl (dec_of (by omega)))) fun _ F34 => ?_
         refine g_take F34 rfl (i := 9) (listed' := #[true, true, true, true, true, true, true, true, true, true, false, false, false, false, false, false, false, false, false, false, false, false, false, false, false]) rfl (by kernel_rfl) (by kernel_rfl) (by kernel_rfl) (fun _ _ _ h => h) (Sd.of (Mv.refl S23.at') [0] rfl) rfl (wanted_g F34 rfl rfl rfl rfl) rfl rfl (fun _ hz => (r_move rfl (F34.ev 20 rfl))) fun _ F35 => ?_
         rcases Decidable.em (best < 0) with h36 | h36
         · rw [decide_eq_true h36] at F35
           refine g_skip F35 rfl (i := 10) (listed' := #[true, true, true, true, true, true, true, true, true, true, true, false, false, false, false, false, false, false, false, false, false, false, false, false, false]) rfl (by kernel_rfl) (by kernel_rfl) (by kernel_rfl) (fun _ _ _ h => h) (Sd.of (Mv.refl S23.at') [0] rfl) rfl (wanted_g F35 rfl rfl rfl rfl) rfl rfl fun _ F37 => ?_
           refine g_skip F37 rfl (i := 11) (listed' := #[true, true, true, true, true, true, true, true, true, true, true, true, false, false, false, false, false, false, false, false, false, false, false, false, false]) rfl (by kernel_rfl) (by kernel_rfl) (by kernel_rfl) (fun _ _ _ h => h) (Sd.of (Mv.refl S23.at') [0] rfl) rfl (wanted_g F37 rfl rfl rfl rfl) rfl rfl fun _ F38 => ?_
           refine g_skip F38 rfl (i := 12) (listed' := #[true, true, true, true, true, true, true, true, true, true, true, true, true, false, false, false, false, false, false, false, false, false, false, false, false]) rfl (by kernel_rfl) (by kernel_rfl) (by kernel_rfl) (fun _ _ _ h => h) (Sd.of (Mv.refl S23.at') [0] rfl) rfl (wanted_g F38 rfl rfl rfl rfl) rfl rfl fun _ F39 => ?_
           refine g_skip F39 rfl (i := 13) (listed' := #[true, true, true, true, true, true, true, true, true, true, true, true, true, true, false, false, false, false, false, false, false, false, false, false, false]) rfl (by kernel_rfl) (by kernel_rfl) (by kernel_rfl) (fun _ _ _ h => h) (Sd.of (Mv.refl S23.at') [0] rfl) rfl (wanted_g F39 rfl rfl rfl rfl) rfl rfl fun _ F40 => ?_
           refine g_skip F40 rfl (i := 14) (listed' := #[true, true, true, true, true, true, true, true, true, true, true, true, true, true, true, false, false, false, false, false, false, false, false, false, false]) rfl (by kernel_rfl) (by kernel_rfl) (by kernel_rfl) (fun _ _ _ h => h) (Sd.of (Mv.refl S23.at') [0] rfl) rfl (wanted_g F40 rfl rfl rfl rfl) rfl rfl fun _ F41 => ?_
           refine g_skip F41 rfl (i := 15) (listed' := #[true, true, true, true, true, true, true, true, true, true, true, true, true, true, true, true, false, false, false, false, false, false, false, false, false]) rfl (by kernel_rfl) (by kernel_rfl) (by kernel_rfl) (fun _ _ _ h => h) (Sd.of (Mv.refl S23.at') [0] rfl) rfl (wanted_g F41 rfl rfl rfl rfl) rfl rfl fun _ F42 => ?_
           refine g_skip F42 rfl (i := 16) (listed' := #[true, true, true, true, true, true, true, true, true, true, true, true, true, true, true, true, true, false, false, false, false, false, false, false, false]) rfl (by kernel_rfl) (by kernel_rfl) (by kernel_rfl) (fun _ _ _ h => h) (Sd.of (Mv.refl S23.at') [0] rfl) rfl (wanted_g F42 rfl rfl rfl rfl) rfl rfl fun _ F43 => ?_
           refine g_skip F43 rfl (i := 17) (listed' := #[true, true, true, true, true, true, true, true, true, true, true, true, true, true, true, true, true, true, false, false, false, false, false, false, false]) rfl (by kernel_rfl) (by kernel_rfl) (by kernel_rfl) (fun _ _ _ h => h) (Sd.of (Mv.refl S23.at') [0] rfl) rfl (wanted_g F43 rfl rfl rfl rfl) rfl rfl fun _ F44 => ?_
           refine g_skip F44 rfl (i := 18) (listed' := #[true, true, true, true, true, true, true, true, true, true, true, true, true, true, true, true, true, true, true, false, false, false, false, false, false]) rfl (by kernel_rfl) (by kernel_rfl) (by kernel_rfl) (fun _ _ _ h => h) (Sd.of (Mv.refl S23.at') [0] rfl) rfl (wanted_g F44 rfl rfl rfl rfl) rfl rfl fun _ F45 => ?_
           refine g_skip F45 rfl (i := 19) (listed' := #[true, true, true, true, true, true, true, true, true, true, true, true, true, true, true, true, true, true, true, true, false, false, false, false, false]) rfl (by kernel_rfl) (by kernel_rfl) (by kernel_rfl) (fun _ _ _ h => h) (Sd.of (Mv.refl S23.at') [0] rfl) rfl (wanted_g F45 rfl rfl rfl rfl) rfl rfl fun _ F46 => ?_
           refine g_skip F46 rfl (i := 20) (listed' := #[true, true, true, true, true, true, true, true, true, true, true, true, true, true, true, true, true, true, true, true, true, false, false, false, false]) rfl (by kernel_rfl) (by kernel_rfl) (by kernel_rfl) (fun _ _ _ h => h) (Sd.of (Mv.refl S23.at') [0] rfl) rfl (wanted_g F46 rfl rfl rfl rfl) rfl rfl fun _ F47 => ?_
           refine g_skip F47 rfl (i := 21) (listed' := #[true, true, true, true, true, true, true, true, true, true, true, true, true, true, true, true, true, true, true, true, true, true, false, false, false]) rfl (by kernel_rfl) (by kernel_rfl) (by kernel_rfl) (fun _ _ _ h => h) (Sd.of (Mv.refl S23.at') [0] rfl) rfl (wanted_g F47 rfl rfl rfl rfl) rfl rfl fun _ F48 => ?_
           refine g_skip F48 rfl (i := 22) (listed' := #[true, true, true, true, true, true, true, true, true, true, true, true, true, true, true, true, true, true, true, true, true, true, true, false, false]) rfl (by kernel_rfl) (by kernel_rfl) (by kernel_rfl) (fun _ _ _ h => h) (Sd.of (Mv.refl S23.at') [0] rfl) rfl (wanted_g F48 rfl rfl rfl rfl) rfl rfl fun _ F49 => ?_
           refine g_take F49 rfl (i := 23) (listed' := #[true, true, true, true, true, true, true, true, true, true, true, true, true, true, true, true, true, true, true, true, true, true, true, true, false]) rfl (by kernel_rfl) (by kernel_rfl) (by kernel_rfl) (fun _ _ _ h => h) (Sd.of (Mv.refl S23.at') [0] rfl) rfl (wanted_g F49 rfl rfl rfl rfl) rfl rfl (fun _ hz => (r_pick (b := true) rfl (F49.ev 21 rfl) rfl)) fun _ F50 => ?_
           refine g_take F50 rfl (i := 24) (listed' := #[true, true, true, true, true, true, true, true, true, true, true, true, true, true, true, true, true, true, true, true, true, true, true, true, true]) rfl (by kernel_rfl) (by kernel_rfl) (by kernel_rfl) (fun _ _ _ h => h) (Sd.of (Mv.refl S23.at') [0] rfl) rfl rfl rfl rfl (fun _ hz => (r_pick (b := true) rfl (F50.ev 18 rfl) (F50.ev 35 rfl))) fun _ F51 => ?_
           refine wpAnyH_done (by kernel_rfl) (x_normal ?_) _
           exact ⟨Fr.cast (F51.cut rfl) (congrArg (fun zZ => ([(1, .pointer (some ⟨b1, 0, none⟩)), (3, .int .i64 best), (4, .int .i64 ((k : Nat) : Int)), (36, .bool zZ)] : List (Nat × Value))) (show true = (x1.d.whole && (decide (best < 0) || decide (x1.d.seq > x2.d.seq))) from by first | exact bs_1 (by assumption) | exact bs_2 (by assumption) (by assumption) | exact bs_3 (by assumption) (by assumption))), (S23.pick [0] rfl)⟩
         · rw [decide_eq_false h36] at F35
           refine g_take F35 rfl (i := 10) (listed' := #[true, true, true, true, true, true, true, true, true, true, true, false, false, false, false, false, false, false, false, false, false, false, false, false, false]) rfl (by kernel_rfl) (by kernel_rfl) (by kernel_rfl) (fun _ _ _ h => h) (Sd.of (Mv.refl S23.at') [0] rfl) rfl (wanted_g F35 rfl rfl rfl rfl) rfl rfl (fun _ hz => (r_field FI_32_0 rfl (F35.ev 1 rfl) rfl)) fun _ F52 => ?_
           refine g_take (v := .slice d_slots_a d_slots_n d_slots_c) F52 rfl (i := 11) (listed' := #[true, true, true, true, true, true, true, true, true, true, true, true, false, false, false, false, false, false, false, false, false, false, false, false, false]) rfl (by kernel_rfl) (by kernel_rfl) (by kernel_rfl) (fun _ _ _ h => h) (Sd.of (Mv.refl S23.at') [0] rfl) rfl (wanted_g F52 rfl rfl rfl rfl) rfl rfl (fun _ hz => (r_loadX (hz.bx 0 rfl) TI_29 rfl (F52.ev 22 rfl) rfl rfl (fun _ => rfl) rfl)) fun _ F53 => ?_
           refine g_take F53 rfl (i := 12) (listed' := #[true, true, true, true, true, true, true, true, true, true, true, true, true, false, false, false, false, false, false, false, false, false, false, false, false]) rfl (by kernel_rfl) (by kernel_rfl) (by kernel_rfl) (fun _ _ _ h => h) (Sd.of (Mv.refl S23.at') [0] rfl) rfl (wanted_g F53 rfl rfl rfl rfl) rfl rfl (fun _ hz => (r_move rfl (F53.ev 4 rfl))) fun _ F54 => ?_
           obtain ⟨B55, O55, y55, ad55, hy55, oky55, ln55, cl55⟩ := Rd.atK (Nat.succ_pos _) (Rd.mv (Nat.succ_pos _) V_v_d_slots (T5.trans (S10.trans S23))) k (by first | assumption | omega)
           clear ln55
           obtain rfl := Option.some.inj (hx1.symm.trans hy55)
           clear hy55 oky55
           refine g_take F54 rfl (i := 13) (listed' := #[true, true, true, true, true, true, true, true, true, true, true, true, true, true, false, false, false, false, false, false, false, false, false, false, false]) rfl (by kernel_rfl) (by kernel_rfl) (by kernel_rfl) (fun _ _ _ h => h) (Sd.of (Mv.refl S23.at') [0] rfl) rfl (wanted_g F54 rfl rfl rfl rfl) rfl rfl (fun _ hz => (r_indexAddr (i := k) ET_29 rfl ((F54.ev 23 rfl).trans (by rw [ad55])) (F54.ev 24 rfl) (by omega) (by first | assumption | omega))) fun _ F56 => ?_
           refine g_take F56 rfl (i := 14) (listed' := #[true, true, true, true, true, true, true, true, true, true, true, true, true, true, true, false, false, false, false, false, false, false, false, false, false]) rfl (by kernel_rfl) (by kernel_rfl) (by kernel_rfl) (fun _ _ _ h => h) (Sd.of (Mv.refl S23.at') [0] rfl) rfl (wanted_g F56 rfl rfl rfl rfl) rfl rfl (fun _ hz => (r_field FI_99_0 rfl (F56.ev 25 rfl) rfl)) fun _ F57 => ?_
           refine g_take (v := .int .i64 x1.d.seq) F57 rfl (i := 15) (listed' := #[true, true, true, true, true, true, true, true, true, true, true, true, true, true, true, true, false, false, false, false, false, false, false, false, false]) rfl (by kernel_rfl) (by kernel_rfl) (by kernel_rfl) (fun _ _ _ h => h) (Sd.of (Mv.refl S23.at') [0] rfl) rfl (wanted_g F57 rfl rfl rfl rfl) rfl rfl (fun _ hz => (r_load (cs := [.int .i64 x1.d.seq]) TI_3 rfl (F57.ev 26 rfl) rfl (fun _ => rfl) (elem_sub (f := 0) (cl55 _ hz.kp) [.int .i64 x1.d.seq] rfl))) fun _ F58 => ?_
           refine g_take F58 rfl (i := 16) (listed' := #[true, true, true, true, true, true, true, true, true, true, true, true, true, true, true, true, true, false, false, false, false, false, false, false, false]) rfl (by kernel_rfl) (by kernel_rfl) (by kernel_rfl) (fun _ _ _ h => h) (Sd.of (Mv.refl S23.at') [0] rfl) rfl (wanted_g F58 rfl rfl rfl rfl) rfl rfl (fun _ hz => (r_field FI_32_0 rfl (F58.ev 1 rfl) rfl)) fun _ F59 => ?_
           refine g_take (v := .slice d_slots_a d_slots_n d_slots_c) F59 rfl (i := 17) (listed' := #[true, true, true, true, true, true, true, true, true, true, true, true, true, true, true, true, true, true, false, false, false, false, false, false, false]) rfl (by kernel_rfl) (by kernel_rfl) (by kernel_rfl) (fun _ _ _ h => h) (Sd.of (Mv.refl S23.at') [0] rfl) rfl (wanted_g F59 rfl rfl rfl rfl) rfl rfl (fun _ hz => (r_loadX (hz.bx 0 rfl) TI_29 rfl (F59.ev 28 rfl) rfl rfl (fun _ => rfl) rfl)) fun _ F60 => ?_
           refine g_take F60 rfl (i := 18) (listed' := #[true, true, true, true, true, true, true, true, true, true, true, true, true, true, true, true, true, true, true, false, false, false, false, false, false]) rfl (by kernel_rfl) (by kernel_rfl) (by kernel_rfl) (fun _ _ _ h => h) (Sd.of (Mv.refl S23.at') [0] rfl) rfl (wanted_g F60 rfl rfl rfl rfl) rfl rfl (fun _ hz => (r_move rfl (F60.ev 3 rfl))) fun _ F61 => ?_
           obtain ⟨B62, O62, y62, ad62, hy62, oky62, ln62, cl62⟩ := Rd.atK (Nat.succ_pos _) (Rd.mv (Nat.succ_pos _) V_v_d_slots (T5.trans (S10.trans S23))) (best).toNat (by first | assumption | omega)
           clear ln62
           obtain rfl := Option.some.inj (hx2.symm.trans hy62)
           clear hy62 oky62
           refine g_take F61 rfl (i := 19) (listed' := #[true, true, true, true, true, true, true, true, true, true, true, true, true, true, true, true, true, true, true, true, false, false, false, false, false]) rfl (by kernel_rfl) (by kernel_rfl) (by kernel_rfl) (fun _ _ _ h => h) (Sd.of (Mv.refl S23.at') [0] rfl) rfl (wanted_g F61 rfl rfl rfl rfl) rfl rfl (fun _ hz => (r_indexAddr (i := (best).toNat) ET_29 rfl ((F61.ev 29 rfl).trans (by rw [ad62])) (F61.ev 30 rfl) (by omega) (by first | assumption | omega))) fun _ F63 => ?_
           refine g_take F63 rfl (i := 20) (listed' := #[true, true, true, true, true, true, true, true, true, true, true, true, true, true, true, true, true, true, true, true, true, false, false, false, false]) rfl (by kernel_rfl) (by kernel_rfl) (by kernel_rfl) (fun _ _ _ h => h) (Sd.of (Mv.refl S23.at') [0] rfl) rfl (wanted_g F63 rfl rfl rfl rfl) rfl rfl (fun _ hz => (r_field FI_99_0 rfl (F63.ev 31 rfl) rfl)) fun _ F64 => ?_
           refine g_take (v := .int .i64 x2.d.seq) F64 rfl (i := 21) (listed' := #[true, true, true, true, true, true, true, true, true, true, true, true, true, true, true, true, true, true, true, true, true, true, false, false, false]) rfl (by kernel_rfl) (by kernel_rfl) (by kernel_rfl) (fun _ _ _ h => h) (Sd.of (Mv.refl S23.at') [0] rfl) rfl (wanted_g F64 rfl rfl rfl rfl) rfl rfl (fun _ hz => (r_load (cs := [.int .i64 x2.d.seq]) TI_3 rfl (F64.ev 32 rfl) rfl (fun _ => rfl) (elem_sub (f := 0) (cl62 _ hz.kp) [.int .i64 x2.d.seq] rfl))) fun _ F65 => ?_
           refine g_take F65 rfl (i := 22) (listed' := #[true, true, true, true, true, true, true, true, true, true, true, true, true, true, true, true, true, true, true, true, true, true, true, false, false]) rfl (by kernel_rfl) (by kernel_rfl) (by kernel_rfl) (fun _ _ _ h => h) (Sd.of (Mv.refl S23.at') [0] rfl) rfl (wanted_g F65 rfl rfl rfl rfl) rfl rfl (fun _ hz => (r_cmp (b := decide (x1.d.seq > x2.d.seq)) (.inr (.inr (.inr (.inr (.inl rfl))))) rfl (F65.ev 27 rfl) (F65.ev 33 rfl) (dec_of (by omega)))) fun _ F66 => ?_
           refine g_take F66 rfl (i := 23) (listed' := #[true, true, true, true, true, true, true, true, true, true, true, true, true, true, true, true, true, true, true, true, true, true, true, true, false]) rfl (by kernel_rfl) (by kernel_rfl) (by kernel_rfl) (fun _ _ _ h => h) (Sd.of (Mv.refl S23.at') [0] rfl) rfl (wanted_g F66 rfl rfl rfl rfl) rfl rfl (fun _ hz => (r_pick (b := false) rfl (F66.ev 21 rfl) (F66.ev 34 rfl))) fun _ F67 => ?_
           refine g_take F67 rfl (i := 24) (listed' := #[true, true, true, true, true, true, true, true, true, true, true, true, true, true, true, true, true, true, true, true, true, true, true, true, true]) rfl (by kernel_rfl) (by kernel_rfl) (by kernel_rfl) (fun _ _ _ h => h) (Sd.of (Mv.refl S23.at') [0] rfl) rfl rfl rfl rfl (fun _ hz => (r_pick (b := true) rfl (F67.ev 18 rfl) (F67.ev 35 rfl))) fun _ F68 => ?_
           refine wpAnyH_done (by kernel_rfl) (x_normal ?_) _
           exact ⟨Fr.cast (F68.cut rfl) (congrArg (fun zZ => ([(1, .pointer (some ⟨b1, 0, none⟩)), (3, .int .i64 best), (4, .int .i64 ((k : Nat) : Int)), (36, .bool zZ)] : List (Nat × Value))) (show (decide (x1.d.seq > x2.d.seq)) = (x1.d.whole && (decide (best < 0) || decide (x1.d.seq > x2.d.seq))) from by first | exact bs_1 (by assumption) | exact bs_2 (by assumption) (by assumption) | exact bs_3 (by assumption) (by assumption))), (S23.pick [0] rfl)⟩
       · rw [h32] at F31
         refine g_skip F31 rfl (i := 7) (listed' := #[true, true, true, true, true, true, true, true, false, false, false, false, false, false, false, false, false, false, false, false, false, false, false, false, false]) rfl (by kernel_rfl) (by kernel_rfl) (by kernel_rfl) (fun _ _ _ h => h) (Sd.of (Mv.refl S23.at') [0] rfl) rfl (wanted_g F31 rfl rfl rfl rfl) rfl rfl fun _ F69 => ?_
         refine g_skip F69 rfl (i := 8) (listed' := #[true, true, true, true, true, true, true, true, true, false, false, false, false, false, false, false, false, false, false, false, false, false, false, false, false]) rfl (by kernel_rfl) (by kernel_rfl) (by kernel_rfl) (fun _ _ _ h => h) (Sd.of (Mv.refl S23.at') [0] rfl) rfl (wanted_g F69 rfl rfl rfl rfl) rfl rfl fun _ F70 => ?_
         refine g_skip F70 rfl (i := 9) (listed' := #[true, true, true, true, true, true, true, true, true, true, false, false, false, false, false, false, false, false, false, false, false, false, false, false, false]) rfl (by kernel_rfl) (by kernel_rfl) (by kernel_rfl) (fun _ _ _ h => h) (Sd.of (Mv.refl S23.at') [0] rfl) rfl (wanted_g F70 rfl rfl rfl rfl) rfl rfl fun _ F71 => ?_
         refine g_skip F71 rfl (i := 10) (listed' := #[true, true, true, true, true, true, true, true, true, true, true, false, false, false, false, false, false, false, false, false, false, false, false, false, false]) rfl (by kernel_rfl) (by kernel_rfl) (by kernel_rfl) (fun _ _ _ h => h) (Sd.of (Mv.refl S23.at') [0] rfl) rfl (wanted_u F71 rfl rfl rfl) rfl rfl fun _ F72 => ?_
         refine g_skip F72 rfl (i := 11) (listed' := #[true, true, true, true, true, true, true, true, true, true, true, true, false, false, false, false, false, false, false, false, false, false, false, false, false]) rfl (by kernel_rfl) (by kernel_rfl) (by kernel_rfl) (fun _ _ _ h => h) (Sd.of (Mv.refl S23.at') [0] rfl) rfl (wanted_u F72 rfl rfl rfl) rfl rfl fun _ F73 => ?_
         refine g_skip F73 rfl (i := 12) (listed' := #[true, true, true, true, true, true, true, true, true, true, true, true, true, false, false, false, false, false, false, false, false, false, false, false, false]) rfl (by kernel_rfl) (by kernel_rfl) (by kernel_rfl) (fun _ _ _ h => h) (Sd.of (Mv.refl S23.at') [0] rfl) rfl (wanted_u F73 rfl rfl rfl) rfl rfl fun _ F74 => ?_
         refine g_skip F74 rfl (i := 13) (listed' := #[true, true, true, true, true, true, true, true, true, true, true, true, true, true, false, false, false, false, false, false, false, false, false, false, false]) rfl (by kernel_rfl) (by kernel_rfl) (by kernel_rfl) (fun _ _ _ h => h) (Sd.of (Mv.refl S23.at') [0] rfl) rfl (wanted_u F74 rfl rfl rfl) rfl rfl fun _ F75 => ?_
         refine g_skip F75 rfl (i := 14) (listed' := #[true, true, true, true, true, true, true, true, true, true, true, true, true, true, true, false, false, false, false, false, false, false, false, false, false]) rfl (by kernel_rfl) (by kernel_rfl) (by kernel_rfl) (fun _ _ _ h => h) (Sd.of (Mv.refl S23.at') [0] rfl) rfl (wanted_u F75 rfl rfl rfl) rfl rfl fun _ F76 => ?_
         refine g_skip F76 rfl (i := 15) (listed' := #[true, true, true, true, true, true, true, true, true, true, true, true, true, true, true, true, false, false, false, false, false, false, false, false, false]) rfl (by kernel_rfl) (by kernel_rfl) (by kernel_rfl) (fun _ _ _ h => h) (Sd.of (Mv.refl S23.at') [0] rfl) rfl (wanted_u F76 rfl rfl rfl) rfl rfl fun _ F77 => ?_
         refine g_skip F77 rfl (i := 16) (listed' := #[true, true, true, true, true, true, true, true, true, true, true, true, true, true, true, true, true, false, false, false, false, false, false, false, false]) rfl (by kernel_rfl) (by kernel_rfl) (by kernel_rfl) (fun _ _ _ h => h) (Sd.of (Mv.refl S23.at') [0] rfl) rfl (wanted_u F77 rfl rfl rfl) rfl rfl fun _ F78 => ?_
         refine g_skip F78 rfl (i := 17) (listed' := #[true, true, true, true, true, true, true, true, true, true, true, true, true, true, true, true, true, true, false, false, false, false, false, false, false]) rfl (by kernel_rfl) (by kernel_rfl) (by kernel_rfl) (fun _ _ _ h => h) (Sd.of (Mv.refl S23.at') [0] rfl) rfl (wanted_u F78 rfl rfl rfl) rfl rfl fun _ F79 => ?_
         refine g_skip F79 rfl (i := 18) (listed' := #[true, true, true, true, true, true, true, true, true, true, true, true, true, true, true, true, true, true, true, false, false, false, false, false, false]) rfl (by kernel_rfl) (by kernel_rfl) (by kernel_rfl) (fun _ _ _ h => h) (Sd.of (Mv.refl S23.at') [0] rfl) rfl (wanted_u F79 rfl rfl rfl) rfl rfl fun _ F80 => ?_
         refine g_skip F80 rfl (i := 19) (listed' := #[true, true, true, true, true, true, true, true, true, true, true, true, true, true, true, true, true, true, true, true, false, false, false, false, false]) rfl (by kernel_rfl) (by kernel_rfl) (by kernel_rfl) (fun _ _ _ h => h) (Sd.of (Mv.refl S23.at') [0] rfl) rfl (wanted_u F80 rfl rfl rfl) rfl rfl fun _ F81 => ?_
         refine g_skip F81 rfl (i := 20) (listed' := #[true, true, true, true, true, true, true, true, true, true, true, true, true, true, true, true, true, true, true, true, true, false, false, false, false]) rfl (by kernel_rfl) (by kernel_rfl) (by kernel_rfl) (fun _ _ _ h => h) (Sd.of (Mv.refl S23.at') [0] rfl) rfl (wanted_u F81 rfl rfl rfl) rfl rfl fun _ F82 => ?_
         refine g_skip F82 rfl (i := 21) (listed' := #[true, true, true, true, true, true, true, true, true, true, true, true, true, true, true, true, true, true, true, true, true, true, false, false, false]) rfl (by kernel_rfl) (by kernel_rfl) (by kernel_rfl) (fun _ _ _ h => h) (Sd.of (Mv.refl S23.at') [0] rfl) rfl (wanted_u F82 rfl rfl rfl) rfl rfl fun _ F83 => ?_
         refine g_skip F83 rfl (i := 22) (listed' := #[true, true, true, true, true, true, true, true, true, true, true, true, true, true, true, true, true, true, true, true, true, true, true, false, false]) rfl (by kernel_rfl) (by kernel_rfl) (by kernel_rfl) (fun _ _ _ h => h) (Sd.of (Mv.refl S23.at') [0] rfl) rfl (wanted_u F83 rfl rfl rfl) rfl rfl fun _ F84 => ?_
         refine g_skip F84 rfl (i := 23) (listed' := #[true, true, true, true, true, true, true, true, true, true, true, true, true, true, true, true, true, true, true, true, true, true, true, true, false]) rfl (by kernel_rfl) (by kernel_rfl) (by kernel_rfl) (fun _ _ _ h => h) (Sd.of (Mv.refl S23.at') [0] rfl) rfl (wanted_g F84 rfl rfl rfl rfl) rfl rfl fun _ F85 => ?_
         refine g_take F85 rfl (i := 24) (listed' := #[true, true, true, true, true, true, true, true, true, true, true, true, true, true, true, true, true, true, true, true, true, true, true, true, true]) rfl (by kernel_rfl) (by kernel_rfl) (by kernel_rfl) (fun _ _ _ h => h) (Sd.of (Mv.refl S23.at') [0] rfl) rfl rfl rfl rfl (fun _ hz => (r_pick (b := false) rfl (F85.ev 18 rfl) rfl)) fun _ F86 => ?_
         refine wpAnyH_done (by kernel_rfl) (x_normal ?_) _
         exact ⟨Fr.cast (F86.cut rfl) (congrArg (fun zZ => ([(1, .pointer (some ⟨b1, 0, none⟩)), (3, .int .i64 best), (4, .int .i64 ((k : Nat) : Int)), (36, .bool zZ)] : List (Nat × Value))) (show false = (x1.d.whole && (decide (best < 0) || decide (x1.d.seq > x2.d.seq))) from by first | exact bs_1 (by assumption) | exact bs_2 (by assumption) (by assumption) | exact bs_3 (by assumption) (by assumption))), (S23.pick [0] rfl)⟩
     · rintro a87 w87 ⟨F87, S87⟩
       refine x_normal (x_condb (b := (x1.d.whole && (decide (best < 0) || decide (x1.d.seq > x2.d.seq)))) (F87.ev 36 rfl) (fun h88 => ?_) (fun h88 => ?_))
       · skip
         refine wp_region_lit (l_op (f_mv F87 rfl rfl rfl rfl rfl fun _ F89 => ?_))
         refine l_op (f_as F89 rfl rfl rfl rfl rfl fun _ F90 => ?_)
         have F91 : Fr 39 [(3, .int .i64 ((k : Nat) : Int)), (1, .pointer (some ⟨b1, 0, none⟩)), (4, .int .i64 ((k : Nat) : Int))] _ := F90.cut rfl
         clear F87 F89 F90
         refine s_end (x_block_normal (x_normal (wp_region_lit (l_op (f_mv F91 rfl rfl rfl rfl rfl fun _ F92 => ?_)))))
         refine l_op (f_val F92 rfl rfl (r_add (z := ((k + 1 : Nat) : Int)) rfl (F92.ev 10 rfl) rfl (by first | rfl | omega) ⟨by first | omega | (unfold i64ok at *; omega), by first | omega | (unfold i64ok at *; omega)⟩) rfl fun _ F93 => ?_)
         refine l_op (f_as F93 rfl rfl rfl rfl rfl fun _ F94 => ?_)
         have F95 : Fr 39 [(4, .int .i64 ((k + 1 : Nat) : Int)), (3, .int .i64 ((k : Nat) : Int)), (1, .pointer (some ⟨b1, 0, none⟩))] _ := F94.cut rfl
         clear F91 F92 F93 F94
         refine s_end ?_
         refine x_normal ⟨k + 1, by omega, ((k : Nat) : Int), F95.cut rfl, ((S10.trans S87).pick [0] rfl), by omega, by first | exact bestTo_t hk_1 hx1 hx2 (by assumption) | exact bestTo_f hk_1 hx1 hx2 (by assumption), by omega⟩
       · skip
         refine wp_skip (x_block_normal (x_normal (wp_region_lit (l_op (f_mv F87 rfl rfl rfl rfl rfl fun _ F96 => ?_)))))
         refine l_op (f_val F96 rfl rfl (r_add (z := ((k + 1 : Nat) : Int)) rfl (F96.ev 10 rfl) rfl (by first | rfl | omega) ⟨by first | omega | (unfold i64ok at *; omega), by first | omega | (unfold i64ok at *; omega)⟩) rfl fun _ F97 => ?_)
         refine l_op (f_as F97 rfl rfl rfl rfl rfl fun _ F98 => ?_)
         have F99 : Fr 39 [(4, .int .i64 ((k + 1 : Nat) : Int)), (1, .pointer (some ⟨b1, 0, none⟩)), (3, .int .i64 best)] _ := F98.cut rfl
         clear F87 F96 F97 F98
         refine s_end ?_
         refine x_normal ⟨k + 1, by omega, best, F99.cut rfl, ((S10.trans S87).pick [0] rfl), by omega, by first | exact bestTo_t hk_1 hx1 hx2 (by assumption) | exact bestTo_f hk_1 hx1 hx2 (by assumption), by omega⟩
   · skip
     refine wp_exit (x_then_exit (x_then_exit (x_block_here (x_normal (wp_seq (wp_region_lit (l_op (f_mv F16 rfl rfl rfl rfl rfl fun _ F100 => ?_))))))))
     refine l_op (f_as F100 rfl rfl rfl rfl rfl fun _ F101 => ?_)
     have F102 : Fr 39 [(2, .int .i64 best)] _ := F101.cut rfl
     clear F16 F100 F101
     refine s_end (x_normal (wp_ret ?_))
     refine x_done (v := .int .i64 best) F102 (results_1 Try.results118 (.tmp (F102.ev 2 rfl))) ?_
     exact ⟨(by rw [(show best = (bestTo (d.slots.map SlotH.d) d.slots.length) from by rw [hk_1, show k = d.slots.length by omega])]), (Mv.pick (T5.trans S10) [] rfl), by have := bestTo_bd (d.slots.map SlotH.d) d.slots.length; unfold i64ok; omega⟩
theorem spec_DiskOk_c {w : World} {H : Nat → Prop} {d : DiskH} {d_slots_a : Option Addr} {d_slots_n d_slots_c : Nat} (v_d_slots : Rd 3 encSlot okSlot H w (.slice d_slots_a d_slots_n d_slots_c) d.slots) (u_d_slots : NRd inSlot H w d.slots) (h_d_journal_text : okS d.journal.text) (h_d_journal_sure : i64ok d.journal.sure) :
    Calls Try.prog 58 #[.agg #[.slice d_slots_a d_slots_n d_slots_c, .string d.journal.text, .int .i64 d.journal.sure]] w fun e w' => e = .returned (.bool (diskOk (d.slots.map SlotH.d) d.journal)) ∧ Mv [] w [] w' := by
 have uU : True := (fun _ => trivial) h_d_journal_sure
 clear uU
 have V_v_d_slots : Rd 3 encSlot okSlot (V H w []) w (.slice d_slots_a d_slots_n d_slots_c) d.slots := Rd.start v_d_slots (fun _ _ => fps_nil _)
 obtain ⟨ln_d_slots, le_d_slots, mx_d_slots, ni_d_slots⟩ := Rd.inv v_d_slots
 have V_u_d_slots : NRd inSlot (V H w []) w d.slots := NRd.start u_d_slots (fun _ _ => fps_nil _)
 refine calls_enter 45 Try.func58 rfl Try.ntmps58 (Nat.le_of_ble_eq_true rfl) (fun _ F0i => ?_)
 have F0 : Fr 45 [(0, .agg #[.slice d_slots_a d_slots_n d_slots_c, .string d.journal.text, .int .i64 d.journal.sure])] _ := F0i
 clear F0i
 refine wp_seq (wp_region_lit (l_op (f_box F0 (At.nil w) rfl rfl rfl (F0.ev 0 rfl) rfl rfl fun b1 _ w1 F2 S1 => ?_)))
 refine l_op (f_val F2 rfl rfl (r_assign rfl rfl) rfl fun _ F3 => ?_)
 have F4 : Fr 45 [(2, .bool false), (1, .pointer (some ⟨b1, 0, none⟩))] _ := F3.cut rfl
 clear F0 F2 F3
 have T5 : Mv _ _ [bx b1 [.slice d_slots_a d_slots_n d_slots_c, .string d.journal.text, .int .i64 d.journal.sure] 32] _ := S1
 refine s_end (x_normal (wp_seq (wp_seq (wp_region_lit (l_op (f_val F4 rfl rfl (r_assign rfl rfl) rfl fun _ F6 => ?_))))))
 have F7 : Fr 45 [(3, .int .i64 0), (1, .pointer (some ⟨b1, 0, none⟩))] _ := F6.cut rfl
 clear F4 F6
 refine s_end (x_normal (wp_block ?_))
 refine x_loop (fun (k : Nat) aZ wZ => Fr 45 [(3, .int .i64 ((k : Nat) : Int)), (1, .pointer (some ⟨b1, 0, none⟩))] aZ ∧ Mv [bx b1 [.slice d_slots_a d_slots_n d_slots_c, .string d.journal.text, .int .i64 d.journal.sure] 32] w1 [bx b1 [.slice d_slots_a d_slots_n d_slots_c, .string d.journal.text, .int .i64 d.journal.sure] 32] wZ ∧ (k ≤ d_slots_n) ∧ (∀ j, j < k → ∀ c, nth d.slots j = some c → slotBad c.d = false)) (fun (k : Nat) => d_slots_n - k) (0) ?_ ?_
 · exact ⟨F7.cut rfl, (Mv.refl T5.at'), by omega, all_none'⟩
 · rintro k a8 w8 ⟨F8, S8, hk_0, hk_1⟩
   refine wp_seq (wp_seq (wp_region_lit (l_op (f_mv F8 rfl rfl rfl rfl rfl fun _ F9 => ?_))))
   refine l_op (f_val F9 rfl rfl (r_field FI_32_0 rfl (F9.ev 1 rfl) rfl) rfl fun _ F10 => ?_)
   refine l_op (f_val (v := .slice d_slots_a d_slots_n d_slots_c) F10 rfl rfl (r_loadB S8.at' 0 TI_29 rfl rfl (F10.ev 6 rfl) rfl rfl (fun _ => rfl) rfl) rfl fun _ F11 => ?_)
   refine l_op (f_val F11 rfl rfl (r_len Try.underlying29 rfl (F11.ev 7 rfl)) rfl fun _ F12 => ?_)
   refine l_op (f_val F12 rfl rfl (r_cmp (b := decide (k < d_slots_n)) (.inr (.inr (.inl rfl))) rfl (F12.ev 5 rfl) (F12.ev 8 rfl) (dec_of (by omega))) rfl fun _ F13 => ?_)
   have F14 : Fr 45 [(9, .bool (decide (k < d_slots_n))), (3, .int .i64 ((k : Nat) : Int)), (1, .pointer (some ⟨b1, 0, none⟩))] _ := F13.cut rfl
   clear F8 F9 F10 F11 F12 F13
   refine s_end (x_normal (x_cond (p := k < d_slots_n) (F14.ev 9 rfl) (fun h15 => ?_) (fun h15 => ?_)))
   · skip
     refine wp_skip (x_normal (wp_seq (wp_block (wp_seq (wp_region_lit (l_op (f_val F14 rfl rfl (r_field FI_32_0 rfl (F14.ev 1 rfl) rfl) rfl fun _ F16 => ?_)))))))
     refine l_op (f_val (v := .slice d_slots_a d_slots_n d_slots_c) F16 rfl rfl (r_loadB S8.at' 0 TI_29 rfl rfl (F16.ev 12 rfl) rfl rfl (fun _ => rfl) rfl) rfl fun _ F17 => ?_)
     refine l_op (f_mv F17 rfl rfl rfl rfl rfl fun _ F18 => ?_)
     obtain ⟨B19, O19, x1, ad19, hx1, okx1, ln19, cl19⟩ := Rd.at (Rd.mv (Nat.succ_pos _) V_v_d_slots (T5.trans S8)) k (by first | assumption | omega)
     clear ln19
     have oj20 := okx1
     unfold okSlot at oj20
     have VI21 : Rd 2 encC okC (V H w [bx b1 [.slice d_slots_a d_slots_n d_slots_c, .string d.journal.text, .int .i64 d.journal.sure] 32]) w8 (.slice x1.a0 x1.n0 x1.c0) x1.d.cells := NRd.get (NRd.mv V_u_d_slots (T5.trans S8)) hx1 (j := 0) rfl
     obtain ⟨ln21, le21, mx21, ni21⟩ := Rd.inv VI21
     refine l_op (f_val F18 rfl rfl (r_indexAddr (i := k) ET_29 rfl ((F18.ev 13 rfl).trans (by rw [ad19])) (F18.ev 14 rfl) (by omega) (by first | assumption | omega)) rfl fun _ F22 => ?_)
     refine l_op (f_val (v := .agg #[.int .i64 x1.d.seq, .slice x1.a0 x1.n0 x1.c0, .bool x1.d.whole]) F22 rfl rfl (r_load (cs := [.int .i64 x1.d.seq, .slice x1.a0 x1.n0 x1.c0, .bool x1.d.whole]) TI_99 rfl (F22.ev 15 rfl) rfl (fun h => nomatch h) (elem_sub (f := 0) cl19 [.int .i64 x1.d.seq, .slice x1.a0 x1.n0 x1.c0, .bool x1.d.whole] rfl)) rfl fun _ F23 => ?_)
     refine l_op (f_alloc F23 S8.at' ZI_99 rfl rfl rfl rfl rfl fun b24 _ w24 F25 S24 => ?_)
     refine l_op (s_store S24.at' 0 TI_99 rfl rfl rfl rfl rfl (F25.ev 4 rfl) (F25.ev 16 rfl) rfl rfl rfl rfl rfl fun w26 S26 => ?_)
     have F27 : Fr 45 [(4, .pointer (some ⟨b24, 0, none⟩)), (16, .agg #[.int .i64 x1.d.seq, .slice x1.a0 x1.n0 x1.c0, .bool x1.d.whole]), (3, .int .i64 ((k : Nat) : Int)), (1, .pointer (some ⟨b1, 0, none⟩))] _ := F25.cut rfl
     clear F14 F16 F17 F18 F22 F23 F25
     have T28 : Mv _ _ [bx b24 [.int .i64 x1.d.seq, .slice x1.a0 x1.n0 x1.c0, .bool x1.d.whole] 99, bx b1 [.slice d_slots_a d_slots_n d_slots_c, .string d.journal.text, .int .i64 d.journal.sure] 32] _ := S26
     refine s_end (x_normal (wp_seq (wp_region_lit (l_op (f_val F27 rfl rfl (r_field FI_99_2 rfl (F27.ev 4 rfl) rfl) rfl fun _ F29 => ?_)))))
     refine l_op (f_val (v := .bool x1.d.whole) F29 rfl rfl (r_loadB T28.at' 0 TI_4 rfl rfl (F29.ev 17 rfl) rfl rfl (fun _ => rfl) rfl) rfl fun _ F30 => ?_)
     refine l_op (f_mv F30 rfl rfl rfl rfl rfl fun _ F31 => ?_)
     rcases Bool.eq_false_or_eq_true x1.d.whole with h32 | h32
     · rw [h32] at F31
       refine l_op (f_val F31 (wanted_g F31 rfl rfl rfl rfl) rfl (r_field FI_99_0 rfl (F31.ev 4 rfl) rfl) rfl fun _ F33 => ?_)
       refine l_op (f_val (v := .int .i64 x1.d.seq) F33 (wanted_g F33 rfl rfl rfl rfl) rfl (r_loadB T28.at' 0 TI_3 rfl rfl (F33.ev 20 rfl) rfl rfl (fun _ => rfl) rfl) rfl fun _ F34 => ?_)
       refine l_op (f_call F34 CF_61 (wanted_g F34 rfl rfl rfl rfl) rfl rfl rfl (lc (F34.ev 21 rfl) (lc rfl (lc rfl rfl))) (spec_l01In_c (H := fun _ => True) (x := x1.d.seq) (least := 0) (most := 99999) (by first | assumption | exact ⟨by omega, by omega⟩ | (unfold i64ok at *; omega)) (by first | assumption | exact ⟨by omega, by omega⟩ | (unfold i64ok at *; omega)) (by first | assumption | exact ⟨by omega, by omega⟩ | (unfold i64ok at *; omega))) ?_)
       rintro _ w35 ⟨rfl, m35⟩
       refine ⟨_, rfl, fun _ F36 => ?_⟩
       have S35 := At.frame0 T28.at' m35
       clear m35
       refine l_op (f_val F36 (wanted_g F36 rfl rfl rfl rfl) rfl (r_not rfl (F36.ev 22 rfl)) rfl fun _ F37 => ?_)
       refine l_op (f_mv F37 (wanted_g F37 rfl rfl rfl rfl) rfl rfl rfl rfl fun _ F38 => ?_)
       rcases Bool.eq_false_or_eq_true (!(inB x1.d.seq 0 99999)) with h39 | h39
       · rw [h39] at F38
         refine l_op (f_skip F38 (wanted_g F38 rfl rfl rfl rfl) rfl rfl fun _ F40 => ?_)
         refine l_op (f_skip F40 (wanted_g F40 rfl rfl rfl rfl) rfl rfl fun _ F41 => ?_)
         refine l_op (f_skip F41 (wanted_g F41 rfl rfl rfl rfl) rfl rfl fun _ F42 => ?_)
         refine l_op (f_skip F42 (wanted_g F42 rfl rfl rfl rfl) rfl rfl fun _ F43 => ?_)
         refine l_op (f_val F43 (wanted_g F43 rfl rfl rfl rfl) rfl (r_pick (b := true) rfl (F43.ev 24 rfl) rfl) rfl fun _ F44 => ?_)
         refine l_op (f_val F44 rfl rfl (r_pick (b := true) rfl (F44.ev 19 rfl) (F44.ev 29 rfl)) rfl fun _ F45 => ?_)
         have F46 : Fr 45 [(30, .bool true), (3, .int .i64 ((k : Nat) : Int)), (1, .pointer (some ⟨b1, 0, none⟩))] _ := F45.cut rfl
         clear F27 F29 F30 F31 F33 F34 F36 F37 F38 F40 F41 F42 F43 F44 F45
         have T47 : Mv _ _ [bx b24 [.int .i64 x1.d.seq, .slice x1.a0 x1.n0 x1.c0, .bool x1.d.whole] 99, bx b1 [.slice d_slots_a d_slots_n d_slots_c, .string d.journal.text, .int .i64 d.journal.sure] 32] _ := S35
         refine s_end (x_normal (wp_cond_true (F46.ev 30 rfl) (wp_seq (wp_region_lit (l_op (f_val F46 rfl rfl (r_assign rfl rfl) rfl fun _ F48 => ?_))))))
         have F49 : Fr 45 [(2, .bool false)] _ := F48.cut rfl
         clear F46 F48
         refine s_end (x_normal (wp_ret (x_block_ret (x_then_ret (x_then_ret (x_block_ret (x_then_ret ?_)))))))
         refine x_done (v := .bool false) F49 (results_1 Try.results58 (.tmp (F49.ev 2 rfl))) ?_
         exact ⟨(by rw [(show false = (diskOk (d.slots.map SlotH.d) d.journal) from by first | exact dk_bad hx1 (by first | exact sb_3 (by assumption) (by assumption) | exact sb_4 (by assumption) (by assumption)) | exact dk_bad hx2 (by first | exact sb_3 (by assumption) (by assumption) | exact sb_4 (by assumption) (by assumption)) | exact dk_bad hx3 (by first | exact sb_3 (by assumption) (by assumption) | exact sb_4 (by assumption) (by assumption)) | exact dk_len ln_d_slots (by assumption) | exact dk_best (by assumption) | exact dk_done2 ln_d_slots (by assumption) (by assumption) (fun i hi c hc => hk_1 i (by omega) c hc))]), (Mv.pick (T5.trans (S8.trans (S24.trans (T28.trans T47)))) [] rfl)⟩
       · rw [h39] at F38
         refine l_op (f_val F38 (wanted_g F38 rfl rfl rfl rfl) rfl (r_field FI_99_1 rfl (F38.ev 4 rfl) rfl) rfl fun _ F50 => ?_)
         refine l_op (f_val (v := .slice x1.a0 x1.n0 x1.c0) F50 (wanted_g F50 rfl rfl rfl rfl) rfl (r_loadB S35.at' 0 TI_74 rfl rfl (F50.ev 25 rfl) rfl rfl (fun _ => rfl) rfl) rfl fun _ F51 => ?_)
         refine l_op (f_call F51 CF_60 (wanted_g F51 rfl rfl rfl rfl) rfl rfl rfl (lc (F51.ev 26 rfl) rfl) (spec_StoreOk_c (s := x1.d.cells) (Rd.mv (Nat.succ_pos _) VI21 (S24.trans (T28.trans S35)))) ?_)
         rintro _ w52 ⟨rfl, m52⟩
         refine ⟨_, rfl, fun _ F53 => ?_⟩
         have S52 := At.frame0 S35.at' m52
         clear m52
         refine l_op (f_val F53 (wanted_g F53 rfl rfl rfl rfl) rfl (r_not rfl (F53.ev 27 rfl)) rfl fun _ F54 => ?_)
         refine l_op (f_val F54 (wanted_g F54 rfl rfl rfl rfl) rfl (r_pick (b := false) rfl (F54.ev 24 rfl) (F54.ev 28 rfl)) rfl fun _ F55 => ?_)
         refine l_op (f_val F55 rfl rfl (r_pick (b := true) rfl (F55.ev 19 rfl) (F55.ev 29 rfl)) rfl fun _ F56 => ?_)
         have F57 : Fr 45 [(30, .bool (!(storeOk x1.d.cells))), (3, .int .i64 ((k : Nat) : Int)), (1, .pointer (some ⟨b1, 0, none⟩))] _ := F56.cut rfl
         clear F27 F29 F30 F31 F33 F34 F36 F37 F38 F50 F51 F53 F54 F55 F56
         have T58 : Mv _ _ [bx b24 [.int .i64 x1.d.seq, .slice x1.a0 x1.n0 x1.c0, .bool x1.d.whole] 99, bx b1 [.slice d_slots_a d_slots_n d_slots_c, .string d.journal.text, .int .i64 d.journal.sure] 32] _ := S52
         refine s_end (x_normal (x_condb (b := (!(storeOk x1.d.cells))) (F57.ev 30 rfl) (fun h59 => ?_) (fun h59 => ?_)))
         · skip
           refine wp_seq (wp_region_lit (l_op (f_val F57 rfl rfl (r_assign rfl rfl) rfl fun _ F60 => ?_)))
           have F61 : Fr 45 [(2, .bool false)] _ := F60.cut rfl
           clear F57 F60
           refine s_end (x_normal (wp_ret (x_block_ret (x_then_ret (x_then_ret (x_block_ret (x_then_ret ?_)))))))
           refine x_done (v := .bool false) F61 (results_1 Try.results58 (.tmp (F61.ev 2 rfl))) ?_
           exact ⟨(by rw [(show false = (diskOk (d.slots.map SlotH.d) d.journal) from by first | exact dk_bad hx1 (by first | exact sb_3 (by assumption) (by assumption) | exact sb_4 (by assumption) (by assumption)) | exact dk_bad hx2 (by first | exact sb_3 (by assumption) (by assumption) | exact sb_4 (by assumption) (by assumption)) | exact dk_bad hx3 (by first | exact sb_3 (by assumption) (by assumption) | exact sb_4 (by assumption) (by assumption)) | exact dk_len ln_d_slots (by assumption) | exact dk_best (by assumption) | exact dk_done2 ln_d_slots (by assumption) (by assumption) (fun i hi c hc => hk_1 i (by omega) c hc))]), (Mv.pick (T5.trans (S8.trans (S24.trans (T28.trans (S35.trans T58))))) [] rfl)⟩
         · skip
           refine wp_skip (x_block_normal (x_normal (wp_region_lit (l_op (f_mv F57 rfl rfl rfl rfl rfl fun _ F62 => ?_)))))
           refine l_op (f_val F62 rfl rfl (r_add (z := ((k + 1 : Nat) : Int)) rfl (F62.ev 10 rfl) rfl (by first | rfl | omega) ⟨by first | omega | (unfold i64ok at *; omega), by first | omega | (unfold i64ok at *; omega)⟩) rfl fun _ F63 => ?_)
           refine l_op (f_as F63 rfl rfl rfl rfl rfl fun _ F64 => ?_)
           have F65 : Fr 45 [(3, .int .i64 ((k + 1 : Nat) : Int)), (1, .pointer (some ⟨b1, 0, none⟩))] _ := F64.cut rfl
           clear F57 F62 F63 F64
           refine s_end ?_
           refine x_normal ⟨k + 1, by omega, F65.cut rfl, ((S8.trans (S24.trans (T28.trans (S35.trans T58)))).pick [1] rfl), by omega, by first | (exact all_stepP hk_1 (fun c hc => by obtain rfl := Option.some.inj (hx1.symm.trans hc); first | exact sb_1 (by assumption) | exact sb_2 (by assumption) (by assumption))) | (exact all_stepP hk_1 (fun c hc => by obtain rfl := Option.some.inj (hx2.symm.trans hc); first | exact sb_1 (by assumption) | exact sb_2 (by assumption) (by assumption))) | (exact all_stepP hk_1 (fun c hc => by obtain rfl := Option.some.inj (hx3.symm.trans hc); first | exact sb_1 (by assumption) | exact sb_2 (by assumption) (by assumption)))⟩
     · rw [h32] at F31
       refine l_op (f_skip F31 (wanted_g F31 rfl rfl rfl rfl) rfl rfl fun _ F66 => ?_)
       refine l_op (f_skip F66 (wanted_g F66 rfl rfl rfl rfl) rfl rfl fun _ F67 => ?_)
       refine l_op (f_skip F67 (wanted_g F67 rfl rfl rfl rfl) rfl rfl fun _ F68 => ?_)
       refine l_op (f_skip F68 (wanted_g F68 rfl rfl rfl rfl) rfl rfl fun _ F69 => ?_)
       refine l_op (f_skip F69 (wanted_g F69 rfl rfl rfl rfl) rfl rfl fun _ F70 => ?_)
       refine l_op (f_skip F70 (wanted_u F70 rfl rfl rfl) rfl rfl fun _ F71 => ?_)
       refine l_op (f_skip F71 (wanted_u F71 rfl rfl rfl) rfl rfl fun _ F72 => ?_)
       refine l_op (f_skip F72 (wanted_u F72 rfl rfl rfl) rfl rfl fun _ F73 => ?_)
       refine l_op (f_skip F73 (wanted_u F73 rfl rfl rfl) rfl rfl fun _ F74 => ?_)
       refine l_op (f_skip F74 (wanted_g F74 rfl rfl rfl rfl) rfl rfl fun _ F75 => ?_)
       refine l_op (f_val F75 rfl rfl (r_pick (b := false) rfl (F75.ev 19 rfl) rfl) rfl fun _ F76 => ?_)
       have F77 : Fr 45 [(30, .bool false), (3, .int .i64 ((k : Nat) : Int)), (1, .pointer (some ⟨b1, 0, none⟩))] _ := F76.cut rfl
       clear F27 F29 F30 F31 F66 F67 F68 F69 F70 F71 F72 F73 F74 F75 F76
       refine s_end (x_normal (wp_cond_false (F77.ev 30 rfl) (wp_skip (x_block_normal (x_normal (wp_region_lit (l_op (f_mv F77 rfl rfl rfl rfl rfl fun _ F78 => ?_))))))))
       refine l_op (f_val F78 rfl rfl (r_add (z := ((k + 1 : Nat) : Int)) rfl (F78.ev 10 rfl) rfl (by first | rfl | omega) ⟨by first | omega | (unfold i64ok at *; omega), by first | omega | (unfold i64ok at *; omega)⟩) rfl fun _ F79 => ?_)
       refine l_op (f_as F79 rfl rfl rfl rfl rfl fun _ F80 => ?_)
       have F81 : Fr 45 [(3, .int .i64 ((k + 1 : Nat) : Int)), (1, .pointer (some ⟨b1, 0, none⟩))] _ := F80.cut rfl
       clear F77 F78 F79 F80
       refine s_end ?_
       refine x_normal ⟨k + 1, by omega, F81.cut rfl, ((S8.trans (S24.trans T28)).pick [1] rfl), by omega, by first | (exact all_stepP hk_1 (fun c hc => by obtain rfl := Option.some.inj (hx1.symm.trans hc); first | exact sb_1 (by assumption) | exact sb_2 (by assumption) (by assumption))) | (exact all_stepP hk_1 (fun c hc => by obtain rfl := Option.some.inj (hx2.symm.trans hc); first | exact sb_1 (by assumption) | exact sb_2 (by assumption) (by assumption))) | (exact all_stepP hk_1 (fun c hc => by obtain rfl := Option.some.inj (hx3.symm.trans hc); first | exact sb_1 (by assumption) | exact sb_2 (by assumption) (by assumption)))⟩
   · skip
     refine wp_exit (x_then_exit (x_then_exit (x_block_here (x_normal (wp_seq (wp_region_lit (l_op (f_val F14 rfl rfl (r_field FI_32_0 rfl (F14.ev 1 rfl) rfl) rfl fun _ F82 => ?_))))))))
     refine l_op (f_val (v := .slice d_slots_a d_slots_n d_slots_c) F82 rfl rfl (r_loadB S8.at' 0 TI_29 rfl rfl (F82.ev 31 rfl) rfl rfl (fun _ => rfl) rfl) rfl fun _ F83 => ?_)
     refine l_op (f_val F83 rfl rfl (r_len Try.underlying29 rfl (F83.ev 32 rfl)) rfl fun _ F84 => ?_)
     refine l_op (f_val F84 rfl rfl (r_cmp (b := decide (d_slots_n = 2)) (.inl rfl) rfl (F84.ev 33 rfl) rfl (dec_of (by omega))) rfl fun _ F85 => ?_)
     refine l_op (f_mv F85 rfl rfl rfl rfl rfl fun _ F86 => ?_)
     rcases Decidable.em (d_slots_n = 2) with h87 | h87
     · rw [decide_eq_true h87] at F86
       refine l_op (f_val (v := .agg #[.slice d_slots_a d_slots_n d_slots_c, .string d.journal.text, .int .i64 d.journal.sure]) F86 (wanted_g F86 rfl rfl rfl rfl) rfl (r_loadB S8.at' 0 TI_32 rfl rfl (F86.ev 1 rfl) rfl rfl (fun h => nomatch h) rfl) rfl fun _ F88 => ?_)
       refine l_op (f_call F88 CF_118 (wanted_g F88 rfl rfl rfl rfl) rfl rfl rfl (lc (F88.ev 36 rfl) rfl) (spec_BestSlot_c (d := d) (Rd.mv (Nat.succ_pos _) V_v_d_slots (T5.trans S8)) (NRd.mv V_u_d_slots (T5.trans S8)) h_d_journal_text (by first | assumption | exact ⟨by omega, by omega⟩ | (unfold i64ok at *; omega) | (simp only [i64ok]; omega))) ?_)
       rintro _ w89 ⟨rfl, m89, q89_0⟩
       refine ⟨_, rfl, fun _ F90 => ?_⟩
       have S89 := At.frame0 S8.at' m89
       clear m89
       refine l_op (f_val F90 (wanted_g F90 rfl rfl rfl rfl) rfl (r_cmp (b := decide ((bestTo (d.slots.map SlotH.d) d.slots.length) ≥ 0)) (.inr (.inr (.inr (.inr (.inr rfl))))) rfl (F90.ev 37 rfl) rfl (dec_of (by omega))) rfl fun _ F91 => ?_)
       refine l_op (f_val F91 rfl rfl (r_pick (b := true) rfl (F91.ev 35 rfl) (F91.ev 38 rfl)) rfl fun _ F92 => ?_)
       refine l_op (f_mv F92 rfl rfl rfl rfl rfl fun _ F93 => ?_)
       rcases Decidable.em ((bestTo (d.slots.map SlotH.d) d.slots.length) ≥ 0) with h94 | h94
       · rw [decide_eq_true h94] at F93
         refine l_op (f_val F93 (wanted_g F93 rfl rfl rfl rfl) rfl (r_field FI_32_1 rfl (F93.ev 1 rfl) rfl) rfl fun _ F95 => ?_)
         refine l_op (f_val (v := .agg #[.string d.journal.text, .int .i64 d.journal.sure]) F95 (wanted_g F95 rfl rfl rfl rfl) rfl (r_loadB S89.at' 0 TI_30 rfl rfl (F95.ev 41 rfl) rfl rfl (fun h => nomatch h) rfl) rfl fun _ F96 => ?_)
         refine l_op (f_call F96 CF_119 (wanted_g F96 rfl rfl rfl rfl) rfl rfl rfl (lc (F96.ev 42 rfl) rfl) (spec_JournalOk_c (H := fun _ => True) (j := d.journal) h_d_journal_text (by first | assumption | exact ⟨by omega, by omega⟩ | (unfold i64ok at *; omega) | (simp only [i64ok]; omega))) ?_)
         rintro _ w97 ⟨rfl, m97⟩
         refine ⟨_, rfl, fun _ F98 => ?_⟩
         have S97 := At.frame0 S89.at' m97
         clear m97
         refine l_op (f_val F98 rfl rfl (r_pick (b := true) rfl (F98.ev 40 rfl) (F98.ev 43 rfl)) rfl fun _ F99 => ?_)
         refine l_op (f_as F99 rfl rfl rfl rfl rfl fun _ F100 => ?_)
         have F101 : Fr 45 [(2, .bool (jouOk d.journal))] _ := F100.cut rfl
         clear F14 F82 F83 F84 F85 F86 F88 F90 F91 F92 F93 F95 F96 F98 F99 F100
         have T102 : Mv _ _ [bx b1 [.slice d_slots_a d_slots_n d_slots_c, .string d.journal.text, .int .i64 d.journal.sure] 32] _ := S97
         refine s_end (x_normal (wp_ret ?_))
         refine x_done (v := .bool (jouOk d.journal)) F101 (results_1 Try.results58 (.tmp (F101.ev 2 rfl))) ?_
         exact ⟨(by rw [(show (jouOk d.journal) = (diskOk (d.slots.map SlotH.d) d.journal) from by first | exact dk_bad hx1 (by first | exact sb_3 (by assumption) (by assumption) | exact sb_4 (by assumption) (by assumption)) | exact dk_bad hx2 (by first | exact sb_3 (by assumption) (by assumption) | exact sb_4 (by assumption) (by assumption)) | exact dk_bad hx3 (by first | exact sb_3 (by assumption) (by assumption) | exact sb_4 (by assumption) (by assumption)) | exact dk_len ln_d_slots (by assumption) | exact dk_best (by assumption) | exact dk_done2 ln_d_slots (by assumption) (by assumption) (fun i hi c hc => hk_1 i (by omega) c hc))]), (Mv.pick (T5.trans (S8.trans (S89.trans T102))) [] rfl)⟩
       · rw [decide_eq_false h94] at F93
         refine l_op (f_skip F93 (wanted_g F93 rfl rfl rfl rfl) rfl rfl fun _ F103 => ?_)
         refine l_op (f_skip F103 (wanted_g F103 rfl rfl rfl rfl) rfl rfl fun _ F104 => ?_)
         refine l_op (f_skip F104 (wanted_g F104 rfl rfl rfl rfl) rfl rfl fun _ F105 => ?_)
         refine l_op (f_val F105 rfl rfl (r_pick (b := false) rfl (F105.ev 40 rfl) rfl) rfl fun _ F106 => ?_)
         refine l_op (f_as F106 rfl rfl rfl rfl rfl fun _ F107 => ?_)
         have F108 : Fr 45 [(2, .bool false)] _ := F107.cut rfl
         clear F14 F82 F83 F84 F85 F86 F88 F90 F91 F92 F93 F103 F104 F105 F106 F107
         have T109 : Mv _ _ [bx b1 [.slice d_slots_a d_slots_n d_slots_c, .string d.journal.text, .int .i64 d.journal.sure] 32] _ := S89
         refine s_end (x_normal (wp_ret ?_))
         refine x_done (v := .bool false) F108 (results_1 Try.results58 (.tmp (F108.ev 2 rfl))) ?_
         exact ⟨(by rw [(show false = (diskOk (d.slots.map SlotH.d) d.journal) from by first | exact dk_bad hx1 (by first | exact sb_3 (by assumption) (by assumption) | exact sb_4 (by assumption) (by assumption)) | exact dk_bad hx2 (by first | exact sb_3 (by assumption) (by assumption) | exact sb_4 (by assumption) (by assumption)) | exact dk_bad hx3 (by first | exact sb_3 (by assumption) (by assumption) | exact sb_4 (by assumption) (by assumption)) | exact dk_len ln_d_slots (by assumption) | exact dk_best (by assumption) | exact dk_done2 ln_d_slots (by assumption) (by assumption) (fun i hi c hc => hk_1 i (by omega) c hc))]), (Mv.pick (T5.trans (S8.trans T109)) [] rfl)⟩
     · rw [decide_eq_false h87] at F86
       refine l_op (f_skip F86 (wanted_g F86 rfl rfl rfl rfl) rfl rfl fun _ F110 => ?_)
       refine l_op (f_skip F110 (wanted_g F110 rfl rfl rfl rfl) rfl rfl fun _ F111 => ?_)
       refine l_op (f_skip F111 (wanted_g F111 rfl rfl rfl rfl) rfl rfl fun _ F112 => ?_)
       refine l_op (f_val F112 rfl rfl (r_pick (b := false) rfl (F112.ev 35 rfl) rfl) rfl fun _ F113 => ?_)
       refine l_op (f_mv F113 rfl rfl rfl rfl rfl fun _ F114 => ?_)
       refine l_op (f_skip F114 (wanted_g F114 rfl rfl rfl rfl) rfl rfl fun _ F115 => ?_)
       refine l_op (f_skip F115 (wanted_g F115 rfl rfl rfl rfl) rfl rfl fun _ F116 => ?_)
       refine l_op (f_skip F116 (wanted_g F116 rfl rfl rfl rfl) rfl rfl fun _ F117 => ?_)
       refine l_op (f_val F117 rfl rfl (r_pick (b := false) rfl (F117.ev 40 rfl) rfl) rfl fun _ F118 => ?_)
       refine l_op (f_as F118 rfl rfl rfl rfl rfl fun _ F119 => ?_)
       have F120 : Fr 45 [(2, .bool false)] _ := F119.cut rfl
       clear F14 F82 F83 F84 F85 F86 F110 F111 F112 F113 F114 F115 F116 F117 F118 F119
       refine s_end (x_normal (wp_ret ?_))
       refine x_done (v := .bool false) F120 (results_1 Try.results58 (.tmp (F120.ev 2 rfl))) ?_
       exact ⟨(by rw [(show false = (diskOk (d.slots.map SlotH.d) d.journal) from by first | exact dk_bad hx1 (by first | exact sb_3 (by assumption) (by assumption) | exact sb_4 (by assumption) (by assumption)) | exact dk_bad hx2 (by first | exact sb_3 (by assumption) (by assumption) | exact sb_4 (by assumption) (by assumption)) | exact dk_bad hx3 (by first | exact sb_3 (by assumption) (by assumption) | exact sb_4 (by assumption) (by assumption)) | exact dk_len ln_d_slots (by assumption) | exact dk_best (by assumption) | exact dk_done2 ln_d_slots (by assumption) (by assumption) (fun i hi c hc => hk_1 i (by omega) c hc))]), (Mv.pick (T5.trans S8) [] rfl)⟩
theorem impl_DiskOk_c {w : World} {H : Nat → Prop} {d : DiskH} {d_slots_a : Option Addr} {d_slots_n d_slots_c : Nat} (v_d_slots : Rd 3 encSlot okSlot H w (.slice d_slots_a d_slots_n d_slots_c) d.slots) (u_d_slots : NRd inSlot H w d.slots) (h_d_journal_text : okS d.journal.text) (h_d_journal_sure : i64ok d.journal.sure) :
    Calls Try.prog 63 #[.agg #[.slice d_slots_a d_slots_n d_slots_c, .string d.journal.text, .int .i64 d.journal.sure]] w fun e w' => e = .returned (.bool (diskOk (d.slots.map SlotH.d) d.journal)) ∧ Mv [] w [] w' := by
 have uU : True := (fun _ => trivial) h_d_journal_sure
 clear uU
 have V_v_d_slots : Rd 3 encSlot okSlot (V H w []) w (.slice d_slots_a d_slots_n d_slots_c) d.slots := Rd.start v_d_slots (fun _ _ => fps_nil _)
 obtain ⟨ln_d_slots, le_d_slots, mx_d_slots, ni_d_slots⟩ := Rd.inv v_d_slots
 have V_u_d_slots : NRd inSlot (V H w []) w d.slots := NRd.start u_d_slots (fun _ _ => fps_nil _)
 refine calls_enter 50 Try.func63 rfl Try.ntmps63 (Nat.le_of_ble_eq_true rfl) (fun _ F0i => ?_)
 have F0 : Fr 50 [(0, .agg #[.slice d_slots_a d_slots_n d_slots_c, .string d.journal.text, .int .i64 d.journal.sure])] _ := F0i
 clear F0i
 refine wp_seq (wp_region_lit (l_op (f_box F0 (At.nil w) rfl rfl rfl (F0.ev 0 rfl) rfl rfl fun b1 _ w1 F2 S1 => ?_)))
 refine l_op (f_val F2 rfl rfl (r_assign rfl rfl) rfl fun _ F3 => ?_)
 have F4 : Fr 50 [(2, .bool false), (1, .pointer (some ⟨b1, 0, none⟩))] _ := F3.cut rfl
 clear F0 F2 F3
 have T5 : Mv _ _ [bx b1 [.slice d_slots_a d_slots_n d_slots_c, .string d.journal.text, .int .i64 d.journal.sure] 32] _ := S1
 refine s_end (x_normal (wp_seq (wp_seq (wp_region_lit (l_op (f_val F4 rfl rfl (r_field FI_32_0 rfl (F4.ev 1 rfl) rfl) rfl fun _ F6 => ?_))))))
 refine l_op (f_val (v := .slice d_slots_a d_slots_n d_slots_c) F6 rfl rfl (r_loadB T5.at' 0 TI_29 rfl rfl (F6.ev 5 rfl) rfl rfl (fun _ => rfl) rfl) rfl fun _ F7 => ?_)
 refine l_op (f_val F7 rfl rfl (r_len Try.underlying29 rfl (F7.ev 6 rfl)) rfl fun _ F8 => ?_)
 refine l_op (f_val F8 rfl rfl (r_cmp (b := decide (d_slots_n ≠ 2)) (.inr (.inl rfl)) rfl (F8.ev 7 rfl) rfl (dec_of (by omega))) rfl fun _ F9 => ?_)
 refine l_op (f_mv F9 rfl rfl rfl rfl rfl fun _ F10 => ?_)
 rcases Decidable.em (d_slots_n ≠ 2) with h11 | h11
 · rw [decide_eq_true h11] at F10
   refine l_op (f_skip F10 (wanted_g F10 rfl rfl rfl rfl) rfl rfl fun _ F12 => ?_)
   refine l_op (f_skip F12 (wanted_g F12 rfl rfl rfl rfl) rfl rfl fun _ F13 => ?_)
   refine l_op (f_skip F13 (wanted_g F13 rfl rfl rfl rfl) rfl rfl fun _ F14 => ?_)
   refine l_op (f_skip F14 (wanted_g F14 rfl rfl rfl rfl) rfl rfl fun _ F15 => ?_)
   refine l_op (f_skip F15 (wanted_g F15 rfl rfl rfl rfl) rfl rfl fun _ F16 => ?_)
   refine l_op (f_skip F16 (wanted_g F16 rfl rfl rfl rfl) rfl rfl fun _ F17 => ?_)
   refine l_op (f_skip F17 (wanted_g F17 rfl rfl rfl rfl) rfl rfl fun _ F18 => ?_)
   refine l_op (f_skip F18 (wanted_u F18 rfl rfl rfl) rfl rfl fun _ F19 => ?_)
   refine l_op (f_skip F19 (wanted_u F19 rfl rfl rfl) rfl rfl fun _ F20 => ?_)
   refine l_op (f_skip F20 (wanted_u F20 rfl rfl rfl) rfl rfl fun _ F21 => ?_)
   refine l_op (f_skip F21 (wanted_u F21 rfl rfl rfl) rfl rfl fun _ F22 => ?_)
   refine l_op (f_skip F22 (wanted_u F22 rfl rfl rfl) rfl rfl fun _ F23 => ?_)
   refine l_op (f_skip F23 (wanted_u F23 rfl rfl rfl) rfl rfl fun _ F24 => ?_)
   refine l_op (f_skip F24 (wanted_g F24 rfl rfl rfl rfl) rfl rfl fun _ F25 => ?_)
   refine l_op (f_val F25 rfl rfl (r_pick (b := true) rfl (F25.ev 9 rfl) rfl) rfl fun _ F26 => ?_)
   have F27 : Fr 50 [(24, .bool true), (1, .pointer (some ⟨b1, 0, none⟩))] _ := F26.cut rfl
   clear F4 F6 F7 F8 F9 F10 F12 F13 F14 F15 F16 F17 F18 F19 F20 F21 F22 F23 F24 F25 F26
   refine s_end (x_normal (wp_cond_true (F27.ev 24 rfl) (wp_seq (wp_region_lit (l_op (f_val F27 rfl rfl (r_assign rfl rfl) rfl fun _ F28 => ?_))))))
   have F29 : Fr 50 [(2, .bool false)] _ := F28.cut rfl
   clear F27 F28
   refine s_end (x_normal (wp_ret (x_then_ret ?_)))
   refine x_done (v := .bool false) F29 (results_1 Try.results63 (.tmp (F29.ev 2 rfl))) ?_
   exact ⟨(by rw [(show false = (diskOk (d.slots.map SlotH.d) d.journal) from by first | exact dk_bad hx1 (by first | exact sb_3 (by assumption) (by assumption) | exact sb_4 (by assumption) (by assumption)) | exact dk_bad hx2 (by first | exact sb_3 (by assumption) (by assumption) | exact sb_4 (by assumption) (by assumption)) | exact dk_bad hx3 (by first | exact sb_3 (by assumption) (by assumption) | exact sb_4 (by assumption) (by assumption)) | exact dk_len ln_d_slots (by assumption) | exact dk_no ln_d_slots (by assumption) hx1 hx2 (nt (by assumption)) (nt (by assumption)) | exact dk_done ln_d_slots (by omega) (any_at hx1 (nf (by assumption))) (fun i hi c hc => hk_1 i (by omega) c hc) | exact dk_done ln_d_slots (by omega) (any_at hx2 (nf (by assumption))) (fun i hi c hc => hk_1 i (by omega) c hc))]), (Mv.pick T5 [] rfl)⟩
 · rw [decide_eq_false h11] at F10
   refine l_op (f_val F10 (wanted_g F10 rfl rfl rfl rfl) rfl (r_field FI_32_0 rfl (F10.ev 1 rfl) rfl) rfl fun _ F30 => ?_)
   refine l_op (f_val (v := .slice d_slots_a d_slots_n d_slots_c) F30 (wanted_g F30 rfl rfl rfl rfl) rfl (r_loadB T5.at' 0 TI_29 rfl rfl (F30.ev 10 rfl) rfl rfl (fun _ => rfl) rfl) rfl fun _ F31 => ?_)
   obtain ⟨B32, O32, x1, ad32, hx1, okx1, ln32, cl32⟩ := Rd.at (Rd.mv (Nat.succ_pos _) V_v_d_slots T5) 0 (by first | assumption | omega)
   clear ln32
   have oj33 := okx1
   unfold okSlot at oj33
   have VI34 : Rd 2 encC okC (V H w [bx b1 [.slice d_slots_a d_slots_n d_slots_c, .string d.journal.text, .int .i64 d.journal.sure] 32]) w1 (.slice x1.a0 x1.n0 x1.c0) x1.d.cells := NRd.get (NRd.mv V_u_d_slots T5) hx1 (j := 0) rfl
   obtain ⟨ln34, le34, mx34, ni34⟩ := Rd.inv VI34
   refine l_op (f_val F31 (wanted_g F31 rfl rfl rfl rfl) rfl (r_indexAddr (i := 0) ET_29 rfl ((F31.ev 11 rfl).trans (by rw [ad32])) rfl (by omega) (by first | assumption | omega)) rfl fun _ F35 => ?_)
   refine l_op (f_val F35 (wanted_g F35 rfl rfl rfl rfl) rfl (r_field FI_99_2 rfl (F35.ev 12 rfl) rfl) rfl fun _ F36 => ?_)
   refine l_op (f_val (v := .bool x1.d.whole) F36 (wanted_g F36 rfl rfl rfl rfl) rfl (r_load (cs := [.bool x1.d.whole]) TI_4 rfl (F36.ev 13 rfl) rfl (fun _ => rfl) (elem_sub (f := 2) cl32 [.bool x1.d.whole] rfl)) rfl fun _ F37 => ?_)
   refine l_op (f_val F37 (wanted_g F37 rfl rfl rfl rfl) rfl (r_not rfl (F37.ev 14 rfl)) rfl fun _ F38 => ?_)
   refine l_op (f_mv F38 (wanted_g F38 rfl rfl rfl rfl) rfl rfl rfl rfl fun _ F39 => ?_)
   rcases Bool.eq_false_or_eq_true (!x1.d.whole) with h40 | h40
   · rw [h40] at F39
     refine l_op (f_val F39 (wanted_g F39 rfl rfl rfl rfl) rfl (r_field FI_32_0 rfl (F39.ev 1 rfl) rfl) rfl fun _ F41 => ?_)
     refine l_op (f_val (v := .slice d_slots_a d_slots_n d_slots_c) F41 (wanted_g F41 rfl rfl rfl rfl) rfl (r_loadB T5.at' 0 TI_29 rfl rfl (F41.ev 17 rfl) rfl rfl (fun _ => rfl) rfl) rfl fun _ F42 => ?_)
     obtain ⟨B43, O43, x2, ad43, hx2, okx2, ln43, cl43⟩ := Rd.at (Rd.mv (Nat.succ_pos _) V_v_d_slots T5) 1 (by first | assumption | omega)
     clear ln43
     have oj44 := okx2
     unfold okSlot at oj44
     have VI45 : Rd 2 encC okC (V H w [bx b1 [.slice d_slots_a d_slots_n d_slots_c, .string d.journal.text, .int .i64 d.journal.sure] 32]) w1 (.slice x2.a0 x2.n0 x2.c0) x2.d.cells := NRd.get (NRd.mv V_u_d_slots T5) hx2 (j := 0) rfl
     obtain ⟨ln45, le45, mx45, ni45⟩ := Rd.inv VI45
     refine l_op (f_val F42 (wanted_g F42 rfl rfl rfl rfl) rfl (r_indexAddr (i := 1) ET_29 rfl ((F42.ev 18 rfl).trans (by rw [ad43])) rfl (by omega) (by first | assumption | omega)) rfl fun _ F46 => ?_)
     refine l_op (f_val F46 (wanted_g F46 rfl rfl rfl rfl) rfl (r_field FI_99_2 rfl (F46.ev 19 rfl) rfl) rfl fun _ F47 => ?_)
     refine l_op (f_val (v := .bool x2.d.whole) F47 (wanted_g F47 rfl rfl rfl rfl) rfl (r_load (cs := [.bool x2.d.whole]) TI_4 rfl (F47.ev 20 rfl) rfl (fun _ => rfl) (elem_sub (f := 2) cl43 [.bool x2.d.whole] rfl)) rfl fun _ F48 => ?_)
     refine l_op (f_val F48 (wanted_g F48 rfl rfl rfl rfl) rfl (r_not rfl (F48.ev 21 rfl)) rfl fun _ F49 => ?_)
     refine l_op (f_val F49 (wanted_g F49 rfl rfl rfl rfl) rfl (r_pick (b := true) rfl (F49.ev 16 rfl) (F49.ev 22 rfl)) rfl fun _ F50 => ?_)
     refine l_op (f_val F50 rfl rfl (r_pick (b := false) rfl (F50.ev 9 rfl) (F50.ev 23 rfl)) rfl fun _ F51 => ?_)
     have F52 : Fr 50 [(24, .bool (!x2.d.whole)), (1, .pointer (some ⟨b1, 0, none⟩))] _ := F51.cut rfl
     clear F4 F6 F7 F8 F9 F10 F30 F31 F35 F36 F37 F38 F39 F41 F42 F46 F47 F48 F49 F50 F51
     refine s_end (x_normal (x_condb (b := (!x2.d.whole)) (F52.ev 24 rfl) (fun h53 => ?_) (fun h53 => ?_)))
     · skip
       refine wp_seq (wp_region_lit (l_op (f_val F52 rfl rfl (r_assign rfl rfl) rfl fun _ F54 => ?_)))
       have F55 : Fr 50 [(2, .bool false)] _ := F54.cut rfl
       clear F52 F54
       refine s_end (x_normal (wp_ret (x_then_ret ?_)))
       refine x_done (v := .bool false) F55 (results_1 Try.results63 (.tmp (F55.ev 2 rfl))) ?_
       exact ⟨(by rw [(show false = (diskOk (d.slots.map SlotH.d) d.journal) from by first | exact dk_bad hx1 (by first | exact sb_3 (by assumption) (by assumption) | exact sb_4 (by assumption) (by assumption)) | exact dk_bad hx2 (by first | exact sb_3 (by assumption) (by assumption) | exact sb_4 (by assumption) (by assumption)) | exact dk_bad hx3 (by first | exact sb_3 (by assumption) (by assumption) | exact sb_4 (by assumption) (by assumption)) | exact dk_len ln_d_slots (by assumption) | exact dk_no ln_d_slots (by assumption) hx1 hx2 (nt (by assumption)) (nt (by assumption)) | exact dk_done ln_d_slots (by omega) (any_at hx1 (nf (by assumption))) (fun i hi c hc => hk_1 i (by omega) c hc) | exact dk_done ln_d_slots (by omega) (any_at hx2 (nf (by assumption))) (fun i hi c hc => hk_1 i (by omega) c hc))]), (Mv.pick T5 [] rfl)⟩
     · skip
       refine wp_skip (x_normal (wp_seq (wp_seq (wp_region_lit (l_op (f_val F52 rfl rfl (r_field FI_32_0 rfl (F52.ev 1 rfl) rfl) rfl fun _ F56 => ?_))))))
       refine l_op (f_val (v := .slice d_slots_a d_slots_n d_slots_c) F56 rfl rfl (r_loadB T5.at' 0 TI_29 rfl rfl (F56.ev 25 rfl) rfl rfl (fun _ => rfl) rfl) rfl fun _ F57 => ?_)
       refine l_op (f_val F57 rfl rfl (r_len Try.underlying29 rfl (F57.ev 26 rfl)) rfl fun _ F58 => ?_)
       refine l_op (f_val F58 rfl rfl (r_move rfl rfl) rfl fun _ F59 => ?_)
       have F60 : Fr 50 [(28, .int .i64 0), (27, .int .i64 ((d_slots_n : Nat) : Int)), (26, .slice d_slots_a d_slots_n d_slots_c), (1, .pointer (some ⟨b1, 0, none⟩))] _ := F59.cut rfl
       clear F52 F56 F57 F58 F59
       refine s_end (x_normal (wp_block ?_))
       refine x_loop (fun (k : Nat) aZ wZ => Fr 50 [(28, .int .i64 ((k : Nat) : Int)), (27, .int .i64 ((d_slots_n : Nat) : Int)), (26, .slice d_slots_a d_slots_n d_slots_c), (1, .pointer (some ⟨b1, 0, none⟩))] aZ ∧ Mv [bx b1 [.slice d_slots_a d_slots_n d_slots_c, .string d.journal.text, .int .i64 d.journal.sure] 32] w1 [bx b1 [.slice d_slots_a d_slots_n d_slots_c, .string d.journal.text, .int .i64 d.journal.sure] 32] wZ ∧ (k ≤ d_slots_n) ∧ (∀ j, j < k → ∀ c, nth d.slots j = some c → slotBad c.d = false)) (fun (k : Nat) => d_slots_n - k) (0) ?_ ?_
       · exact ⟨F60.cut rfl, (Mv.refl T5.at'), by omega, all_none'⟩
       · rintro k a61 w61 ⟨F61, S61, hk_0, hk_1⟩
         refine wp_seq (wp_region_lit (l_op (f_val F61 rfl rfl (r_cmp (b := decide (k < d_slots_n)) (.inr (.inr (.inl rfl))) rfl (F61.ev 28 rfl) (F61.ev 27 rfl) (dec_of (by omega))) rfl fun _ F62 => ?_)))
         have F63 : Fr 50 [(29, .bool (decide (k < d_slots_n))), (28, .int .i64 ((k : Nat) : Int)), (27, .int .i64 ((d_slots_n : Nat) : Int)), (26, .slice d_slots_a d_slots_n d_slots_c), (1, .pointer (some ⟨b1, 0, none⟩))] _ := F62.cut rfl
         clear F61 F62
         refine s_end (x_normal (wp_seq (x_cond (p := k < d_slots_n) (F63.ev 29 rfl) (fun h64 => ?_) (fun h64 => ?_))))
         · skip
           refine wp_skip (x_normal (wp_seq (wp_block (wp_seq (wp_region_lit ?_)))))
           obtain ⟨B65, O65, x3, ad65, hx3, okx3, ln65, cl65⟩ := Rd.at (Rd.mv (Nat.succ_pos _) V_v_d_slots (T5.trans S61)) k (by first | assumption | omega)
           clear ln65
           have oj66 := okx3
           unfold okSlot at oj66
           have VI67 : Rd 2 encC okC (V H w [bx b1 [.slice d_slots_a d_slots_n d_slots_c, .string d.journal.text, .int .i64 d.journal.sure] 32]) w61 (.slice x3.a0 x3.n0 x3.c0) x3.d.cells := NRd.get (NRd.mv V_u_d_slots (T5.trans S61)) hx3 (j := 0) rfl
           obtain ⟨ln67, le67, mx67, ni67⟩ := Rd.inv VI67
           refine l_op (f_val F63 rfl rfl (r_indexAddr (i := k) ET_29 rfl ((F63.ev 26 rfl).trans (by rw [ad65])) (F63.ev 28 rfl) (by omega) (by first | assumption | omega)) rfl fun _ F68 => ?_)
           refine l_op (f_val (v := .agg #[.int .i64 x3.d.seq, .slice x3.a0 x3.n0 x3.c0, .bool x3.d.whole]) F68 rfl rfl (r_load (cs := [.int .i64 x3.d.seq, .slice x3.a0 x3.n0 x3.c0, .bool x3.d.whole]) TI_99 rfl (F68.ev 30 rfl) rfl (fun h => nomatch h) (elem_sub (f := 0) cl65 [.int .i64 x3.d.seq, .slice x3.a0 x3.n0 x3.c0, .bool x3.d.whole] rfl)) rfl fun _ F69 => ?_)
           refine l_op (f_alloc F69 S61.at' ZI_99 rfl rfl rfl rfl rfl fun b70 _ w70 F71 S70 => ?_)
           refine l_op (s_store S70.at' 0 TI_99 rfl rfl rfl rfl rfl (F71.ev 4 rfl) (F71.ev 31 rfl) rfl rfl rfl rfl rfl fun w72 S72 => ?_)
           have F73 : Fr 50 [(4, .pointer (some ⟨b70, 0, none⟩)), (31, .agg #[.int .i64 x3.d.seq, .slice x3.a0 x3.n0 x3.c0, .bool x3.d.whole]), (28, .int .i64 ((k : Nat) : Int)), (27, .int .i64 ((d_slots_n : Nat) : Int)), (26, .slice d_slots_a d_slots_n d_slots_c), (1, .pointer (some ⟨b1, 0, none⟩))] _ := F71.cut rfl
           clear F63 F68 F69 F71
           have T74 : Mv _ _ [bx b70 [.int .i64 x3.d.seq, .slice x3.a0 x3.n0 x3.c0, .bool x3.d.whole] 99, bx b1 [.slice d_slots_a d_slots_n d_slots_c, .string d.journal.text, .int .i64 d.journal.sure] 32] _ := S72
           refine s_end (x_normal (wp_seq (wp_region_lit (l_op (f_val F73 rfl rfl (r_field FI_99_2 rfl (F73.ev 4 rfl) rfl) rfl fun _ F75 => ?_)))))
           refine l_op (f_val (v := .bool x3.d.whole) F75 rfl rfl (r_loadB T74.at' 0 TI_4 rfl rfl (F75.ev 32 rfl) rfl rfl (fun _ => rfl) rfl) rfl fun _ F76 => ?_)
           refine l_op (f_mv F76 rfl rfl rfl rfl rfl fun _ F77 => ?_)
           rcases Bool.eq_false_or_eq_true x3.d.whole with h78 | h78
           · rw [h78] at F77
             refine l_op (f_val F77 (wanted_g F77 rfl rfl rfl rfl) rfl (r_field FI_99_0 rfl (F77.ev 4 rfl) rfl) rfl fun _ F79 => ?_)
             refine l_op (f_val (v := .int .i64 x3.d.seq) F79 (wanted_g F79 rfl rfl rfl rfl) rfl (r_loadB T74.at' 0 TI_3 rfl rfl (F79.ev 35 rfl) rfl rfl (fun _ => rfl) rfl) rfl fun _ F80 => ?_)
             refine l_op (f_call F80 CF_65 (wanted_g F80 rfl rfl rfl rfl) rfl rfl rfl (lc (F80.ev 36 rfl) (lc rfl (lc rfl rfl))) (impl_within_c (H := fun _ => True) (n := x3.d.seq) (low := 0) (high := 99999) (by first | assumption | exact ⟨by omega, by omega⟩ | (unfold i64ok at *; omega)) (by first | assumption | exact ⟨by omega, by omega⟩ | (unfold i64ok at *; omega)) (by first | assumption | exact ⟨by omega, by omega⟩ | (unfold i64ok at *; omega))) ?_)
             rintro _ w81 ⟨rfl, m81⟩
             refine ⟨_, rfl, fun _ F82 => ?_⟩
             have S81 := At.frame0 T74.at' m81
             clear m81
             refine l_op (f_val F82 (wanted_g F82 rfl rfl rfl rfl) rfl (r_not rfl (F82.ev 37 rfl)) rfl fun _ F83 => ?_)
             refine l_op (f_mv F83 (wanted_g F83 rfl rfl rfl rfl) rfl rfl rfl rfl fun _ F84 => ?_)
             rcases Bool.eq_false_or_eq_true (!(inB x3.d.seq 0 99999)) with h85 | h85
             · rw [h85] at F84
               refine l_op (f_skip F84 (wanted_g F84 rfl rfl rfl rfl) rfl rfl fun _ F86 => ?_)
               refine l_op (f_skip F86 (wanted_g F86 rfl rfl rfl rfl) rfl rfl fun _ F87 => ?_)
               refine l_op (f_skip F87 (wanted_g F87 rfl rfl rfl rfl) rfl rfl fun _ F88 => ?_)
               refine l_op (f_skip F88 (wanted_g F88 rfl rfl rfl rfl) rfl rfl fun _ F89 => ?_)
               refine l_op (f_val F89 (wanted_g F89 rfl rfl rfl rfl) rfl (r_pick (b := true) rfl (F89.ev 39 rfl) rfl) rfl fun _ F90 => ?_)
               refine l_op (f_val F90 rfl rfl (r_pick (b := true) rfl (F90.ev 34 rfl) (F90.ev 44 rfl)) rfl fun _ F91 => ?_)
               have F92 : Fr 50 [(45, .bool true), (28, .int .i64 ((k : Nat) : Int)), (27, .int .i64 ((d_slots_n : Nat) : Int)), (26, .slice d_slots_a d_slots_n d_slots_c), (1, .pointer (some ⟨b1, 0, none⟩))] _ := F91.cut rfl
               clear F73 F75 F76 F77 F79 F80 F82 F83 F84 F86 F87 F88 F89 F90 F91
               have T93 : Mv _ _ [bx b70 [.int .i64 x3.d.seq, .slice x3.a0 x3.n0 x3.c0, .bool x3.d.whole] 99, bx b1 [.slice d_slots_a d_slots_n d_slots_c, .string d.journal.text, .int .i64 d.journal.sure] 32] _ := S81
               refine s_end (x_normal (wp_cond_true (F92.ev 45 rfl) (wp_seq (wp_region_lit (l_op (f_val F92 rfl rfl (r_assign rfl rfl) rfl fun _ F94 => ?_))))))
               have F95 : Fr 50 [(2, .bool false)] _ := F94.cut rfl
               clear F92 F94
               refine s_end (x_normal (wp_ret (x_block_ret (x_then_ret (x_then_ret (x_block_ret (x_then_ret ?_)))))))
               refine x_done (v := .bool false) F95 (results_1 Try.results63 (.tmp (F95.ev 2 rfl))) ?_
               exact ⟨(by rw [(show false = (diskOk (d.slots.map SlotH.d) d.journal) from by first | exact dk_bad hx1 (by first | exact sb_3 (by assumption) (by assumption) | exact sb_4 (by assumption) (by assumption)) | exact dk_bad hx2 (by first | exact sb_3 (by assumption) (by assumption) | exact sb_4 (by assumption) (by assumption)) | exact dk_bad hx3 (by first | exact sb_3 (by assumption) (by assumption) | exact sb_4 (by assumption) (by assumption)) | exact dk_len ln_d_slots (by assumption) | exact dk_no ln_d_slots (by assumption) hx1 hx2 (nt (by assumption)) (nt (by assumption)) | exact dk_done ln_d_slots (by omega) (any_at hx1 (nf (by assumption))) (fun i hi c hc => hk_1 i (by omega) c hc) | exact dk_done ln_d_slots (by omega) (any_at hx2 (nf (by assumption))) (fun i hi c hc => hk_1 i (by omega) c hc))]), (Mv.pick (T5.trans (S61.trans (S70.trans (T74.trans T93)))) [] rfl)⟩
             · rw [h85] at F84
               refine l_op (f_val F84 (wanted_g F84 rfl rfl rfl rfl) rfl (r_field FI_99_1 rfl (F84.ev 4 rfl) rfl) rfl fun _ F96 => ?_)
               refine l_op (f_val (v := .slice x3.a0 x3.n0 x3.c0) F96 (wanted_g F96 rfl rfl rfl rfl) rfl (r_loadB S81.at' 0 TI_74 rfl rfl (F96.ev 40 rfl) rfl rfl (fun _ => rfl) rfl) rfl fun _ F97 => ?_)
               refine l_op (f_call F97 CF_66 (wanted_g F97 rfl rfl rfl rfl) rfl rfl rfl (lc (F97.ev 41 rfl) rfl) (impl_StoreOk_c (s := x3.d.cells) (Rd.mv (Nat.succ_pos _) VI67 (S70.trans (T74.trans S81)))) ?_)
               rintro _ w98 ⟨rfl, m98⟩
               refine ⟨_, rfl, fun _ F99 => ?_⟩
               have S98 := At.frame0 S81.at' m98
               clear m98
               refine l_op (f_val F99 (wanted_g F99 rfl rfl rfl rfl) rfl (r_not rfl (F99.ev 42 rfl)) rfl fun _ F100 => ?_)
               refine l_op (f_val F100 (wanted_g F100 rfl rfl rfl rfl) rfl (r_pick (b := false) rfl (F100.ev 39 rfl) (F100.ev 43 rfl)) rfl fun _ F101 => ?_)
               refine l_op (f_val F101 rfl rfl (r_pick (b := true) rfl (F101.ev 34 rfl) (F101.ev 44 rfl)) rfl fun _ F102 => ?_)
               have F103 : Fr 50 [(45, .bool (!(storeOk x3.d.cells))), (28, .int .i64 ((k : Nat) : Int)), (27, .int .i64 ((d_slots_n : Nat) : Int)), (26, .slice d_slots_a d_slots_n d_slots_c), (1, .pointer (some ⟨b1, 0, none⟩))] _ := F102.cut rfl
               clear F73 F75 F76 F77 F79 F80 F82 F83 F84 F96 F97 F99 F100 F101 F102
               have T104 : Mv _ _ [bx b70 [.int .i64 x3.d.seq, .slice x3.a0 x3.n0 x3.c0, .bool x3.d.whole] 99, bx b1 [.slice d_slots_a d_slots_n d_slots_c, .string d.journal.text, .int .i64 d.journal.sure] 32] _ := S98
               refine s_end (x_normal (x_condb (b := (!(storeOk x3.d.cells))) (F103.ev 45 rfl) (fun h105 => ?_) (fun h105 => ?_)))
               · skip
                 refine wp_seq (wp_region_lit (l_op (f_val F103 rfl rfl (r_assign rfl rfl) rfl fun _ F106 => ?_)))
                 have F107 : Fr 50 [(2, .bool false)] _ := F106.cut rfl
                 clear F103 F106
                 refine s_end (x_normal (wp_ret (x_block_ret (x_then_ret (x_then_ret (x_block_ret (x_then_ret ?_)))))))
                 refine x_done (v := .bool false) F107 (results_1 Try.results63 (.tmp (F107.ev 2 rfl))) ?_
                 exact ⟨(by rw [(show false = (diskOk (d.slots.map SlotH.d) d.journal) from by first | exact dk_bad hx1 (by first | exact sb_3 (by assumption) (by assumption) | exact sb_4 (by assumption) (by assumption)) | exact dk_bad hx2 (by first | exact sb_3 (by assumption) (by assumption) | exact sb_4 (by assumption) (by assumption)) | exact dk_bad hx3 (by first | exact sb_3 (by assumption) (by assumption) | exact sb_4 (by assumption) (by assumption)) | exact dk_len ln_d_slots (by assumption) | exact dk_no ln_d_slots (by assumption) hx1 hx2 (nt (by assumption)) (nt (by assumption)) | exact dk_done ln_d_slots (by omega) (any_at hx1 (nf (by assumption))) (fun i hi c hc => hk_1 i (by omega) c hc) | exact dk_done ln_d_slots (by omega) (any_at hx2 (nf (by assumption))) (fun i hi c hc => hk_1 i (by omega) c hc))]), (Mv.pick (T5.trans (S61.trans (S70.trans (T74.trans (S81.trans T104))))) [] rfl)⟩
               · skip
                 refine wp_skip (x_block_normal (x_normal (wp_region_lit (l_op (f_val F103 rfl rfl (r_add (z := ((k + 1 : Nat) : Int)) rfl (F103.ev 28 rfl) rfl (by first | rfl | omega) ⟨by first | omega | (unfold i64ok at *; omega), by first | omega | (unfold i64ok at *; omega)⟩) rfl fun _ F108 => ?_)))))
                 refine l_op (f_mv F108 rfl rfl rfl rfl rfl fun _ F109 => ?_)
                 have F110 : Fr 50 [(28, .int .i64 ((k + 1 : Nat) : Int)), (27, .int .i64 ((d_slots_n : Nat) : Int)), (26, .slice d_slots_a d_slots_n d_slots_c), (1, .pointer (some ⟨b1, 0, none⟩))] _ := F109.cut rfl
                 clear F103 F108 F109
                 refine s_end ?_
                 refine x_normal ⟨k + 1, by omega, F110.cut rfl, ((S61.trans (S70.trans (T74.trans (S81.trans T104)))).pick [1] rfl), by omega, by first | (exact all_stepP hk_1 (fun c hc => by obtain rfl := Option.some.inj (hx1.symm.trans hc); first | exact sb_1 (by assumption) | exact sb_2 (by assumption) (by assumption))) | (exact all_stepP hk_1 (fun c hc => by obtain rfl := Option.some.inj (hx2.symm.trans hc); first | exact sb_1 (by assumption) | exact sb_2 (by assumption) (by assumption))) | (exact all_stepP hk_1 (fun c hc => by obtain rfl := Option.some.inj (hx3.symm.trans hc); first | exact sb_1 (by assumption) | exact sb_2 (by assumption) (by assumption)))⟩
           · rw [h78] at F77
             refine l_op (f_skip F77 (wanted_g F77 rfl rfl rfl rfl) rfl rfl fun _ F111 => ?_)
             refine l_op (f_skip F111 (wanted_g F111 rfl rfl rfl rfl) rfl rfl fun _ F112 => ?_)
             refine l_op (f_skip F112 (wanted_g F112 rfl rfl rfl rfl) rfl rfl fun _ F113 => ?_)
             refine l_op (f_skip F113 (wanted_g F113 rfl rfl rfl rfl) rfl rfl fun _ F114 => ?_)
             refine l_op (f_skip F114 (wanted_g F114 rfl rfl rfl rfl) rfl rfl fun _ F115 => ?_)
             refine l_op (f_skip F115 (wanted_u F115 rfl rfl rfl) rfl rfl fun _ F116 => ?_)
             refine l_op (f_skip F116 (wanted_u F116 rfl rfl rfl) rfl rfl fun _ F117 => ?_)
             refine l_op (f_skip F117 (wanted_u F117 rfl rfl rfl) rfl rfl fun _ F118 => ?_)
             refine l_op (f_skip F118 (wanted_u F118 rfl rfl rfl) rfl rfl fun _ F119 => ?_)
             refine l_op (f_skip F119 (wanted_g F119 rfl rfl rfl rfl) rfl rfl fun _ F120 => ?_)
             refine l_op (f_val F120 rfl rfl (r_pick (b := false) rfl (F120.ev 34 rfl) rfl) rfl fun _ F121 => ?_)
             have F122 : Fr 50 [(45, .bool false), (28, .int .i64 ((k : Nat) : Int)), (27, .int .i64 ((d_slots_n : Nat) : Int)), (26, .slice d_slots_a d_slots_n d_slots_c), (1, .pointer (some ⟨b1, 0, none⟩))] _ := F121.cut rfl
             clear F73 F75 F76 F77 F111 F112 F113 F114 F115 F116 F117 F118 F119 F120 F121
             refine s_end (x_normal (wp_cond_false (F122.ev 45 rfl) (wp_skip (x_block_normal (x_normal (wp_region_lit (l_op (f_val F122 rfl rfl (r_add (z := ((k + 1 : Nat) : Int)) rfl (F122.ev 28 rfl) rfl (by first | rfl | omega) ⟨by first | omega | (unfold i64ok at *; omega), by first | omega | (unfold i64ok at *; omega)⟩) rfl fun _ F123 => ?_))))))))
             refine l_op (f_mv F123 rfl rfl rfl rfl rfl fun _ F124 => ?_)
             have F125 : Fr 50 [(28, .int .i64 ((k + 1 : Nat) : Int)), (27, .int .i64 ((d_slots_n : Nat) : Int)), (26, .slice d_slots_a d_slots_n d_slots_c), (1, .pointer (some ⟨b1, 0, none⟩))] _ := F124.cut rfl
             clear F122 F123 F124
             refine s_end ?_
             refine x_normal ⟨k + 1, by omega, F125.cut rfl, ((S61.trans (S70.trans T74)).pick [1] rfl), by omega, by first | (exact all_stepP hk_1 (fun c hc => by obtain rfl := Option.some.inj (hx1.symm.trans hc); first | exact sb_1 (by assumption) | exact sb_2 (by assumption) (by assumption))) | (exact all_stepP hk_1 (fun c hc => by obtain rfl := Option.some.inj (hx2.symm.trans hc); first | exact sb_1 (by assumption) | exact sb_2 (by assumption) (by assumption))) | (exact all_stepP hk_1 (fun c hc => by obtain rfl := Option.some.inj (hx3.symm.trans hc); first | exact sb_1 (by assumption) | exact sb_2 (by assumption) (by assumption)))⟩
         · skip
           refine wp_exit (x_then_exit (x_then_exit (x_block_here (x_normal (wp_seq (wp_region_lit (l_op (f_val F63 rfl rfl (r_field FI_32_1 rfl (F63.ev 1 rfl) rfl) rfl fun _ F126 => ?_))))))))
           refine l_op (f_val (v := .agg #[.string d.journal.text, .int .i64 d.journal.sure]) F126 rfl rfl (r_loadB S61.at' 0 TI_30 rfl rfl (F126.ev 47 rfl) rfl rfl (fun h => nomatch h) rfl) rfl fun _ F127 => ?_)
           refine l_op (f_call F127 CF_123 rfl rfl rfl rfl (lc (F127.ev 48 rfl) rfl) (impl_JournalOk_c (H := fun _ => True) (j := d.journal) h_d_journal_text (by first | assumption | exact ⟨by omega, by omega⟩ | (unfold i64ok at *; omega) | (simp only [i64ok]; omega))) ?_)
           rintro _ w128 ⟨rfl, m128⟩
           refine ⟨_, rfl, fun _ F129 => ?_⟩
           have S128 := At.frame0 S61.at' m128
           clear m128
           refine l_op (f_as F129 rfl rfl rfl rfl rfl fun _ F130 => ?_)
           have F131 : Fr 50 [(2, .bool (jouOk d.journal))] _ := F130.cut rfl
           clear F63 F126 F127 F129 F130
           have T132 : Mv _ _ [bx b1 [.slice d_slots_a d_slots_n d_slots_c, .string d.journal.text, .int .i64 d.journal.sure] 32] _ := S128
           refine s_end (x_normal (wp_ret ?_))
           refine x_done (v := .bool (jouOk d.journal)) F131 (results_1 Try.results63 (.tmp (F131.ev 2 rfl))) ?_
           exact ⟨(by rw [(show (jouOk d.journal) = (diskOk (d.slots.map SlotH.d) d.journal) from by first | exact dk_bad hx1 (by first | exact sb_3 (by assumption) (by assumption) | exact sb_4 (by assumption) (by assumption)) | exact dk_bad hx2 (by first | exact sb_3 (by assumption) (by assumption) | exact sb_4 (by assumption) (by assumption)) | exact dk_bad hx3 (by first | exact sb_3 (by assumption) (by assumption) | exact sb_4 (by assumption) (by assumption)) | exact dk_len ln_d_slots (by assumption) | exact dk_no ln_d_slots (by assumption) hx1 hx2 (nt (by assumption)) (nt (by assumption)) | exact dk_done ln_d_slots (by omega) (any_at hx1 (nf (by assumption))) (fun i hi c hc => hk_1 i (by omega) c hc) | exact dk_done ln_d_slots (by omega) (any_at hx2 (nf (by assumption))) (fun i hi c hc => hk_1 i (by omega) c hc))]), (Mv.pick (T5.trans (S61.trans T132)) [] rfl)⟩
   · rw [h40] at F39
     refine l_op (f_skip F39 (wanted_g F39 rfl rfl rfl rfl) rfl rfl fun _ F133 => ?_)
     refine l_op (f_skip F133 (wanted_g F133 rfl rfl rfl rfl) rfl rfl fun _ F134 => ?_)
     refine l_op (f_skip F134 (wanted_g F134 rfl rfl rfl rfl) rfl rfl fun _ F135 => ?_)
     refine l_op (f_skip F135 (wanted_g F135 rfl rfl rfl rfl) rfl rfl fun _ F136 => ?_)
     refine l_op (f_skip F136 (wanted_g F136 rfl rfl rfl rfl) rfl rfl fun _ F137 => ?_)
     refine l_op (f_skip F137 (wanted_g F137 rfl rfl rfl rfl) rfl rfl fun _ F138 => ?_)
     refine l_op (f_val F138 (wanted_g F138 rfl rfl rfl rfl) rfl (r_pick (b := false) rfl (F138.ev 16 rfl) rfl) rfl fun _ F139 => ?_)
     refine l_op (f_val F139 rfl rfl (r_pick (b := false) rfl (F139.ev 9 rfl) (F139.ev 23 rfl)) rfl fun _ F140 => ?_)
     have F141 : Fr 50 [(24, .bool false), (1, .pointer (some ⟨b1, 0, none⟩))] _ := F140.cut rfl
     clear F4 F6 F7 F8 F9 F10 F30 F31 F35 F36 F37 F38 F39 F133 F134 F135 F136 F137 F138 F139 F140
     refine s_end (x_normal (wp_cond_false (F141.ev 24 rfl) (wp_skip (x_normal (wp_seq (wp_seq (wp_region_lit (l_op (f_val F141 rfl rfl (r_field FI_32_0 rfl (F141.ev 1 rfl) rfl) rfl fun _ F142 => ?_)))))))))
     refine l_op (f_val (v := .slice d_slots_a d_slots_n d_slots_c) F142 rfl rfl (r_loadB T5.at' 0 TI_29 rfl rfl (F142.ev 25 rfl) rfl rfl (fun _ => rfl) rfl) rfl fun _ F143 => ?_)
     refine l_op (f_val F143 rfl rfl (r_len Try.underlying29 rfl (F143.ev 26 rfl)) rfl fun _ F144 => ?_)
     refine l_op (f_val F144 rfl rfl (r_move rfl rfl) rfl fun _ F145 => ?_)
     have F146 : Fr 50 [(28, .int .i64 0), (27, .int .i64 ((d_slots_n : Nat) : Int)), (26, .slice d_slots_a d_slots_n d_slots_c), (1, .pointer (some ⟨b1, 0, none⟩))] _ := F145.cut rfl
     clear F141 F142 F143 F144 F145
     refine s_end (x_normal (wp_block ?_))
     refine x_loop (fun (k : Nat) aZ wZ => Fr 50 [(28, .int .i64 ((k : Nat) : Int)), (27, .int .i64 ((d_slots_n : Nat) : Int)), (26, .slice d_slots_a d_slots_n d_slots_c), (1, .pointer (some ⟨b1, 0, none⟩))] aZ ∧ Mv [bx b1 [.slice d_slots_a d_slots_n d_slots_c, .string d.journal.text, .int .i64 d.journal.sure] 32] w1 [bx b1 [.slice d_slots_a d_slots_n d_slots_c, .string d.journal.text, .int .i64 d.journal.sure] 32] wZ ∧ (k ≤ d_slots_n) ∧ (∀ j, j < k → ∀ c, nth d.slots j = some c → slotBad c.d = false)) (fun (k : Nat) => d_slots_n - k) (0) ?_ ?_
     · exact ⟨F146.cut rfl, (Mv.refl T5.at'), by omega, all_none'⟩
     · rintro k a147 w147 ⟨F147, S147, hk_0, hk_1⟩
       refine wp_seq (wp_region_lit (l_op (f_val F147 rfl rfl (r_cmp (b := decide (k < d_slots_n)) (.inr (.inr (.inl rfl))) rfl (F147.ev 28 rfl) (F147.ev 27 rfl) (dec_of (by omega))) rfl fun _ F148 => ?_)))
       have F149 : Fr 50 [(29, .bool (decide (k < d_slots_n))), (28, .int .i64 ((k : Nat) : Int)), (27, .int .i64 ((d_slots_n : Nat) : Int)), (26, .slice d_slots_a d_slots_n d_slots_c), (1, .pointer (some ⟨b1, 0, none⟩))] _ := F148.cut rfl
       clear F147 F148
       refine s_end (x_normal (wp_seq (x_cond (p := k < d_slots_n) (F149.ev 29 rfl) (fun h150 => ?_) (fun h150 => ?_))))
       · skip
         refine wp_skip (x_normal (wp_seq (wp_block (wp_seq (wp_region_lit ?_)))))
         obtain ⟨B151, O151, x2, ad151, hx2, okx2, ln151, cl151⟩ := Rd.at (Rd.mv (Nat.succ_pos _) V_v_d_slots (T5.trans S147)) k (by first | assumption | omega)
         clear ln151
         have oj152 := okx2
         unfold okSlot at oj152
         have VI153 : Rd 2 encC okC (V H w [bx b1 [.slice d_slots_a d_slots_n d_slots_c, .string d.journal.text, .int .i64 d.journal.sure] 32]) w147 (.slice x2.a0 x2.n0 x2.c0) x2.d.cells := NRd.get (NRd.mv V_u_d_slots (T5.trans S147)) hx2 (j := 0) rfl
         obtain ⟨ln153, le153, mx153, ni153⟩ := Rd.inv VI153
         refine l_op (f_val F149 rfl rfl (r_indexAddr (i := k) ET_29 rfl ((F149.ev 26 rfl).trans (by rw [ad151])) (F149.ev 28 rfl) (by omega) (by first | assumption | omega)) rfl fun _ F154 => ?_)
         refine l_op (f_val (v := .agg #[.int .i64 x2.d.seq, .slice x2.a0 x2.n0 x2.c0, .bool x2.d.whole]) F154 rfl rfl (r_load (cs := [.int .i64 x2.d.seq, .slice x2.a0 x2.n0 x2.c0, .bool x2.d.whole]) TI_99 rfl (F154.ev 30 rfl) rfl (fun h => nomatch h) (elem_sub (f := 0) cl151 [.int .i64 x2.d.seq, .slice x2.a0 x2.n0 x2.c0, .bool x2.d.whole] rfl)) rfl fun _ F155 => ?_)
         refine l_op (f_alloc F155 S147.at' ZI_99 rfl rfl rfl rfl rfl fun b156 _ w156 F157 S156 => ?_)
         refine l_op (s_store S156.at' 0 TI_99 rfl rfl rfl rfl rfl (F157.ev 4 rfl) (F157.ev 31 rfl) rfl rfl rfl rfl rfl fun w158 S158 => ?_)
         have F159 : Fr 50 [(4, .pointer (some ⟨b156, 0, none⟩)), (31, .agg #[.int .i64 x2.d.seq, .slice x2.a0 x2.n0 x2.c0, .bool x2.d.whole]), (28, .int .i64 ((k : Nat) : Int)), (27, .int .i64 ((d_slots_n : Nat) : Int)), (26, .slice d_slots_a d_slots_n d_slots_c), (1, .pointer (some ⟨b1, 0, none⟩))] _ := F157.cut rfl
         clear F149 F154 F155 F157
         have T160 : Mv _ _ [bx b156 [.int .i64 x2.d.seq, .slice x2.a0 x2.n0 x2.c0, .bool x2.d.whole] 99, bx b1 [.slice d_slots_a d_slots_n d_slots_c, .string d.journal.text, .int .i64 d.journal.sure] 32] _ := S158
         refine s_end (x_normal (wp_seq (wp_region_lit (l_op (f_val F159 rfl rfl (r_field FI_99_2 rfl (F159.ev 4 rfl) rfl) rfl fun _ F161 => ?_)))))
         refine l_op (f_val (v := .bool x2.d.whole) F161 rfl rfl (r_loadB T160.at' 0 TI_4 rfl rfl (F161.ev 32 rfl) rfl rfl (fun _ => rfl) rfl) rfl fun _ F162 => ?_)
         refine l_op (f_mv F162 rfl rfl rfl rfl rfl fun _ F163 => ?_)
         rcases Bool.eq_false_or_eq_true x2.d.whole with h164 | h164
         · rw [h164] at F163
           refine l_op (f_val F163 (wanted_g F163 rfl rfl rfl rfl) rfl (r_field FI_99_0 rfl (F163.ev 4 rfl) rfl) rfl fun _ F165 => ?_)
           refine l_op (f_val (v := .int .i64 x2.d.seq) F165 (wanted_g F165 rfl rfl rfl rfl) rfl (r_loadB T160.at' 0 TI_3 rfl rfl (F165.ev 35 rfl) rfl rfl (fun _ => rfl) rfl) rfl fun _ F166 => ?_)
           refine l_op (f_call F166 CF_65 (wanted_g F166 rfl rfl rfl rfl) rfl rfl rfl (lc (F166.ev 36 rfl) (lc rfl (lc rfl rfl))) (impl_within_c (H := fun _ => True) (n := x2.d.seq) (low := 0) (high := 99999) (by first | assumption | exact ⟨by omega, by omega⟩ | (unfold i64ok at *; omega)) (by first | assumption | exact ⟨by omega, by omega⟩ | (unfold i64ok at *; omega)) (by first | assumption | exact ⟨by omega, by omega⟩ | (unfold i64ok at *; omega))) ?_)
           rintro _ w167 ⟨rfl, m167⟩
           refine ⟨_, rfl, fun _ F168 => ?_⟩
           have S167 := At.frame0 T160.at' m167
           clear m167
           refine l_op (f_val F168 (wanted_g F168 rfl rfl rfl rfl) rfl (r_not rfl (F168.ev 37 rfl)) rfl fun _ F169 => ?_)
           refine l_op (f_mv F169 (wanted_g F169 rfl rfl rfl rfl) rfl rfl rfl rfl fun _ F170 => ?_)
           rcases Bool.eq_false_or_eq_true (!(inB x2.d.seq 0 99999)) with h171 | h171
           · rw [h171] at F170
             refine l_op (f_skip F170 (wanted_g F170 rfl rfl rfl rfl) rfl rfl fun _ F172 => ?_)
             refine l_op (f_skip F172 (wanted_g F172 rfl rfl rfl rfl) rfl rfl fun _ F173 => ?_)
             refine l_op (f_skip F173 (wanted_g F173 rfl rfl rfl rfl) rfl rfl fun _ F174 => ?_)
             refine l_op (f_skip F174 (wanted_g F174 rfl rfl rfl rfl) rfl rfl fun _ F175 => ?_)
             refine l_op (f_val F175 (wanted_g F175 rfl rfl rfl rfl) rfl (r_pick (b := true) rfl (F175.ev 39 rfl) rfl) rfl fun _ F176 => ?_)
             refine l_op (f_val F176 rfl rfl (r_pick (b := true) rfl (F176.ev 34 rfl) (F176.ev 44 rfl)) rfl fun _ F177 => ?_)
             have F178 : Fr 50 [(45, .bool true), (28, .int .i64 ((k : Nat) : Int)), (27, .int .i64 ((d_slots_n : Nat) : Int)), (26, .slice d_slots_a d_slots_n d_slots_c), (1, .pointer (some ⟨b1, 0, none⟩))] _ := F177.cut rfl
             clear F159 F161 F162 F163 F165 F166 F168 F169 F170 F172 F173 F174 F175 F176 F177
             have T179 : Mv _ _ [bx b156 [.int .i64 x2.d.seq, .slice x2.a0 x2.n0 x2.c0, .bool x2.d.whole] 99, bx b1 [.slice d_slots_a d_slots_n d_slots_c, .string d.journal.text, .int .i64 d.journal.sure] 32] _ := S167
             refine s_end (x_normal (wp_cond_true (F178.ev 45 rfl) (wp_seq (wp_region_lit (l_op (f_val F178 rfl rfl (r_assign rfl rfl) rfl fun _ F180 => ?_))))))
             have F181 : Fr 50 [(2, .bool false)] _ := F180.cut rfl
             clear F178 F180
             refine s_end (x_normal (wp_ret (x_block_ret (x_then_ret (x_then_ret (x_block_ret (x_then_ret ?_)))))))
             refine x_done (v := .bool false) F181 (results_1 Try.results63 (.tmp (F181.ev 2 rfl))) ?_
             exact ⟨(by rw [(show false = (diskOk (d.slots.map SlotH.d) d.journal) from by first | exact dk_bad hx1 (by first | exact sb_3 (by assumption) (by assumption) | exact sb_4 (by assumption) (by assumption)) | exact dk_bad hx2 (by first | exact sb_3 (by assumption) (by assumption) | exact sb_4 (by assumption) (by assumption)) | exact dk_bad hx3 (by first | exact sb_3 (by assumption) (by assumption) | exact sb_4 (by assumption) (by assumption)) | exact dk_len ln_d_slots (by assumption) | exact dk_no ln_d_slots (by assumption) hx1 hx2 (nt (by assumption)) (nt (by assumption)) | exact dk_done ln_d_slots (by omega) (any_at hx1 (nf (by assumption))) (fun i hi c hc => hk_1 i (by omega) c hc) | exact dk_done ln_d_slots (by omega) (any_at hx2 (nf (by assumption))) (fun i hi c hc => hk_1 i (by omega) c hc))]), (Mv.pick (T5.trans (S147.trans (S156.trans (T160.trans T179)))) [] rfl)⟩
           · rw [h171] at F170
             refine l_op (f_val F170 (wanted_g F170 rfl rfl rfl rfl) rfl (r_field FI_99_1 rfl (F170.ev 4 rfl) rfl) rfl fun _ F182 => ?_)
             refine l_op (f_val (v := .slice x2.a0 x2.n0 x2.c0) F182 (wanted_g F182 rfl rfl rfl rfl) rfl (r_loadB S167.at' 0 TI_74 rfl rfl (F182.ev 40 rfl) rfl rfl (fun _ => rfl) rfl) rfl fun _ F183 => ?_)
             refine l_op (f_call F183 CF_66 (wanted_g F183 rfl rfl rfl rfl) rfl rfl rfl (lc (F183.ev 41 rfl) rfl) (impl_StoreOk_c (s := x2.d.cells) (Rd.mv (Nat.succ_pos _) VI153 (S156.trans (T160.trans S167)))) ?_)
             rintro _ w184 ⟨rfl, m184⟩
             refine ⟨_, rfl, fun _ F185 => ?_⟩
             have S184 := At.frame0 S167.at' m184
             clear m184
             refine l_op (f_val F185 (wanted_g F185 rfl rfl rfl rfl) rfl (r_not rfl (F185.ev 42 rfl)) rfl fun _ F186 => ?_)
             refine l_op (f_val F186 (wanted_g F186 rfl rfl rfl rfl) rfl (r_pick (b := false) rfl (F186.ev 39 rfl) (F186.ev 43 rfl)) rfl fun _ F187 => ?_)
             refine l_op (f_val F187 rfl rfl (r_pick (b := true) rfl (F187.ev 34 rfl) (F187.ev 44 rfl)) rfl fun _ F188 => ?_)
             have F189 : Fr 50 [(45, .bool (!(storeOk x2.d.cells))), (28, .int .i64 ((k : Nat) : Int)), (27, .int .i64 ((d_slots_n : Nat) : Int)), (26, .slice d_slots_a d_slots_n d_slots_c), (1, .pointer (some ⟨b1, 0, none⟩))] _ := F188.cut rfl
             clear F159 F161 F162 F163 F165 F166 F168 F169 F170 F182 F183 F185 F186 F187 F188
             have T190 : Mv _ _ [bx b156 [.int .i64 x2.d.seq, .slice x2.a0 x2.n0 x2.c0, .bool x2.d.whole] 99, bx b1 [.slice d_slots_a d_slots_n d_slots_c, .string d.journal.text, .int .i64 d.journal.sure] 32] _ := S184
             refine s_end (x_normal (x_condb (b := (!(storeOk x2.d.cells))) (F189.ev 45 rfl) (fun h191 => ?_) (fun h191 => ?_)))
             · skip
               refine wp_seq (wp_region_lit (l_op (f_val F189 rfl rfl (r_assign rfl rfl) rfl fun _ F192 => ?_)))
               have F193 : Fr 50 [(2, .bool false)] _ := F192.cut rfl
               clear F189 F192
               refine s_end (x_normal (wp_ret (x_block_ret (x_then_ret (x_then_ret (x_block_ret (x_then_ret ?_)))))))
               refine x_done (v := .bool false) F193 (results_1 Try.results63 (.tmp (F193.ev 2 rfl))) ?_
               exact ⟨(by rw [(show false = (diskOk (d.slots.map SlotH.d) d.journal) from by first | exact dk_bad hx1 (by first | exact sb_3 (by assumption) (by assumption) | exact sb_4 (by assumption) (by assumption)) | exact dk_bad hx2 (by first | exact sb_3 (by assumption) (by assumption) | exact sb_4 (by assumption) (by assumption)) | exact dk_bad hx3 (by first | exact sb_3 (by assumption) (by assumption) | exact sb_4 (by assumption) (by assumption)) | exact dk_len ln_d_slots (by assumption) | exact dk_no ln_d_slots (by assumption) hx1 hx2 (nt (by assumption)) (nt (by assumption)) | exact dk_done ln_d_slots (by omega) (any_at hx1 (nf (by assumption))) (fun i hi c hc => hk_1 i (by omega) c hc) | exact dk_done ln_d_slots (by omega) (any_at hx2 (nf (by assumption))) (fun i hi c hc => hk_1 i (by omega) c hc))]), (Mv.pick (T5.trans (S147.trans (S156.trans (T160.trans (S167.trans T190))))) [] rfl)⟩
             · skip
               refine wp_skip (x_block_normal (x_normal (wp_region_lit (l_op (f_val F189 rfl rfl (r_add (z := ((k + 1 : Nat) : Int)) rfl (F189.ev 28 rfl) rfl (by first | rfl | omega) ⟨by first | omega | (unfold i64ok at *; omega), by first | omega | (unfold i64ok at *; omega)⟩) rfl fun _ F194 => ?_)))))
               refine l_op (f_mv F194 rfl rfl rfl rfl rfl fun _ F195 => ?_)
               have F196 : Fr 50 [(28, .int .i64 ((k + 1 : Nat) : Int)), (27, .int .i64 ((d_slots_n : Nat) : Int)), (26, .slice d_slots_a d_slots_n d_slots_c), (1, .pointer (some ⟨b1, 0, none⟩))] _ := F195.cut rfl
               clear F189 F194 F195
               refine s_end ?_
               refine x_normal ⟨k + 1, by omega, F196.cut rfl, ((S147.trans (S156.trans (T160.trans (S167.trans T190)))).pick [1] rfl), by omega, by first | (exact all_stepP hk_1 (fun c hc => by obtain rfl := Option.some.inj (hx1.symm.trans hc); first | exact sb_1 (by assumption) | exact sb_2 (by assumption) (by assumption))) | (exact all_stepP hk_1 (fun c hc => by obtain rfl := Option.some.inj (hx2.symm.trans hc); first | exact sb_1 (by assumption) | exact sb_2 (by assumption) (by assumption))) | (exact all_stepP hk_1 (fun c hc => by obtain rfl := Option.some.inj (hx3.symm.trans hc); first | exact sb_1 (by assumption) | exact sb_2 (by assumption) (by assumption)))⟩
         · rw [h164] at F163
           refine l_op (f_skip F163 (wanted_g F163 rfl rfl rfl rfl) rfl rfl fun _ F197 => ?_)
           refine l_op (f_skip F197 (wanted_g F197 rfl rfl rfl rfl) rfl rfl fun _ F198 => ?_)
           refine l_op (f_skip F198 (wanted_g F198 rfl rfl rfl rfl) rfl rfl fun _ F199 => ?_)
           refine l_op (f_skip F199 (wanted_g F199 rfl rfl rfl rfl) rfl rfl fun _ F200 => ?_)
           refine l_op (f_skip F200 (wanted_g F200 rfl rfl rfl rfl) rfl rfl fun _ F201 => ?_)
           refine l_op (f_skip F201 (wanted_u F201 rfl rfl rfl) rfl rfl fun _ F202 => ?_)
           refine l_op (f_skip F202 (wanted_u F202 rfl rfl rfl) rfl rfl fun _ F203 => ?_)
           refine l_op (f_skip F203 (wanted_u F203 rfl rfl rfl) rfl rfl fun _ F204 => ?_)
           refine l_op (f_skip F204 (wanted_u F204 rfl rfl rfl) rfl rfl fun _ F205 => ?_)
           refine l_op (f_skip F205 (wanted_g F205 rfl rfl rfl rfl) rfl rfl fun _ F206 => ?_)
           refine l_op (f_val F206 rfl rfl (r_pick (b := false) rfl (F206.ev 34 rfl) rfl) rfl fun _ F207 => ?_)
           have F208 : Fr 50 [(45, .bool false), (28, .int .i64 ((k : Nat) : Int)), (27, .int .i64 ((d_slots_n : Nat) : Int)), (26, .slice d_slots_a d_slots_n d_slots_c), (1, .pointer (some ⟨b1, 0, none⟩))] _ := F207.cut rfl
           clear F159 F161 F162 F163 F197 F198 F199 F200 F201 F202 F203 F204 F205 F206 F207
           refine s_end (x_normal (wp_cond_false (F208.ev 45 rfl) (wp_skip (x_block_normal (x_normal (wp_region_lit (l_op (f_val F208 rfl rfl (r_add (z := ((k + 1 : Nat) : Int)) rfl (F208.ev 28 rfl) rfl (by first | rfl | omega) ⟨by first | omega | (unfold i64ok at *; omega), by first | omega | (unfold i64ok at *; omega)⟩) rfl fun _ F209 => ?_))))))))
           refine l_op (f_mv F209 rfl rfl rfl rfl rfl fun _ F210 => ?_)
           have F211 : Fr 50 [(28, .int .i64 ((k + 1 : Nat) : Int)), (27, .int .i64 ((d_slots_n : Nat) : Int)), (26, .slice d_slots_a d_slots_n d_slots_c), (1, .pointer (some ⟨b1, 0, none⟩))] _ := F210.cut rfl
           clear F208 F209 F210
           refine s_end ?_
           refine x_normal ⟨k + 1, by omega, F211.cut rfl, ((S147.trans (S156.trans T160)).pick [1] rfl), by omega, by first | (exact all_stepP hk_1 (fun c hc => by obtain rfl := Option.some.inj (hx1.symm.trans hc); first | exact sb_1 (by assumption) | exact sb_2 (by assumption) (by assumption))) | (exact all_stepP hk_1 (fun c hc => by obtain rfl := Option.some.inj (hx2.symm.trans hc); first | exact sb_1 (by assumption) | exact sb_2 (by assumption) (by assumption))) | (exact all_stepP hk_1 (fun c hc => by obtain rfl := Option.some.inj (hx3.symm.trans hc); first | exact sb_1 (by assumption) | exact sb_2 (by assumption) (by assumption)))⟩
       · skip
         refine wp_exit (x_then_exit (x_then_exit (x_block_here (x_normal (wp_seq (wp_region_lit (l_op (f_val F149 rfl rfl (r_field FI_32_1 rfl (F149.ev 1 rfl) rfl) rfl fun _ F212 => ?_))))))))
         refine l_op (f_val (v := .agg #[.string d.journal.text, .int .i64 d.journal.sure]) F212 rfl rfl (r_loadB S147.at' 0 TI_30 rfl rfl (F212.ev 47 rfl) rfl rfl (fun h => nomatch h) rfl) rfl fun _ F213 => ?_)
         refine l_op (f_call F213 CF_123 rfl rfl rfl rfl (lc (F213.ev 48 rfl) rfl) (impl_JournalOk_c (H := fun _ => True) (j := d.journal) h_d_journal_text (by first | assumption | exact ⟨by omega, by omega⟩ | (unfold i64ok at *; omega) | (simp only [i64ok]; omega))) ?_)
         rintro _ w214 ⟨rfl, m214⟩
         refine ⟨_, rfl, fun _ F215 => ?_⟩
         have S214 := At.frame0 S147.at' m214
         clear m214
         refine l_op (f_as F215 rfl rfl rfl rfl rfl fun _ F216 => ?_)
         have F217 : Fr 50 [(2, .bool (jouOk d.journal))] _ := F216.cut rfl
         clear F149 F212 F213 F215 F216
         have T218 : Mv _ _ [bx b1 [.slice d_slots_a d_slots_n d_slots_c, .string d.journal.text, .int .i64 d.journal.sure] 32] _ := S214
         refine s_end (x_normal (wp_ret ?_))
         refine x_done (v := .bool (jouOk d.journal)) F217 (results_1 Try.results63 (.tmp (F217.ev 2 rfl))) ?_
         exact ⟨(by rw [(show (jouOk d.journal) = (diskOk (d.slots.map SlotH.d) d.journal) from by first | exact dk_bad hx1 (by first | exact sb_3 (by assumption) (by assumption) | exact sb_4 (by assumption) (by assumption)) | exact dk_bad hx2 (by first | exact sb_3 (by assumption) (by assumption) | exact sb_4 (by assumption) (by assumption)) | exact dk_bad hx3 (by first | exact sb_3 (by assumption) (by assumption) | exact sb_4 (by assumption) (by assumption)) | exact dk_len ln_d_slots (by assumption) | exact dk_no ln_d_slots (by assumption) hx1 hx2 (nt (by assumption)) (nt (by assumption)) | exact dk_done ln_d_slots (by omega) (any_at hx1 (nf (by assumption))) (fun i hi c hc => hk_1 i (by omega) c hc) | exact dk_done ln_d_slots (by omega) (any_at hx2 (nf (by assumption))) (fun i hi c hc => hk_1 i (by omega) c hc))]), (Mv.pick (T5.trans (S147.trans T218)) [] rfl)⟩
end Go.Proofs.Ytgfilegkabbliaa
