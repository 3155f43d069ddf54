/-
  Walks: disks that are as they should be.
-/
import Derived.Test.YtgfilegkabbliaaGreatDatFo
import Derived.Test.YtgfilegkabbliaaGreatGenNsb
namespace Go.Proofs.YtgfilegkabbliaaGreat
open Go.ChangeShapes Go.WideShapes Go.ChangeAt Go.RowKit
set_option maxRecDepth 100000
set_option maxHeartbeats 1000000
theorem spec_KeyOk_c {w : World} {H : Nat → Prop} {key : ByteArray} (Q0 : okS key) :
    Calls Tryz.prog 39 #[.string key] w fun e w' => e = .returned (.bool (keyOk key)) ∧ Mv [] w [] w' := by
 have uU : True := (fun _ => trivial) H
 clear uU
 have kz := Q0
 unfold okS at kz
 refine calls_enter 25 Tryz.func39 rfl Tryz.ntmps39 (Nat.le_of_ble_eq_true rfl) (fun _ F0i => ?_)
 have F0 : Fr 25 [(0, .string key)] _ := F0i
 clear F0i
 refine wp_seq (wp_region_lit (l_op (f_val F0 rfl rfl (r_assign rfl rfl) rfl fun _ F1 => ?_)))
 refine s_end (x_normal (wp_seq (wp_seq (wp_region_lit (l_op (f_val F1 rfl rfl (r_assign rfl rfl) rfl fun _ F2 => ?_))))))
 refine s_end (x_normal (wp_block ?_))
 refine x_loop (fun (k : Nat) aZ wZ => Fr 25 [(3, .int .i64 ((k : Nat) : Int)), (0, .string key)] aZ ∧ Mv [] w [] wZ ∧ (k ≤ key.size) ∧ (∀ j, j < k → kb (byteAt key j) = true)) (fun (k : Nat) => key.size - k) (0) ?_ ?_
 · exact ⟨F2.cut rfl, (Mv.refl (At.nil w)), by omega, all_none⟩
 · rintro k a3 w3 ⟨F3, S3, hk_0, hk_1⟩
   refine wp_seq (wp_seq (wp_region_lit (l_op (f_mv F3 rfl rfl rfl rfl rfl fun _ F4 => ?_))))
   refine l_op (f_mv F4 rfl rfl rfl rfl rfl fun _ F5 => ?_)
   refine l_op (f_val F5 rfl rfl (r_lenS (fun t ht => by cases ht; exact Tryz.underlying9) rfl rfl (F5.ev 5 rfl)) rfl fun _ F6 => ?_)
   refine l_op (f_val F6 rfl rfl (r_cmp (b := decide (k < key.size)) (.inr (.inr (.inl rfl))) rfl (F6.ev 4 rfl) (F6.ev 6 rfl) (dec_of (by omega))) rfl fun _ F7 => ?_)
   refine s_end (x_normal (x_cond (p := k < key.size) (F7.ev 7 rfl) (fun h8 => ?_) (fun h8 => ?_)))
   · skip
     refine wp_skip (x_normal (wp_seq (wp_block (wp_seq (wp_region_lit (l_op (f_mv F7 rfl rfl rfl rfl rfl fun _ F9 => ?_)))))))
     refine l_op (f_mv F9 rfl rfl rfl rfl rfl fun _ F10 => ?_)
     refine l_op (f_val F10 rfl rfl (r_indexS (i := k) Tryz.underlying9 rfl (F10.ev 10 rfl) (F10.ev 11 rfl) (by omega) (by first | assumption | omega)) rfl fun _ F11 => ?_)
     refine l_op (f_val F11 rfl rfl (r_convU8 Tryz.underlying3 Tryz.underlying5 rfl (F11.ev 12 rfl) ⟨by omega, by first | omega | (have := byteAt_lt key k; omega)⟩) rfl fun _ F12 => ?_)
     refine l_op (f_call F12 CF_17 rfl rfl rfl rfl (lc (F12.ev 13 rfl) (lc rfl (lc rfl rfl))) (spec_l01In_c (H := fun _ => True) (x := ((byteAt key k : Nat) : Int)) (least := 33) (most := 126) (by have := byteAt_lt key k; exact ⟨by omega, by omega⟩) (by first | assumption | exact ⟨by omega, by omega⟩ | (unfold i64ok at *; omega)) (by first | assumption | exact ⟨by omega, by omega⟩ | (unfold i64ok at *; omega))) ?_)
     rintro _ w13 ⟨rfl, m13⟩
     refine ⟨_, rfl, fun _ F14 => ?_⟩
     have S13 := At.frame0 S3.at' m13
     clear m13
     refine l_op (f_val F14 rfl rfl (r_not rfl (F14.ev 14 rfl)) rfl fun _ F15 => ?_)
     refine l_op (f_mv F15 rfl rfl rfl rfl rfl fun _ F16 => ?_)
     rcases Bool.eq_false_or_eq_true (!(inB ((byteAt key k : Nat) : Int) 33 126)) with h17 | h17
     · rw [h17] at F16
       refine l_op (f_skip F16 (wanted_g F16 rfl rfl rfl rfl) rfl rfl fun _ F18 => ?_)
       refine l_op (f_skip F18 (wanted_g F18 rfl rfl rfl rfl) rfl rfl fun _ F19 => ?_)
       refine l_op (f_skip F19 (wanted_g F19 rfl rfl rfl rfl) rfl rfl fun _ F20 => ?_)
       refine l_op (f_skip F20 (wanted_g F20 rfl rfl rfl rfl) rfl rfl fun _ F21 => ?_)
       refine l_op (f_val F21 rfl rfl (r_pick (b := true) rfl (F21.ev 16 rfl) rfl) rfl fun _ F22 => ?_)
       have F23 : Fr 25 [(21, .bool true), (3, .int .i64 ((k : Nat) : Int)), (0, .string key)] _ := F22.cut rfl
       clear F3 F4 F5 F6 F7 F9 F10 F11 F12 F14 F15 F16 F18 F19 F20 F21 F22
       have T24 : Mv _ _ [] _ := S13
       refine s_end (x_normal (wp_cond_true (F23.ev 21 rfl) (wp_seq (wp_region_lit (l_op (f_val F23 rfl rfl (r_assign rfl rfl) rfl fun _ F25 => ?_))))))
       refine s_end (x_normal (wp_ret (x_block_ret (x_then_ret (x_then_ret (x_block_ret (x_then_ret ?_)))))))
       refine x_done (v := .bool false) F25 (results_1 Tryz.results39 (.tmp (F25.ev 2 rfl))) ?_
       exact ⟨(by rw [(show false = (keyOk key) from by first | exact (keyOk_bad (j := k) (by omega) (by rw [kb_in]; simp_all)).symm | exact (keyOk_all (fun j hj => hk_1 j (by omega))).symm)]), (Mv.pick (S3.trans T24) [] rfl)⟩
     · rw [h17] at F16
       refine l_op (f_mv F16 (wanted_g F16 rfl rfl rfl rfl) rfl rfl rfl rfl fun _ F26 => ?_)
       refine l_op (f_mv F26 (wanted_g F26 rfl rfl rfl rfl) rfl rfl rfl rfl fun _ F27 => ?_)
       refine l_op (f_val F27 (wanted_g F27 rfl rfl rfl rfl) rfl (r_indexS (i := k) Tryz.underlying9 rfl (F27.ev 17 rfl) (F27.ev 18 rfl) (by omega) (by first | assumption | omega)) rfl fun _ F28 => ?_)
       refine l_op (f_val F28 (wanted_g F28 rfl rfl rfl rfl) rfl (r_cmp (b := decide (byteAt key k = 42)) (.inl rfl) rfl (F28.ev 19 rfl) rfl (dec_of (by omega))) rfl fun _ F29 => ?_)
       refine l_op (f_val F29 rfl rfl (r_pick (b := false) rfl (F29.ev 16 rfl) (F29.ev 20 rfl)) rfl fun _ F30 => ?_)
       have F31 : Fr 25 [(21, .bool (decide (byteAt key k = 42))), (3, .int .i64 ((k : Nat) : Int)), (0, .string key)] _ := F30.cut rfl
       clear F3 F4 F5 F6 F7 F9 F10 F11 F12 F14 F15 F16 F26 F27 F28 F29 F30
       have T32 : Mv _ _ [] _ := S13
       refine s_end (x_normal (x_cond (p := byteAt key k = 42) (F31.ev 21 rfl) (fun h33 => ?_) (fun h33 => ?_)))
       · skip
         refine wp_seq (wp_region_lit (l_op (f_val F31 rfl rfl (r_assign rfl rfl) rfl fun _ F34 => ?_)))
         refine s_end (x_normal (wp_ret (x_block_ret (x_then_ret (x_then_ret (x_block_ret (x_then_ret ?_)))))))
         refine x_done (v := .bool false) F34 (results_1 Tryz.results39 (.tmp (F34.ev 2 rfl))) ?_
         exact ⟨(by rw [(show false = (keyOk key) from by first | exact (keyOk_bad (j := k) (by omega) (by rw [kb_in]; simp_all)).symm | exact (keyOk_all (fun j hj => hk_1 j (by omega))).symm)]), (Mv.pick (S3.trans T32) [] rfl)⟩
       · skip
         refine wp_skip (x_block_normal (x_normal (wp_region_lit (l_op (f_mv F31 rfl rfl rfl rfl rfl fun _ F35 => ?_)))))
         refine l_op (f_val F35 rfl rfl (r_add (z := ((k + 1 : Nat) : Int)) rfl (F35.ev 8 rfl) rfl (by first | rfl | omega) ⟨by first | omega | (unfold i64ok at *; omega), by first | omega | (unfold i64ok at *; omega)⟩) rfl fun _ F36 => ?_)
         refine l_op (f_as F36 rfl rfl rfl rfl rfl fun _ F37 => ?_)
         refine s_end ?_
         refine x_normal ⟨k + 1, by omega, F37.cut rfl, ((S3.trans T32).pick [] rfl), by omega, all_step hk_1 (by rw [kb_in]; simp_all)⟩
   · skip
     refine wp_exit (x_then_exit (x_then_exit (x_block_here (x_normal (wp_seq (wp_region_lit (l_op (f_mv F7 rfl rfl rfl rfl rfl fun _ F38 => ?_))))))))
     refine l_op (f_val F38 rfl rfl (r_lenS (fun t ht => by cases ht; exact Tryz.underlying9) rfl rfl (F38.ev 22 rfl)) rfl fun _ F39 => ?_)
     refine l_op (f_call F39 CF_17 rfl rfl rfl rfl (lc (F39.ev 23 rfl) (lc rfl (lc rfl rfl))) (spec_l01In_c (H := fun _ => True) (x := ((key.size : Nat) : Int)) (least := 1) (most := 40) (by first | assumption | exact ⟨by omega, by omega⟩ | (unfold i64ok at *; omega)) (by first | assumption | exact ⟨by omega, by omega⟩ | (unfold i64ok at *; omega)) (by first | assumption | exact ⟨by omega, by omega⟩ | (unfold i64ok at *; omega))) ?_)
     rintro _ w40 ⟨rfl, m40⟩
     refine ⟨_, rfl, fun _ F41 => ?_⟩
     have S40 := At.frame0 S3.at' m40
     clear m40
     refine l_op (f_as F41 rfl rfl rfl rfl rfl fun _ F42 => ?_)
     have T43 : Mv _ _ [] _ := S40
     refine s_end (x_normal (wp_ret ?_))
     refine x_done (v := .bool (inB ((key.size : Nat) : Int) 1 40)) F42 (results_1 Tryz.results39 (.tmp (F42.ev 2 rfl))) ?_
     exact ⟨(by rw [(show (inB ((key.size : Nat) : Int) 1 40) = (keyOk key) from by first | exact (keyOk_bad (j := k) (by omega) (by rw [kb_in]; simp_all)).symm | exact (keyOk_all (fun j hj => hk_1 j (by omega))).symm)]), (Mv.pick (S3.trans T43) [] rfl)⟩
theorem impl_KeyOk_c {w : World} {H : Nat → Prop} {key : ByteArray} (Q0 : okS key) :
    Calls Tryz.prog 48 #[.string key] w fun e w' => e = .returned (.bool (keyOk key)) ∧ Mv [] w [] w' := by
 have uU : True := (fun _ => trivial) H
 clear uU
 have kz := Q0
 unfold okS at kz
 refine calls_enter 29 Tryz.func48 rfl Tryz.ntmps48 (Nat.le_of_ble_eq_true rfl) (fun _ F0i => ?_)
 have F0 : Fr 29 [(0, .string key)] _ := F0i
 clear F0i
 refine wp_seq (wp_region_lit (l_op (f_val F0 rfl rfl (r_assign rfl rfl) rfl fun _ F1 => ?_)))
 refine s_end (x_normal (wp_seq (wp_seq (wp_region_lit (l_op (f_mv F1 rfl rfl rfl rfl rfl fun _ F2 => ?_))))))
 refine l_op (f_val F2 rfl rfl (r_lenS (fun t ht => by cases ht; exact Tryz.underlying9) rfl rfl (F2.ev 4 rfl)) rfl fun _ F3 => ?_)
 refine l_op (f_val F3 rfl rfl (r_move rfl rfl) rfl fun _ F4 => ?_)
 refine s_end (x_normal (wp_block ?_))
 refine x_loop (fun (k : Nat) aZ wZ => Fr 29 [(6, .int .i64 ((k : Nat) : Int)), (5, .int .i64 ((key.size : Nat) : Int)), (0, .string key)] aZ ∧ Mv [] w [] wZ ∧ (k ≤ key.size) ∧ (∀ j, j < k → kb (byteAt key j) = true)) (fun (k : Nat) => key.size - k) (0) ?_ ?_
 · exact ⟨F4.cut rfl, (Mv.refl (At.nil w)), by omega, all_none⟩
 · rintro k a5 w5 ⟨F5, S5, hk_0, hk_1⟩
   refine wp_seq (wp_region_lit (l_op (f_val F5 rfl rfl (r_cmp (b := decide (k < key.size)) (.inr (.inr (.inl rfl))) rfl (F5.ev 6 rfl) (F5.ev 5 rfl) (dec_of (by omega))) rfl fun _ F6 => ?_)))
   refine s_end (x_normal (wp_seq (x_cond (p := k < key.size) (F6.ev 7 rfl) (fun h7 => ?_) (fun h7 => ?_))))
   · skip
     refine wp_skip (x_normal (wp_seq (wp_block (wp_seq (wp_region_lit (l_op (f_mv F6 rfl rfl rfl rfl rfl fun _ F8 => ?_)))))))
     refine l_op (f_as F8 rfl rfl rfl rfl rfl fun _ F9 => ?_)
     refine s_end (x_normal (wp_seq (wp_region_lit (l_op (f_mv F9 rfl rfl rfl rfl rfl fun _ F10 => ?_)))))
     refine l_op (f_mv F10 rfl rfl rfl rfl rfl fun _ F11 => ?_)
     refine l_op (f_val F11 rfl rfl (r_indexS (i := k) Tryz.underlying9 rfl (F11.ev 9 rfl) (F11.ev 10 rfl) (by omega) (by first | assumption | omega)) rfl fun _ F12 => ?_)
     refine l_op (f_val F12 rfl rfl (r_cmp (b := decide (byteAt key k < 33)) (.inr (.inr (.inl rfl))) rfl (F12.ev 11 rfl) rfl (dec_of (by omega))) rfl fun _ F13 => ?_)
     refine l_op (f_mv F13 rfl rfl rfl rfl rfl fun _ F14 => ?_)
     rcases Decidable.em (byteAt key k < 33) with h15 | h15
     · rw [decide_eq_true h15] at F14
       refine l_op (f_skip F14 (wanted_g F14 rfl rfl rfl rfl) rfl rfl fun _ F16 => ?_)
       refine l_op (f_skip F16 (wanted_g F16 rfl rfl rfl rfl) rfl rfl fun _ F17 => ?_)
       refine l_op (f_skip F17 (wanted_g F17 rfl rfl rfl rfl) rfl rfl fun _ F18 => ?_)
       refine l_op (f_skip F18 (wanted_g F18 rfl rfl rfl rfl) rfl rfl fun _ F19 => ?_)
       refine l_op (f_val F19 rfl rfl (r_pick (b := true) rfl (F19.ev 13 rfl) rfl) rfl fun _ F20 => ?_)
       refine l_op (f_mv F20 rfl rfl rfl rfl rfl fun _ F21 => ?_)
       refine l_op (f_skip F21 (wanted_g F21 rfl rfl rfl rfl) rfl rfl fun _ F22 => ?_)
       refine l_op (f_skip F22 (wanted_g F22 rfl rfl rfl rfl) rfl rfl fun _ F23 => ?_)
       refine l_op (f_skip F23 (wanted_g F23 rfl rfl rfl rfl) rfl rfl fun _ F24 => ?_)
       refine l_op (f_skip F24 (wanted_g F24 rfl rfl rfl rfl) rfl rfl fun _ F25 => ?_)
       refine l_op (f_val F25 rfl rfl (r_pick (b := true) rfl (F25.ev 19 rfl) rfl) rfl fun _ F26 => ?_)
       have F27 : Fr 29 [(24, .bool true), (6, .int .i64 ((k : Nat) : Int)), (5, .int .i64 ((key.size : Nat) : Int)), (0, .string key)] _ := F26.cut rfl
       clear F5 F6 F8 F9 F10 F11 F12 F13 F14 F16 F17 F18 F19 F20 F21 F22 F23 F24 F25 F26
       refine s_end (x_normal (wp_cond_true (F27.ev 24 rfl) (wp_seq (wp_region_lit (l_op (f_val F27 rfl rfl (r_assign rfl rfl) rfl fun _ F28 => ?_))))))
       refine s_end (x_normal (wp_ret (x_block_ret (x_then_ret (x_then_ret (x_block_ret (x_then_ret ?_)))))))
       refine x_done (v := .bool false) F28 (results_1 Tryz.results48 (.tmp (F28.ev 2 rfl))) ?_
       exact ⟨(by rw [(show false = (keyOk key) from by first | exact (keyOk_bad (j := k) (by omega) (by unfold kb; exact decide_eq_false (by omega))).symm | exact (keyOk_all (fun j hj => hk_1 j (by omega))).symm)]), (Mv.pick S5 [] rfl)⟩
     · rw [decide_eq_false h15] at F14
       refine l_op (f_mv F14 (wanted_g F14 rfl rfl rfl rfl) rfl rfl rfl rfl fun _ F29 => ?_)
       refine l_op (f_mv F29 (wanted_g F29 rfl rfl rfl rfl) rfl rfl rfl rfl fun _ F30 => ?_)
       refine l_op (f_val F30 (wanted_g F30 rfl rfl rfl rfl) rfl (r_indexS (i := k) Tryz.underlying9 rfl (F30.ev 14 rfl) (F30.ev 15 rfl) (by omega) (by first | assumption | omega)) rfl fun _ F31 => ?_)
       refine l_op (f_val F31 (wanted_g F31 rfl rfl rfl rfl) rfl (r_cmp (b := decide (byteAt key k > 126)) (.inr (.inr (.inr (.inr (.inl rfl))))) rfl (F31.ev 16 rfl) rfl (dec_of (by omega))) rfl fun _ F32 => ?_)
       refine l_op (f_val F32 rfl rfl (r_pick (b := false) rfl (F32.ev 13 rfl) (F32.ev 17 rfl)) rfl fun _ F33 => ?_)
       refine l_op (f_mv F33 rfl rfl rfl rfl rfl fun _ F34 => ?_)
       rcases Decidable.em (byteAt key k > 126) with h35 | h35
       · rw [decide_eq_true h35] at F34
         refine l_op (f_skip F34 (wanted_g F34 rfl rfl rfl rfl) rfl rfl fun _ F36 => ?_)
         refine l_op (f_skip F36 (wanted_g F36 rfl rfl rfl rfl) rfl rfl fun _ F37 => ?_)
         refine l_op (f_skip F37 (wanted_g F37 rfl rfl rfl rfl) rfl rfl fun _ F38 => ?_)
         refine l_op (f_skip F38 (wanted_g F38 rfl rfl rfl rfl) rfl rfl fun _ F39 => ?_)
         refine l_op (f_val F39 rfl rfl (r_pick (b := true) rfl (F39.ev 19 rfl) rfl) rfl fun _ F40 => ?_)
         have F41 : Fr 29 [(24, .bool true), (6, .int .i64 ((k : Nat) : Int)), (5, .int .i64 ((key.size : Nat) : Int)), (0, .string key)] _ := F40.cut rfl
         clear F5 F6 F8 F9 F10 F11 F12 F13 F14 F29 F30 F31 F32 F33 F34 F36 F37 F38 F39 F40
         refine s_end (x_normal (wp_cond_true (F41.ev 24 rfl) (wp_seq (wp_region_lit (l_op (f_val F41 rfl rfl (r_assign rfl rfl) rfl fun _ F42 => ?_))))))
         refine s_end (x_normal (wp_ret (x_block_ret (x_then_ret (x_then_ret (x_block_ret (x_then_ret ?_)))))))
         refine x_done (v := .bool false) F42 (results_1 Tryz.results48 (.tmp (F42.ev 2 rfl))) ?_
         exact ⟨(by rw [(show false = (keyOk key) from by first | exact (keyOk_bad (j := k) (by omega) (by unfold kb; exact decide_eq_false (by omega))).symm | exact (keyOk_all (fun j hj => hk_1 j (by omega))).symm)]), (Mv.pick S5 [] rfl)⟩
       · rw [decide_eq_false h35] at F34
         refine l_op (f_mv F34 (wanted_g F34 rfl rfl rfl rfl) rfl rfl rfl rfl fun _ F43 => ?_)
         refine l_op (f_mv F43 (wanted_g F43 rfl rfl rfl rfl) rfl rfl rfl rfl fun _ F44 => ?_)
         refine l_op (f_val F44 (wanted_g F44 rfl rfl rfl rfl) rfl (r_indexS (i := k) Tryz.underlying9 rfl (F44.ev 20 rfl) (F44.ev 21 rfl) (by omega) (by first | assumption | omega)) rfl fun _ F45 => ?_)
         refine l_op (f_val F45 (wanted_g F45 rfl rfl rfl rfl) rfl (r_cmp (b := decide (byteAt key k = 42)) (.inl rfl) rfl (F45.ev 22 rfl) rfl (dec_of (by omega))) rfl fun _ F46 => ?_)
         refine l_op (f_val F46 rfl rfl (r_pick (b := false) rfl (F46.ev 19 rfl) (F46.ev 23 rfl)) rfl fun _ F47 => ?_)
         have F48 : Fr 29 [(24, .bool (decide (byteAt key k = 42))), (6, .int .i64 ((k : Nat) : Int)), (5, .int .i64 ((key.size : Nat) : Int)), (0, .string key)] _ := F47.cut rfl
         clear F5 F6 F8 F9 F10 F11 F12 F13 F14 F29 F30 F31 F32 F33 F34 F43 F44 F45 F46 F47
         refine s_end (x_normal (x_cond (p := byteAt key k = 42) (F48.ev 24 rfl) (fun h49 => ?_) (fun h49 => ?_)))
         · skip
           refine wp_seq (wp_region_lit (l_op (f_val F48 rfl rfl (r_assign rfl rfl) rfl fun _ F50 => ?_)))
           refine s_end (x_normal (wp_ret (x_block_ret (x_then_ret (x_then_ret (x_block_ret (x_then_ret ?_)))))))
           refine x_done (v := .bool false) F50 (results_1 Tryz.results48 (.tmp (F50.ev 2 rfl))) ?_
           exact ⟨(by rw [(show false = (keyOk key) from by first | exact (keyOk_bad (j := k) (by omega) (by unfold kb; exact decide_eq_false (by omega))).symm | exact (keyOk_all (fun j hj => hk_1 j (by omega))).symm)]), (Mv.pick S5 [] rfl)⟩
         · skip
           refine wp_skip (x_block_normal (x_normal (wp_region_lit (l_op (f_val F48 rfl rfl (r_add (z := ((k + 1 : Nat) : Int)) rfl (F48.ev 6 rfl) rfl (by first | rfl | omega) ⟨by first | omega | (unfold i64ok at *; omega), by first | omega | (unfold i64ok at *; omega)⟩) rfl fun _ F51 => ?_)))))
           refine l_op (f_mv F51 rfl rfl rfl rfl rfl fun _ F52 => ?_)
           refine s_end ?_
           refine x_normal ⟨k + 1, by omega, F52.cut rfl, (S5.pick [] rfl), by omega, all_step hk_1 (by unfold kb; exact decide_eq_true (by omega))⟩
   · skip
     refine wp_exit (x_then_exit (x_then_exit (x_block_here (x_normal (wp_seq (wp_region_lit (l_op (f_mv F6 rfl rfl rfl rfl rfl fun _ F53 => ?_))))))))
     refine l_op (f_val F53 rfl rfl (r_lenS (fun t ht => by cases ht; exact Tryz.underlying9) rfl rfl (F53.ev 26 rfl)) rfl fun _ F54 => ?_)
     refine l_op (f_call F54 CF_26 rfl rfl rfl rfl (lc (F54.ev 27 rfl) (lc rfl (lc rfl rfl))) (impl_within_c (H := fun _ => True) (n := ((key.size : Nat) : Int)) (low := 1) (high := 40) (by first | assumption | exact ⟨by omega, by omega⟩ | (unfold i64ok at *; omega)) (by first | assumption | exact ⟨by omega, by omega⟩ | (unfold i64ok at *; omega)) (by first | assumption | exact ⟨by omega, by omega⟩ | (unfold i64ok at *; omega))) ?_)
     rintro _ w55 ⟨rfl, m55⟩
     refine ⟨_, rfl, fun _ F56 => ?_⟩
     have S55 := At.frame0 S5.at' m55
     clear m55
     refine l_op (f_as F56 rfl rfl rfl rfl rfl fun _ F57 => ?_)
     have T58 : Mv _ _ [] _ := S55
     refine s_end (x_normal (wp_ret ?_))
     refine x_done (v := .bool (inB ((key.size : Nat) : Int) 1 40)) F57 (results_1 Tryz.results48 (.tmp (F57.ev 2 rfl))) ?_
     exact ⟨(by rw [(show (inB ((key.size : Nat) : Int) 1 40) = (keyOk key) from by first | exact (keyOk_bad (j := k) (by omega) (by unfold kb; exact decide_eq_false (by omega))).symm | exact (keyOk_all (fun j hj => hk_1 j (by omega))).symm)]), (Mv.pick (S5.trans T58) [] rfl)⟩
theorem spec_StoreOk_c {w : World} {H : Nat → Prop} {s : List CellD} {s_a : Option Addr} {s_n s_c : Nat} (v_s : Rd 2 encC okC H w (.slice s_a s_n s_c) s) :
    Calls Tryz.prog 15 #[.slice s_a s_n s_c] w fun e w' => e = .returned (.bool (storeOk s)) ∧ Mv [] w [] w' := by
 have Q0 : Rd 2 encC okC (V H w []) w (.slice s_a s_n s_c) s := Rd.start v_s (fun _ _ => fps_nil _)
 obtain ⟨ln_s, le_s, mx_s, ni_s⟩ := Rd.inv v_s
 refine calls_enter 48 Tryz.func15 rfl Tryz.ntmps15 (Nat.le_of_ble_eq_true rfl) (fun _ F0i => ?_)
 have F0 : Fr 48 [(0, .slice s_a s_n s_c)] _ := F0i
 clear F0i
 refine wp_seq (wp_region_lit (l_op (f_val F0 rfl rfl (r_assign rfl rfl) rfl fun _ F1 => ?_)))
 refine s_end (x_normal (wp_seq (wp_seq (wp_region_lit (l_op (f_val F1 rfl rfl (r_assign rfl rfl) rfl fun _ F2 => ?_))))))
 refine s_end (x_normal (wp_block ?_))
 refine x_loop (fun (k : Nat) aZ wZ => Fr 48 [(3, .int .i64 ((k : Nat) : Int)), (0, .slice s_a s_n s_c)] aZ ∧ Mv [] w [] wZ ∧ (k ≤ s_n) ∧ (∀ j, j < k → cellOk s j = true)) (fun (k : Nat) => s_n - k) (0) ?_ ?_
 · exact ⟨F2.cut rfl, (Mv.refl (At.nil w)), by omega, all_none⟩
 · rintro k a3 w3 ⟨F3, S3, hk_0, hk_1⟩
   refine wp_seq (wp_seq (wp_region_lit (l_op (f_mv F3 rfl rfl rfl rfl rfl fun _ F4 => ?_))))
   refine l_op (f_mv F4 rfl rfl rfl rfl rfl fun _ F5 => ?_)
   refine l_op (f_val F5 rfl rfl (r_len Tryz.underlying35 rfl (F5.ev 5 rfl)) rfl fun _ F6 => ?_)
   refine l_op (f_val F6 rfl rfl (r_cmp (b := decide (k < s_n)) (.inr (.inr (.inl rfl))) rfl (F6.ev 4 rfl) (F6.ev 6 rfl) (dec_of (by omega))) rfl fun _ F7 => ?_)
   refine s_end (x_normal (x_cond (p := k < s_n) (F7.ev 7 rfl) (fun h8 => ?_) (fun h8 => ?_)))
   · skip
     refine wp_skip (x_normal (wp_seq (wp_block (wp_seq ?_))))
     obtain ⟨x1, hx1, okx1⟩ := Rd.elem (Rd.mv (Nat.succ_pos _) Q0 S3) k (by first | assumption | omega)
     refine x_draw (fun aZ wZ => Fr 48 [(0, .slice s_a s_n s_c), (3, .int .i64 ((k : Nat) : Int)), (44, .bool (!cellOk s k))] aZ ∧ Mv [] w3 [] wZ) [] mixed S3.at' (listed := #[false, false, false, false, false, false, false, false, false, false, false, false, false, false, false, false, false, false, false, false, false, false, false, false, false, false, false, false, false, false, false, false, false, false, false]) rfl (fun w10 S10 => ?_) [] rfl ?_
     · skip
       refine g_take F7 rfl (i := 0) (listed' := #[true, false, false, false, false, false, false, false, false, false, false, false, false, false, false, false, false, false, false, false, false, false, false, false, false, false, false, false, false, false, false, false, false, false, false]) rfl (by kernel_rfl) (by kernel_rfl) (by kernel_rfl) (fun _ _ _ h => h) (Sd.of (Mv.refl S10.at') [] rfl) rfl rfl rfl rfl (fun _ hz => (r_move rfl (F7.ev 0 rfl))) fun _ F11 => ?_
       refine g_take F11 rfl (i := 1) (listed' := #[true, true, false, false, false, false, false, false, false, false, false, false, false, false, false, false, false, false, false, false, false, false, false, false, false, false, false, false, false, false, false, false, false, false, false]) rfl (by kernel_rfl) (by kernel_rfl) (by kernel_rfl) (fun _ _ _ h => h) (Sd.of (Mv.refl S10.at') [] rfl) rfl rfl rfl rfl (fun _ hz => (r_move rfl (F11.ev 3 rfl))) fun _ F12 => ?_
       obtain ⟨B13, O13, y13, ad13, hy13, oky13, ln13, cl13⟩ := Rd.atK (Nat.succ_pos _) (Rd.mv (Nat.succ_pos _) Q0 (S3.trans S10)) k (by first | assumption | omega)
       clear ln13
       obtain rfl := Option.some.inj (hx1.symm.trans hy13)
       clear hy13 oky13
       refine g_take F12 rfl (i := 2) (listed' := #[true, true, true, false, false, false, false, false, false, false, false, false, false, false, false, false, false, false, false, false, false, false, false, false, false, false, false, false, false, false, false, false, false, false, false]) rfl (by kernel_rfl) (by kernel_rfl) (by kernel_rfl) (fun _ _ _ h => h) (Sd.of (Mv.refl S10.at') [] rfl) rfl rfl rfl rfl (fun _ hz => (r_indexAddr (i := k) ET_35 rfl ((F12.ev 10 rfl).trans (by rw [ad13])) (F12.ev 11 rfl) (by omega) (by first | assumption | omega))) fun _ F14 => ?_
       refine g_take F14 rfl (i := 3) (listed' := #[true, true, true, true, false, false, false, false, false, false, false, false, false, false, false, false, false, false, false, false, false, false, false, false, false, false, false, false, false, false, false, false, false, false, false]) rfl (by kernel_rfl) (by kernel_rfl) (by kernel_rfl) (fun _ _ _ h => h) (Sd.of (Mv.refl S10.at') [] rfl) rfl rfl rfl rfl (fun _ hz => (r_field FI_90_0 rfl (F14.ev 12 rfl) rfl)) fun _ F15 => ?_
       refine g_take (v := .string x1.key) F15 rfl (i := 4) (listed' := #[true, true, true, true, true, false, false, false, false, false, false, false, false, false, false, false, false, false, false, false, false, false, false, false, false, false, false, false, false, false, false, false, false, false, false]) rfl (by kernel_rfl) (by kernel_rfl) (by kernel_rfl) (fun _ _ _ h => h) (Sd.of (Mv.refl S10.at') [] rfl) rfl rfl rfl rfl (fun _ hz => (r_load (cs := [.string x1.key]) TI_9 rfl (F15.ev 13 rfl) rfl (fun _ => rfl) (elem_sub (f := 0) (cl13 _ hz.kp) [.string x1.key] rfl))) fun _ F16 => ?_
       refine d_one (i := 5) (listed' := #[true, true, true, true, true, true, false, false, false, false, false, false, false, false, false, false, false, false, false, false, false, false, false, false, false, false, false, false, false, false, false, false, false, false, false]) rfl (by kernel_rfl) rfl rfl ?_
       refine f_call F16 CF_39 rfl rfl rfl rfl (lc (F16.ev 14 rfl) rfl) (spec_KeyOk_c (H := fun _ => True) (key := x1.key) okx1.1) ?_
       rintro _ w17 ⟨rfl, m17⟩
       refine ⟨_, rfl, fun _ F18 => ?_⟩
       have S17 := At.frame0 S10.at' m17
       clear m17
       refine ⟨Sd.of S17 [] rfl, ?_⟩
       refine g_take F18 rfl (i := 6) (listed' := #[true, true, true, true, true, true, true, false, false, false, false, false, false, false, false, false, false, false, false, false, false, false, false, false, false, false, false, false, false, false, false, false, false, false, false]) rfl (by kernel_rfl) (by kernel_rfl) (by kernel_rfl) (fun _ _ _ h => h) (Sd.of S17 [] rfl) rfl rfl rfl rfl (fun _ hz => (r_not rfl (F18.ev 15 rfl))) fun _ F19 => ?_
       refine g_take F19 rfl (i := 7) (listed' := #[true, true, true, true, true, true, true, true, false, false, false, false, false, false, false, false, false, false, false, false, false, false, false, false, false, false, false, false, false, false, false, false, false, false, false]) rfl (by kernel_rfl) (by kernel_rfl) (by kernel_rfl) (fun _ _ _ h => h) (Sd.of S17 [] rfl) rfl rfl rfl rfl (fun _ hz => (r_move rfl (F19.ev 16 rfl))) fun _ F20 => ?_
       rcases Bool.eq_false_or_eq_true (!(keyOk x1.key)) with h21 | h21
       · rw [h21] at F20
         refine g_skip F20 rfl (i := 8) (listed' := #[true, true, true, true, true, true, true, true, true, false, false, false, false, false, false, false, false, false, false, false, false, false, false, false, false, false, false, false, false, false, false, false, false, false, false]) rfl (by kernel_rfl) (by kernel_rfl) (by kernel_rfl) (fun _ _ _ h => h) (Sd.of S17 [] rfl) rfl (wanted_g F20 rfl rfl rfl rfl) rfl rfl fun _ F22 => ?_
         refine g_skip F22 rfl (i := 9) (listed' := #[true, true, true, true, true, true, true, true, true, true, false, false, false, false, false, false, false, false, false, false, false, false, false, false, false, false, false, false, false, false, false, false, false, false, false]) rfl (by kernel_rfl) (by kernel_rfl) (by kernel_rfl) (fun _ _ _ h => h) (Sd.of S17 [] rfl) rfl (wanted_g F22 rfl rfl rfl rfl) rfl rfl fun _ F23 => ?_
         refine g_skip F23 rfl (i := 10) (listed' := #[true, true, true, true, true, true, true, true, true, true, true, false, false, false, false, false, false, false, false, false, false, false, false, false, false, false, false, false, false, false, false, false, false, false, false]) rfl (by kernel_rfl) (by kernel_rfl) (by kernel_rfl) (fun _ _ _ h => h) (Sd.of S17 [] rfl) rfl (wanted_g F23 rfl rfl rfl rfl) rfl rfl fun _ F24 => ?_
         refine g_skip F24 rfl (i := 11) (listed' := #[true, true, true, true, true, true, true, true, true, true, true, true, false, false, false, false, false, false, false, false, false, false, false, false, false, false, false, false, false, false, false, false, false, false, false]) rfl (by kernel_rfl) (by kernel_rfl) (by kernel_rfl) (fun _ _ _ h => h) (Sd.of S17 [] rfl) rfl (wanted_g F24 rfl rfl rfl rfl) rfl rfl fun _ F25 => ?_
         refine g_skip F25 rfl (i := 12) (listed' := #[true, true, true, true, true, true, true, true, true, true, true, true, true, false, false, false, false, false, false, false, false, false, false, false, false, false, false, false, false, false, false, false, false, false, false]) rfl (by kernel_rfl) (by kernel_rfl) (by kernel_rfl) (fun _ _ _ h => h) (Sd.of S17 [] rfl) rfl (wanted_g F25 rfl rfl rfl rfl) rfl rfl fun _ F26 => ?_
         refine g_skip F26 rfl (i := 13) (listed' := #[true, true, true, true, true, true, true, true, true, true, true, true, true, true, false, false, false, false, false, false, false, false, false, false, false, false, false, false, false, false, false, false, false, false, false]) rfl (by kernel_rfl) (by kernel_rfl) (by kernel_rfl) (fun _ _ _ h => h) (Sd.of S17 [] rfl) rfl (wanted_g F26 rfl rfl rfl rfl) rfl rfl fun _ F27 => ?_
         refine g_skip F27 rfl (i := 14) (listed' := #[true, true, true, true, true, true, true, true, true, true, true, true, true, true, true, false, false, false, false, false, false, false, false, false, false, false, false, false, false, false, false, false, false, false, false]) rfl (by kernel_rfl) (by kernel_rfl) (by kernel_rfl) (fun _ _ _ h => h) (Sd.of S17 [] rfl) rfl (wanted_g F27 rfl rfl rfl rfl) rfl rfl fun _ F28 => ?_
         refine g_skip F28 rfl (i := 15) (listed' := #[true, true, true, true, true, true, true, true, true, true, true, true, true, true, true, true, false, false, false, false, false, false, false, false, false, false, false, false, false, false, false, false, false, false, false]) rfl (by kernel_rfl) (by kernel_rfl) (by kernel_rfl) (fun _ _ _ h => h) (Sd.of S17 [] rfl) rfl (wanted_g F28 rfl rfl rfl rfl) rfl rfl fun _ F29 => ?_
         refine g_take F29 rfl (i := 16) (listed' := #[true, true, true, true, true, true, true, true, true, true, true, true, true, true, true, true, true, false, false, false, false, false, false, false, false, false, false, false, false, false, false, false, false, false, false]) rfl (by kernel_rfl) (by kernel_rfl) (by kernel_rfl) (fun _ _ _ h => h) (Sd.of S17 [] rfl) rfl rfl rfl rfl (fun _ hz => (r_pick (b := true) rfl (F29.ev 17 rfl) rfl)) fun _ F30 => ?_
         refine g_take F30 rfl (i := 17) (listed' := #[true, true, true, true, true, true, true, true, true, true, true, true, true, true, true, true, true, true, false, false, false, false, false, false, false, false, false, false, false, false, false, false, false, false, false]) rfl (by kernel_rfl) (by kernel_rfl) (by kernel_rfl) (fun _ _ _ h => h) (Sd.of S17 [] rfl) rfl rfl rfl rfl (fun _ hz => (r_move rfl (F30.ev 26 rfl))) fun _ F31 => ?_
         refine g_skip F31 rfl (i := 18) (listed' := #[true, true, true, true, true, true, true, true, true, true, true, true, true, true, true, true, true, true, true, false, false, false, false, false, false, false, false, false, false, false, false, false, false, false, false]) rfl (by kernel_rfl) (by kernel_rfl) (by kernel_rfl) (fun _ _ _ h => h) (Sd.of S17 [] rfl) rfl (wanted_g F31 rfl rfl rfl rfl) rfl rfl fun _ F32 => ?_
         refine g_skip F32 rfl (i := 19) (listed' := #[true, true, true, true, true, true, true, true, true, true, true, true, true, true, true, true, true, true, true, true, false, false, false, false, false, false, false, false, false, false, false, false, false, false, false]) rfl (by kernel_rfl) (by kernel_rfl) (by kernel_rfl) (fun _ _ _ h => h) (Sd.of S17 [] rfl) rfl (wanted_g F32 rfl rfl rfl rfl) rfl rfl fun _ F33 => ?_
         refine g_skip F33 rfl (i := 20) (listed' := #[true, true, true, true, true, true, true, true, true, true, true, true, true, true, true, true, true, true, true, true, true, false, false, false, false, false, false, false, false, false, false, false, false, false, false]) rfl (by kernel_rfl) (by kernel_rfl) (by kernel_rfl) (fun _ _ _ h => h) (Sd.of S17 [] rfl) rfl (wanted_g F33 rfl rfl rfl rfl) rfl rfl fun _ F34 => ?_
         refine g_skip F34 rfl (i := 21) (listed' := #[true, true, true, true, true, true, true, true, true, true, true, true, true, true, true, true, true, true, true, true, true, true, false, false, false, false, false, false, false, false, false, false, false, false, false]) rfl (by kernel_rfl) (by kernel_rfl) (by kernel_rfl) (fun _ _ _ h => h) (Sd.of S17 [] rfl) rfl (wanted_u F34 rfl rfl rfl) rfl rfl fun _ F35 => ?_
         refine g_skip F35 rfl (i := 22) (listed' := #[true, true, true, true, true, true, true, true, true, true, true, true, true, true, true, true, true, true, true, true, true, true, true, false, false, false, false, false, false, false, false, false, false, false, false]) rfl (by kernel_rfl) (by kernel_rfl) (by kernel_rfl) (fun _ _ _ h => h) (Sd.of S17 [] rfl) rfl (wanted_u F35 rfl rfl rfl) rfl rfl fun _ F36 => ?_
         refine g_skip F36 rfl (i := 23) (listed' := #[true, true, true, true, true, true, true, true, true, true, true, true, true, true, true, true, true, true, true, true, true, true, true, true, false, false, false, false, false, false, false, false, false, false, false]) rfl (by kernel_rfl) (by kernel_rfl) (by kernel_rfl) (fun _ _ _ h => h) (Sd.of S17 [] rfl) rfl (wanted_u F36 rfl rfl rfl) rfl rfl fun _ F37 => ?_
         refine g_skip F37 rfl (i := 24) (listed' := #[true, true, true, true, true, true, true, true, true, true, true, true, true, true, true, true, true, true, true, true, true, true, true, true, true, false, false, false, false, false, false, false, false, false, false]) rfl (by kernel_rfl) (by kernel_rfl) (by kernel_rfl) (fun _ _ _ h => h) (Sd.of S17 [] rfl) rfl (wanted_u F37 rfl rfl rfl) rfl rfl fun _ F38 => ?_
         refine g_skip F38 rfl (i := 25) (listed' := #[true, true, true, true, true, true, true, true, true, true, true, true, true, true, true, true, true, true, true, true, true, true, true, true, true, true, false, false, false, false, false, false, false, false, false]) rfl (by kernel_rfl) (by kernel_rfl) (by kernel_rfl) (fun _ _ _ h => h) (Sd.of S17 [] rfl) rfl (wanted_u F38 rfl rfl rfl) rfl rfl fun _ F39 => ?_
         refine g_skip F39 rfl (i := 26) (listed' := #[true, true, true, true, true, true, true, true, true, true, true, true, true, true, true, true, true, true, true, true, true, true, true, true, true, true, true, false, false, false, false, false, false, false, false]) rfl (by kernel_rfl) (by kernel_rfl) (by kernel_rfl) (fun _ _ _ h => h) (Sd.of S17 [] rfl) rfl (wanted_u F39 rfl rfl rfl) rfl rfl fun _ F40 => ?_
         refine g_skip F40 rfl (i := 27) (listed' := #[true, true, true, true, true, true, true, true, true, true, true, true, true, true, true, true, true, true, true, true, true, true, true, true, true, true, true, true, false, false, false, false, false, false, false]) rfl (by kernel_rfl) (by kernel_rfl) (by kernel_rfl) (fun _ _ _ h => h) (Sd.of S17 [] rfl) rfl (wanted_u F40 rfl rfl rfl) rfl rfl fun _ F41 => ?_
         refine g_skip F41 rfl (i := 28) (listed' := #[true, true, true, true, true, true, true, true, true, true, true, true, true, true, true, true, true, true, true, true, true, true, true, true, true, true, true, true, true, false, false, false, false, false, false]) rfl (by kernel_rfl) (by kernel_rfl) (by kernel_rfl) (fun _ _ _ h => h) (Sd.of S17 [] rfl) rfl (wanted_u F41 rfl rfl rfl) rfl rfl fun _ F42 => ?_
         refine g_skip F42 rfl (i := 29) (listed' := #[true, true, true, true, true, true, true, true, true, true, true, true, true, true, true, true, true, true, true, true, true, true, true, true, true, true, true, true, true, true, false, false, false, false, false]) rfl (by kernel_rfl) (by kernel_rfl) (by kernel_rfl) (fun _ _ _ h => h) (Sd.of S17 [] rfl) rfl (wanted_u F42 rfl rfl rfl) rfl rfl fun _ F43 => ?_
         refine g_skip F43 rfl (i := 30) (listed' := #[true, true, true, true, true, true, true, true, true, true, true, true, true, true, true, true, true, true, true, true, true, true, true, true, true, true, true, true, true, true, true, false, false, false, false]) rfl (by kernel_rfl) (by kernel_rfl) (by kernel_rfl) (fun _ _ _ h => h) (Sd.of S17 [] rfl) rfl (wanted_u F43 rfl rfl rfl) rfl rfl fun _ F44 => ?_
         refine g_skip F44 rfl (i := 31) (listed' := #[true, true, true, true, true, true, true, true, true, true, true, true, true, true, true, true, true, true, true, true, true, true, true, true, true, true, true, true, true, true, true, true, false, false, false]) rfl (by kernel_rfl) (by kernel_rfl) (by kernel_rfl) (fun _ _ _ h => h) (Sd.of S17 [] rfl) rfl (wanted_u F44 rfl rfl rfl) rfl rfl fun _ F45 => ?_
         refine g_skip F45 rfl (i := 32) (listed' := #[true, true, true, true, true, true, true, true, true, true, true, true, true, true, true, true, true, true, true, true, true, true, true, true, true, true, true, true, true, true, true, true, true, false, false]) rfl (by kernel_rfl) (by kernel_rfl) (by kernel_rfl) (fun _ _ _ h => h) (Sd.of S17 [] rfl) rfl (wanted_u F45 rfl rfl rfl) rfl rfl fun _ F46 => ?_
         refine g_skip F46 rfl (i := 33) (listed' := #[true, true, true, true, true, true, true, true, true, true, true, true, true, true, true, true, true, true, true, true, true, true, true, true, true, true, true, true, true, true, true, true, true, true, false]) rfl (by kernel_rfl) (by kernel_rfl) (by kernel_rfl) (fun _ _ _ h => h) (Sd.of S17 [] rfl) rfl (wanted_g F46 rfl rfl rfl rfl) rfl rfl fun _ F47 => ?_
         refine g_take F47 rfl (i := 34) (listed' := #[true, true, true, true, true, true, true, true, true, true, true, true, true, true, true, true, true, true, true, true, true, true, true, true, true, true, true, true, true, true, true, true, true, true, true]) rfl (by kernel_rfl) (by kernel_rfl) (by kernel_rfl) (fun _ _ _ h => h) (Sd.of S17 [] rfl) rfl rfl rfl rfl (fun _ hz => (r_pick (b := true) rfl (F47.ev 27 rfl) rfl)) fun _ F48 => ?_
         refine wpAnyH_done (by kernel_rfl) (x_normal ?_) _
         exact ⟨Fr.cast (F48.cut rfl) (congrArg (fun zZ => ([(0, .slice s_a s_n s_c), (3, .int .i64 ((k : Nat) : Int)), (44, .bool zZ)] : List (Nat × Value))) (show true = (!cellOk s k) from by first | exact ck_1 hx1 (by assumption) | exact ck_2 hx1 (by assumption) (by assumption) | exact ck_3 hx1 (by assumption) (by assumption) (by assumption) | exact ck_4 hx1 (by assumption) (by assumption) (by assumption) hx2)), ((S10.trans S17).pick [] rfl)⟩
       · rw [h21] at F20
         refine g_take F20 rfl (i := 8) (listed' := #[true, true, true, true, true, true, true, true, true, false, false, false, false, false, false, false, false, false, false, false, false, false, false, false, false, false, false, false, false, false, false, false, false, false, false]) rfl (by kernel_rfl) (by kernel_rfl) (by kernel_rfl) (fun _ _ _ h => h) (Sd.of S17 [] rfl) rfl (wanted_g F20 rfl rfl rfl rfl) rfl rfl (fun _ hz => (r_move rfl (F20.ev 0 rfl))) fun _ F49 => ?_
         refine g_take F49 rfl (i := 9) (listed' := #[true, true, true, true, true, true, true, true, true, true, false, false, false, false, false, false, false, false, false, false, false, false, false, false, false, false, false, false, false, false, false, false, false, false, false]) rfl (by kernel_rfl) (by kernel_rfl) (by kernel_rfl) (fun _ _ _ h => h) (Sd.of S17 [] rfl) rfl (wanted_g F49 rfl rfl rfl rfl) rfl rfl (fun _ hz => (r_move rfl (F49.ev 3 rfl))) fun _ F50 => ?_
         obtain ⟨B51, O51, y51, ad51, hy51, oky51, ln51, cl51⟩ := Rd.atK (Nat.succ_pos _) (Rd.mv (Nat.succ_pos _) Q0 (S3.trans S10)) k (by first | assumption | omega)
         clear ln51
         obtain rfl := Option.some.inj (hx1.symm.trans hy51)
         clear hy51 oky51
         refine g_take F50 rfl (i := 10) (listed' := #[true, true, true, true, true, true, true, true, true, true, true, false, false, false, false, false, false, false, false, false, false, false, false, false, false, false, false, false, false, false, false, false, false, false, false]) rfl (by kernel_rfl) (by kernel_rfl) (by kernel_rfl) (fun _ _ _ h => h) (Sd.of S17 [] rfl) rfl (wanted_g F50 rfl rfl rfl rfl) rfl rfl (fun _ hz => (r_indexAddr (i := k) ET_35 rfl ((F50.ev 18 rfl).trans (by rw [ad51])) (F50.ev 19 rfl) (by omega) (by first | assumption | omega))) fun _ F52 => ?_
         refine g_take F52 rfl (i := 11) (listed' := #[true, true, true, true, true, true, true, true, true, true, true, true, false, false, false, false, false, false, false, false, false, false, false, false, false, false, false, false, false, false, false, false, false, false, false]) rfl (by kernel_rfl) (by kernel_rfl) (by kernel_rfl) (fun _ _ _ h => h) (Sd.of S17 [] rfl) rfl (wanted_g F52 rfl rfl rfl rfl) rfl rfl (fun _ hz => (r_field FI_90_1 rfl (F52.ev 20 rfl) rfl)) fun _ F53 => ?_
         refine g_take (v := .string x1.val) F53 rfl (i := 12) (listed' := #[true, true, true, true, true, true, true, true, true, true, true, true, true, false, false, false, false, false, false, false, false, false, false, false, false, false, false, false, false, false, false, false, false, false, false]) rfl (by kernel_rfl) (by kernel_rfl) (by kernel_rfl) (fun _ _ _ h => h) (Sd.of S17 [] rfl) rfl (wanted_g F53 rfl rfl rfl rfl) rfl rfl (fun _ hz => (r_load (cs := [.string x1.val]) TI_9 rfl (F53.ev 21 rfl) rfl (fun _ => rfl) (elem_sub (f := 1) (cl51 _ hz.kp) [.string x1.val] rfl))) fun _ F54 => ?_
         refine g_take F54 rfl (i := 13) (listed' := #[true, true, true, true, true, true, true, true, true, true, true, true, true, true, false, false, false, false, false, false, false, false, false, false, false, false, false, false, false, false, false, false, false, false, false]) rfl (by kernel_rfl) (by kernel_rfl) (by kernel_rfl) (fun _ _ _ h => h) (Sd.of S17 [] rfl) rfl (wanted_g F54 rfl rfl rfl rfl) rfl rfl (fun _ hz => (r_lenS (fun t ht => by cases ht; exact Tryz.underlying9) rfl rfl (F54.ev 22 rfl))) fun _ F55 => ?_
         refine d_one (i := 14) (listed' := #[true, true, true, true, true, true, true, true, true, true, true, true, true, true, true, false, false, false, false, false, false, false, false, false, false, false, false, false, false, false, false, false, false, false, false]) rfl (by kernel_rfl) rfl rfl ?_
         refine f_call F55 CF_17 (wanted_g F55 rfl rfl rfl rfl) rfl rfl rfl (lc (F55.ev 23 rfl) (lc rfl (lc rfl rfl))) (spec_l01In_c (H := fun _ => True) (x := ((x1.val.size : Nat) : Int)) (least := 1) (most := 60) (by first | exact ⟨by omega, by omega⟩ | (have hz := okx1.2; unfold okS at hz; exact ⟨by omega, by omega⟩)) (by first | exact ⟨by omega, by omega⟩ | (have hz := okx1.2; unfold okS at hz; exact ⟨by omega, by omega⟩)) (by first | exact ⟨by omega, by omega⟩ | (have hz := okx1.2; unfold okS at hz; exact ⟨by omega, by omega⟩))) ?_
         rintro _ w56 ⟨rfl, m56⟩
         refine ⟨_, rfl, fun _ F57 => ?_⟩
         have S56 := At.frame0 S17.at' m56
         clear m56
         refine ⟨Sd.of (S17.trans S56) [] rfl, ?_⟩
         refine g_take F57 rfl (i := 15) (listed' := #[true, true, true, true, true, true, true, true, true, true, true, true, true, true, true, true, false, false, false, false, false, false, false, false, false, false, false, false, false, false, false, false, false, false, false]) rfl (by kernel_rfl) (by kernel_rfl) (by kernel_rfl) (fun _ _ _ h => h) (Sd.of (S17.trans S56) [] rfl) rfl (wanted_g F57 rfl rfl rfl rfl) rfl rfl (fun _ hz => (r_not rfl (F57.ev 24 rfl))) fun _ F58 => ?_
         refine g_take F58 rfl (i := 16) (listed' := #[true, true, true, true, true, true, true, true, true, true, true, true, true, true, true, true, true, false, false, false, false, false, false, false, false, false, false, false, false, false, false, false, false, false, false]) rfl (by kernel_rfl) (by kernel_rfl) (by kernel_rfl) (fun _ _ _ h => h) (Sd.of (S17.trans S56) [] rfl) rfl rfl rfl rfl (fun _ hz => (r_pick (b := false) rfl (F58.ev 17 rfl) (F58.ev 25 rfl))) fun _ F59 => ?_
         refine g_take F59 rfl (i := 17) (listed' := #[true, true, true, true, true, true, true, true, true, true, true, true, true, true, true, true, true, true, false, false, false, false, false, false, false, false, false, false, false, false, false, false, false, false, false]) rfl (by kernel_rfl) (by kernel_rfl) (by kernel_rfl) (fun _ _ _ h => h) (Sd.of (S17.trans S56) [] rfl) rfl rfl rfl rfl (fun _ hz => (r_move rfl (F59.ev 26 rfl))) fun _ F60 => ?_
         rcases Bool.eq_false_or_eq_true (!(inB ((x1.val.size : Nat) : Int) 1 60)) with h61 | h61
         · rw [h61] at F60
           refine g_skip F60 rfl (i := 18) (listed' := #[true, true, true, true, true, true, true, true, true, true, true, true, true, true, true, true, true, true, true, false, false, false, false, false, false, false, false, false, false, false, false, false, false, false, false]) rfl (by kernel_rfl) (by kernel_rfl) (by kernel_rfl) (fun _ _ _ h => h) (Sd.of (S17.trans S56) [] rfl) rfl (wanted_g F60 rfl rfl rfl rfl) rfl rfl fun _ F62 => ?_
           refine g_skip F62 rfl (i := 19) (listed' := #[true, true, true, true, true, true, true, true, true, true, true, true, true, true, true, true, true, true, true, true, false, false, false, false, false, false, false, false, false, false, false, false, false, false, false]) rfl (by kernel_rfl) (by kernel_rfl) (by kernel_rfl) (fun _ _ _ h => h) (Sd.of (S17.trans S56) [] rfl) rfl (wanted_g F62 rfl rfl rfl rfl) rfl rfl fun _ F63 => ?_
           refine g_skip F63 rfl (i := 20) (listed' := #[true, true, true, true, true, true, true, true, true, true, true, true, true, true, true, true, true, true, true, true, true, false, false, false, false, false, false, false, false, false, false, false, false, false, false]) rfl (by kernel_rfl) (by kernel_rfl) (by kernel_rfl) (fun _ _ _ h => h) (Sd.of (S17.trans S56) [] rfl) rfl (wanted_g F63 rfl rfl rfl rfl) rfl rfl fun _ F64 => ?_
           refine g_skip F64 rfl (i := 21) (listed' := #[true, true, true, true, true, true, true, true, true, true, true, true, true, true, true, true, true, true, true, true, true, true, false, false, false, false, false, false, false, false, false, false, false, false, false]) rfl (by kernel_rfl) (by kernel_rfl) (by kernel_rfl) (fun _ _ _ h => h) (Sd.of (S17.trans S56) [] rfl) rfl (wanted_u F64 rfl rfl rfl) rfl rfl fun _ F65 => ?_
           refine g_skip F65 rfl (i := 22) (listed' := #[true, true, true, true, true, true, true, true, true, true, true, true, true, true, true, true, true, true, true, true, true, true, true, false, false, false, false, false, false, false, false, false, false, false, false]) rfl (by kernel_rfl) (by kernel_rfl) (by kernel_rfl) (fun _ _ _ h => h) (Sd.of (S17.trans S56) [] rfl) rfl (wanted_u F65 rfl rfl rfl) rfl rfl fun _ F66 => ?_
           refine g_skip F66 rfl (i := 23) (listed' := #[true, true, true, true, true, true, true, true, true, true, true, true, true, true, true, true, true, true, true, true, true, true, true, true, false, false, false, false, false, false, false, false, false, false, false]) rfl (by kernel_rfl) (by kernel_rfl) (by kernel_rfl) (fun _ _ _ h => h) (Sd.of (S17.trans S56) [] rfl) rfl (wanted_u F66 rfl rfl rfl) rfl rfl fun _ F67 => ?_
           refine g_skip F67 rfl (i := 24) (listed' := #[true, true, true, true, true, true, true, true, true, true, true, true, true, true, true, true, true, true, true, true, true, true, true, true, true, false, false, false, false, false, false, false, false, false, false]) rfl (by kernel_rfl) (by kernel_rfl) (by kernel_rfl) (fun _ _ _ h => h) (Sd.of (S17.trans S56) [] rfl) rfl (wanted_u F67 rfl rfl rfl) rfl rfl fun _ F68 => ?_
           refine g_skip F68 rfl (i := 25) (listed' := #[true, true, true, true, true, true, true, true, true, true, true, true, true, true, true, true, true, true, true, true, true, true, true, true, true, true, false, false, false, false, false, false, false, false, false]) rfl (by kernel_rfl) (by kernel_rfl) (by kernel_rfl) (fun _ _ _ h => h) (Sd.of (S17.trans S56) [] rfl) rfl (wanted_u F68 rfl rfl rfl) rfl rfl fun _ F69 => ?_
           refine g_skip F69 rfl (i := 26) (listed' := #[true, true, true, true, true, true, true, true, true, true, true, true, true, true, true, true, true, true, true, true, true, true, true, true, true, true, true, false, false, false, false, false, false, false, false]) rfl (by kernel_rfl) (by kernel_rfl) (by kernel_rfl) (fun _ _ _ h => h) (Sd.of (S17.trans S56) [] rfl) rfl (wanted_u F69 rfl rfl rfl) rfl rfl fun _ F70 => ?_
           refine g_skip F70 rfl (i := 27) (listed' := #[true, true, true, true, true, true, true, true, true, true, true, true, true, true, true, true, true, true, true, true, true, true, true, true, true, true, true, true, false, false, false, false, false, false, false]) rfl (by kernel_rfl) (by kernel_rfl) (by kernel_rfl) (fun _ _ _ h => h) (Sd.of (S17.trans S56) [] rfl) rfl (wanted_u F70 rfl rfl rfl) rfl rfl fun _ F71 => ?_
           refine g_skip F71 rfl (i := 28) (listed' := #[true, true, true, true, true, true, true, true, true, true, true, true, true, true, true, true, true, true, true, true, true, true, true, true, true, true, true, true, true, false, false, false, false, false, false]) rfl (by kernel_rfl) (by kernel_rfl) (by kernel_rfl) (fun _ _ _ h => h) (Sd.of (S17.trans S56) [] rfl) rfl (wanted_u F71 rfl rfl rfl) rfl rfl fun _ F72 => ?_
           refine g_skip F72 rfl (i := 29) (listed' := #[true, true, true, true, true, true, true, true, true, true, true, true, true, true, true, true, true, true, true, true, true, true, true, true, true, true, true, true, true, true, false, false, false, false, false]) rfl (by kernel_rfl) (by kernel_rfl) (by kernel_rfl) (fun _ _ _ h => h) (Sd.of (S17.trans S56) [] rfl) rfl (wanted_u F72 rfl rfl rfl) rfl rfl fun _ F73 => ?_
           refine g_skip F73 rfl (i := 30) (listed' := #[true, true, true, true, true, true, true, true, true, true, true, true, true, true, true, true, true, true, true, true, true, true, true, true, true, true, true, true, true, true, true, false, false, false, false]) rfl (by kernel_rfl) (by kernel_rfl) (by kernel_rfl) (fun _ _ _ h => h) (Sd.of (S17.trans S56) [] rfl) rfl (wanted_u F73 rfl rfl rfl) rfl rfl fun _ F74 => ?_
           refine g_skip F74 rfl (i := 31) (listed' := #[true, true, true, true, true, true, true, true, true, true, true, true, true, true, true, true, true, true, true, true, true, true, true, true, true, true, true, true, true, true, true, true, false, false, false]) rfl (by kernel_rfl) (by kernel_rfl) (by kernel_rfl) (fun _ _ _ h => h) (Sd.of (S17.trans S56) [] rfl) rfl (wanted_u F74 rfl rfl rfl) rfl rfl fun _ F75 => ?_
           refine g_skip F75 rfl (i := 32) (listed' := #[true, true, true, true, true, true, true, true, true, true, true, true, true, true, true, true, true, true, true, true, true, true, true, true, true, true, true, true, true, true, true, true, true, false, false]) rfl (by kernel_rfl) (by kernel_rfl) (by kernel_rfl) (fun _ _ _ h => h) (Sd.of (S17.trans S56) [] rfl) rfl (wanted_u F75 rfl rfl rfl) rfl rfl fun _ F76 => ?_
           refine g_skip F76 rfl (i := 33) (listed' := #[true, true, true, true, true, true, true, true, true, true, true, true, true, true, true, true, true, true, true, true, true, true, true, true, true, true, true, true, true, true, true, true, true, true, false]) rfl (by kernel_rfl) (by kernel_rfl) (by kernel_rfl) (fun _ _ _ h => h) (Sd.of (S17.trans S56) [] rfl) rfl (wanted_g F76 rfl rfl rfl rfl) rfl rfl fun _ F77 => ?_
           refine g_take F77 rfl (i := 34) (listed' := #[true, true, true, true, true, true, true, true, true, true, true, true, true, true, true, true, true, true, true, true, true, true, true, true, true, true, true, true, true, true, true, true, true, true, true]) rfl (by kernel_rfl) (by kernel_rfl) (by kernel_rfl) (fun _ _ _ h => h) (Sd.of (S17.trans S56) [] rfl) rfl rfl rfl rfl (fun _ hz => (r_pick (b := true) rfl (F77.ev 27 rfl) rfl)) fun _ F78 => ?_
           refine wpAnyH_done (by kernel_rfl) (x_normal ?_) _
           exact ⟨Fr.cast (F78.cut rfl) (congrArg (fun zZ => ([(0, .slice s_a s_n s_c), (3, .int .i64 ((k : Nat) : Int)), (44, .bool zZ)] : List (Nat × Value))) (show true = (!cellOk s k) from by first | exact ck_1 hx1 (by assumption) | exact ck_2 hx1 (by assumption) (by assumption) | exact ck_3 hx1 (by assumption) (by assumption) (by assumption) | exact ck_4 hx1 (by assumption) (by assumption) (by assumption) hx2)), ((S10.trans (S17.trans S56)).pick [] rfl)⟩
         · rw [h61] at F60
           refine g_take F60 rfl (i := 18) (listed' := #[true, true, true, true, true, true, true, true, true, true, true, true, true, true, true, true, true, true, true, false, false, false, false, false, false, false, false, false, false, false, false, false, false, false, false]) rfl (by kernel_rfl) (by kernel_rfl) (by kernel_rfl) (fun _ _ _ h => h) (Sd.of (S17.trans S56) [] rfl) rfl (wanted_g F60 rfl rfl rfl rfl) rfl rfl (fun _ hz => (r_move rfl (F60.ev 3 rfl))) fun _ F79 => ?_
           refine g_take F79 rfl (i := 19) (listed' := #[true, true, true, true, true, true, true, true, true, true, true, true, true, true, true, true, true, true, true, true, false, false, false, false, false, false, false, false, false, false, false, false, false, false, false]) rfl (by kernel_rfl) (by kernel_rfl) (by kernel_rfl) (fun _ _ _ h => h) (Sd.of (S17.trans S56) [] rfl) rfl (wanted_g F79 rfl rfl rfl rfl) rfl rfl (fun _ hz => (r_cmp (b := decide (k > 0)) (.inr (.inr (.inr (.inr (.inl rfl))))) rfl (F79.ev 28 rfl) rfl (dec_of (by omega)))) fun _ F80 => ?_
           refine g_take F80 rfl (i := 20) (listed' := #[true, true, true, true, true, true, true, true, true, true, true, true, true, true, true, true, true, true, true, true, true, false, false, false, false, false, false, false, false, false, false, false, false, false, false]) rfl (by kernel_rfl) (by kernel_rfl) (by kernel_rfl) (fun _ _ _ h => h) (Sd.of (S17.trans S56) [] rfl) rfl (wanted_g F80 rfl rfl rfl rfl) rfl rfl (fun _ hz => (r_move rfl (F80.ev 29 rfl))) fun _ F81 => ?_
           rcases Decidable.em (k > 0) with h82 | h82
           · rw [decide_eq_true h82] at F81
             refine g_take F81 rfl (i := 21) (listed' := #[true, true, true, true, true, true, true, true, true, true, true, true, true, true, true, true, true, true, true, true, true, true, false, false, false, false, false, false, false, false, false, false, false, false, false]) rfl (by kernel_rfl) (by kernel_rfl) (by kernel_rfl) (fun _ _ _ h => h) (Sd.of (S17.trans S56) [] rfl) rfl (wanted_g F81 rfl rfl rfl rfl) rfl rfl (fun _ hz => (r_move rfl (F81.ev 0 rfl))) fun _ F83 => ?_
             refine g_take F83 rfl (i := 22) (listed' := #[true, true, true, true, true, true, true, true, true, true, true, true, true, true, true, true, true, true, true, true, true, true, true, false, false, false, false, false, false, false, false, false, false, false, false]) rfl (by kernel_rfl) (by kernel_rfl) (by kernel_rfl) (fun _ _ _ h => h) (Sd.of (S17.trans S56) [] rfl) rfl (wanted_g F83 rfl rfl rfl rfl) rfl rfl (fun _ hz => (r_move rfl (F83.ev 3 rfl))) fun _ F84 => ?_
             refine g_take F84 rfl (i := 23) (listed' := #[true, true, true, true, true, true, true, true, true, true, true, true, true, true, true, true, true, true, true, true, true, true, true, true, false, false, false, false, false, false, false, false, false, false, false]) rfl (by kernel_rfl) (by kernel_rfl) (by kernel_rfl) (fun _ _ _ h => h) (Sd.of (S17.trans S56) [] rfl) rfl (wanted_g F84 rfl rfl rfl rfl) rfl rfl (fun _ hz => (r_sub (z := ((k - 1 : Nat) : Int)) rfl (F84.ev 32 rfl) rfl (by first | rfl | omega) ⟨by first | omega | (unfold i64ok at *; omega), by first | omega | (unfold i64ok at *; omega)⟩)) fun _ F85 => ?_
             obtain ⟨B86, O86, x2, ad86, hx2, okx2, ln86, cl86⟩ := Rd.atK (Nat.succ_pos _) (Rd.mv (Nat.succ_pos _) Q0 (S3.trans S10)) (k - 1) (by first | assumption | omega)
             clear ln86
             refine g_take F85 rfl (i := 24) (listed' := #[true, true, true, true, true, true, true, true, true, true, true, true, true, true, true, true, true, true, true, true, true, true, true, true, true, false, false, false, false, false, false, false, false, false, false]) rfl (by kernel_rfl) (by kernel_rfl) (by kernel_rfl) (fun _ _ _ h => h) (Sd.of (S17.trans S56) [] rfl) rfl (wanted_g F85 rfl rfl rfl rfl) rfl rfl (fun _ hz => (r_indexAddr (i := k - 1) ET_35 rfl ((F85.ev 31 rfl).trans (by rw [ad86])) (F85.ev 33 rfl) (by omega) (by first | assumption | omega))) fun _ F87 => ?_
             refine g_take F87 rfl (i := 25) (listed' := #[true, true, true, true, true, true, true, true, true, true, true, true, true, true, true, true, true, true, true, true, true, true, true, true, true, true, false, false, false, false, false, false, false, false, false]) rfl (by kernel_rfl) (by kernel_rfl) (by kernel_rfl) (fun _ _ _ h => h) (Sd.of (S17.trans S56) [] rfl) rfl (wanted_g F87 rfl rfl rfl rfl) rfl rfl (fun _ hz => (r_field FI_90_0 rfl (F87.ev 34 rfl) rfl)) fun _ F88 => ?_
             refine g_take (v := .string x2.key) F88 rfl (i := 26) (listed' := #[true, true, true, true, true, true, true, true, true, true, true, true, true, true, true, true, true, true, true, true, true, true, true, true, true, true, true, false, false, false, false, false, false, false, false]) rfl (by kernel_rfl) (by kernel_rfl) (by kernel_rfl) (fun _ _ _ h => h) (Sd.of (S17.trans S56) [] rfl) rfl (wanted_g F88 rfl rfl rfl rfl) rfl rfl (fun _ hz => (r_load (cs := [.string x2.key]) TI_9 rfl (F88.ev 35 rfl) rfl (fun _ => rfl) (elem_sub (f := 0) (cl86 _ hz.kp) [.string x2.key] rfl))) fun _ F89 => ?_
             refine g_take F89 rfl (i := 27) (listed' := #[true, true, true, true, true, true, true, true, true, true, true, true, true, true, true, true, true, true, true, true, true, true, true, true, true, true, true, true, false, false, false, false, false, false, false]) rfl (by kernel_rfl) (by kernel_rfl) (by kernel_rfl) (fun _ _ _ h => h) (Sd.of (S17.trans S56) [] rfl) rfl (wanted_g F89 rfl rfl rfl rfl) rfl rfl (fun _ hz => (r_move rfl (F89.ev 0 rfl))) fun _ F90 => ?_
             refine g_take F90 rfl (i := 28) (listed' := #[true, true, true, true, true, true, true, true, true, true, true, true, true, true, true, true, true, true, true, true, true, true, true, true, true, true, true, true, true, false, false, false, false, false, false]) rfl (by kernel_rfl) (by kernel_rfl) (by kernel_rfl) (fun _ _ _ h => h) (Sd.of (S17.trans S56) [] rfl) rfl (wanted_g F90 rfl rfl rfl rfl) rfl rfl (fun _ hz => (r_move rfl (F90.ev 3 rfl))) fun _ F91 => ?_
             obtain ⟨B92, O92, y92, ad92, hy92, oky92, ln92, cl92⟩ := Rd.atK (Nat.succ_pos _) (Rd.mv (Nat.succ_pos _) Q0 (S3.trans S10)) k (by first | assumption | omega)
             clear ln92
             obtain rfl := Option.some.inj (hx1.symm.trans hy92)
             clear hy92 oky92
             refine g_take F91 rfl (i := 29) (listed' := #[true, true, true, true, true, true, true, true, true, true, true, true, true, true, true, true, true, true, true, true, true, true, true, true, true, true, true, true, true, true, false, false, false, false, false]) rfl (by kernel_rfl) (by kernel_rfl) (by kernel_rfl) (fun _ _ _ h => h) (Sd.of (S17.trans S56) [] rfl) rfl (wanted_g F91 rfl rfl rfl rfl) rfl rfl (fun _ hz => (r_indexAddr (i := k) ET_35 rfl ((F91.ev 37 rfl).trans (by rw [ad92])) (F91.ev 38 rfl) (by omega) (by first | assumption | omega))) fun _ F93 => ?_
             refine g_take F93 rfl (i := 30) (listed' := #[true, true, true, true, true, true, true, true, true, true, true, true, true, true, true, true, true, true, true, true, true, true, true, true, true, true, true, true, true, true, true, false, false, false, false]) rfl (by kernel_rfl) (by kernel_rfl) (by kernel_rfl) (fun _ _ _ h => h) (Sd.of (S17.trans S56) [] rfl) rfl (wanted_g F93 rfl rfl rfl rfl) rfl rfl (fun _ hz => (r_field FI_90_0 rfl (F93.ev 39 rfl) rfl)) fun _ F94 => ?_
             refine g_take (v := .string x1.key) F94 rfl (i := 31) (listed' := #[true, true, true, true, true, true, true, true, true, true, true, true, true, true, true, true, true, true, true, true, true, true, true, true, true, true, true, true, true, true, true, true, false, false, false]) rfl (by kernel_rfl) (by kernel_rfl) (by kernel_rfl) (fun _ _ _ h => h) (Sd.of (S17.trans S56) [] rfl) rfl (wanted_g F94 rfl rfl rfl rfl) rfl rfl (fun _ hz => (r_load (cs := [.string x1.key]) TI_9 rfl (F94.ev 40 rfl) rfl (fun _ => rfl) (elem_sub (f := 0) (cl92 _ hz.kp) [.string x1.key] rfl))) fun _ F95 => ?_
             refine g_take F95 rfl (i := 32) (listed' := #[true, true, true, true, true, true, true, true, true, true, true, true, true, true, true, true, true, true, true, true, true, true, true, true, true, true, true, true, true, true, true, true, true, false, false]) rfl (by kernel_rfl) (by kernel_rfl) (by kernel_rfl) (fun _ _ _ h => h) (Sd.of (S17.trans S56) [] rfl) rfl (wanted_g F95 rfl rfl rfl rfl) rfl rfl (fun _ hz => (r_cmps (b := (!ltS x2.key x1.key)) (.inr (.inr (.inr (.inr (.inr rfl))))) rfl (F95.ev 36 rfl) (F95.ev 41 rfl) rfl)) fun _ F96 => ?_
             refine g_take F96 rfl (i := 33) (listed' := #[true, true, true, true, true, true, true, true, true, true, true, true, true, true, true, true, true, true, true, true, true, true, true, true, true, true, true, true, true, true, true, true, true, true, false]) rfl (by kernel_rfl) (by kernel_rfl) (by kernel_rfl) (fun _ _ _ h => h) (Sd.of (S17.trans S56) [] rfl) rfl (wanted_g F96 rfl rfl rfl rfl) rfl rfl (fun _ hz => (r_pick (b := true) rfl (F96.ev 30 rfl) (F96.ev 42 rfl))) fun _ F97 => ?_
             refine g_take F97 rfl (i := 34) (listed' := #[true, true, true, true, true, true, true, true, true, true, true, true, true, true, true, true, true, true, true, true, true, true, true, true, true, true, true, true, true, true, true, true, true, true, true]) rfl (by kernel_rfl) (by kernel_rfl) (by kernel_rfl) (fun _ _ _ h => h) (Sd.of (S17.trans S56) [] rfl) rfl rfl rfl rfl (fun _ hz => (r_pick (b := false) rfl (F97.ev 27 rfl) (F97.ev 43 rfl))) fun _ F98 => ?_
             refine wpAnyH_done (by kernel_rfl) (x_normal ?_) _
             exact ⟨Fr.cast (F98.cut rfl) (congrArg (fun zZ => ([(0, .slice s_a s_n s_c), (3, .int .i64 ((k : Nat) : Int)), (44, .bool zZ)] : List (Nat × Value))) (show (!ltS x2.key x1.key) = (!cellOk s k) from by first | exact ck_1 hx1 (by assumption) | exact ck_2 hx1 (by assumption) (by assumption) | exact ck_3 hx1 (by assumption) (by assumption) (by assumption) | exact ck_4 hx1 (by assumption) (by assumption) (by assumption) hx2)), ((S10.trans (S17.trans S56)).pick [] rfl)⟩
           · rw [decide_eq_false h82] at F81
             refine g_skip F81 rfl (i := 21) (listed' := #[true, true, true, true, true, true, true, true, true, true, true, true, true, true, true, true, true, true, true, true, true, true, false, false, false, false, false, false, false, false, false, false, false, false, false]) rfl (by kernel_rfl) (by kernel_rfl) (by kernel_rfl) (fun _ _ _ h => h) (Sd.of (S17.trans S56) [] rfl) rfl (wanted_g F81 rfl rfl rfl rfl) rfl rfl fun _ F99 => ?_
             refine g_skip F99 rfl (i := 22) (listed' := #[true, true, true, true, true, true, true, true, true, true, true, true, true, true, true, true, true, true, true, true, true, true, true, false, false, false, false, false, false, false, false, false, false, false, false]) rfl (by kernel_rfl) (by kernel_rfl) (by kernel_rfl) (fun _ _ _ h => h) (Sd.of (S17.trans S56) [] rfl) rfl (wanted_g F99 rfl rfl rfl rfl) rfl rfl fun _ F100 => ?_
             refine g_skip F100 rfl (i := 23) (listed' := #[true, true, true, true, true, true, true, true, true, true, true, true, true, true, true, true, true, true, true, true, true, true, true, true, false, false, false, false, false, false, false, false, false, false, false]) rfl (by kernel_rfl) (by kernel_rfl) (by kernel_rfl) (fun _ _ _ h => h) (Sd.of (S17.trans S56) [] rfl) rfl (wanted_g F100 rfl rfl rfl rfl) rfl rfl fun _ F101 => ?_
             refine g_skip F101 rfl (i := 24) (listed' := #[true, true, true, true, true, true, true, true, true, true, true, true, true, true, true, true, true, true, true, true, true, true, true, true, true, false, false, false, false, false, false, false, false, false, false]) rfl (by kernel_rfl) (by kernel_rfl) (by kernel_rfl) (fun _ _ _ h => h) (Sd.of (S17.trans S56) [] rfl) rfl (wanted_g F101 rfl rfl rfl rfl) rfl rfl fun _ F102 => ?_
             refine g_skip F102 rfl (i := 25) (listed' := #[true, true, true, true, true, true, true, true, true, true, true, true, true, true, true, true, true, true, true, true, true, true, true, true, true, true, false, false, false, false, false, false, false, false, false]) rfl (by kernel_rfl) (by kernel_rfl) (by kernel_rfl) (fun _ _ _ h => h) (Sd.of (S17.trans S56) [] rfl) rfl (wanted_g F102 rfl rfl rfl rfl) rfl rfl fun _ F103 => ?_
             refine g_skip F103 rfl (i := 26) (listed' := #[true, true, true, true, true, true, true, true, true, true, true, true, true, true, true, true, true, true, true, true, true, true, true, true, true, true, true, false, false, false, false, false, false, false, false]) rfl (by kernel_rfl) (by kernel_rfl) (by kernel_rfl) (fun _ _ _ h => h) (Sd.of (S17.trans S56) [] rfl) rfl (wanted_g F103 rfl rfl rfl rfl) rfl rfl fun _ F104 => ?_
             refine g_skip F104 rfl (i := 27) (listed' := #[true, true, true, true, true, true, true, true, true, true, true, true, true, true, true, true, true, true, true, true, true, true, true, true, true, true, true, true, false, false, false, false, false, false, false]) rfl (by kernel_rfl) (by kernel_rfl) (by kernel_rfl) (fun _ _ _ h => h) (Sd.of (S17.trans S56) [] rfl) rfl (wanted_g F104 rfl rfl rfl rfl) rfl rfl fun _ F105 => ?_
             refine g_skip F105 rfl (i := 28) (listed' := #[true, true, true, true, true, true, true, true, true, true, true, true, true, true, true, true, true, true, true, true, true, true, true, true, true, true, true, true, true, false, false, false, false, false, false]) rfl (by kernel_rfl) (by kernel_rfl) (by kernel_rfl) (fun _ _ _ h => h) (Sd.of (S17.trans S56) [] rfl) rfl (wanted_g F105 rfl rfl rfl rfl) rfl rfl fun _ F106 => ?_
             refine g_skip F106 rfl (i := 29) (listed' := #[true, true, true, true, true, true, true, true, true, true, true, true, true, true, true, true, true, true, true, true, true, true, true, true, true, true, true, true, true, true, false, false, false, false, false]) rfl (by kernel_rfl) (by kernel_rfl) (by kernel_rfl) (fun _ _ _ h => h) (Sd.of (S17.trans S56) [] rfl) rfl (wanted_g F106 rfl rfl rfl rfl) rfl rfl fun _ F107 => ?_
             refine g_skip F107 rfl (i := 30) (listed' := #[true, true, true, true, true, true, true, true, true, true, true, true, true, true, true, true, true, true, true, true, true, true, true, true, true, true, true, true, true, true, true, false, false, false, false]) rfl (by kernel_rfl) (by kernel_rfl) (by kernel_rfl) (fun _ _ _ h => h) (Sd.of (S17.trans S56) [] rfl) rfl (wanted_g F107 rfl rfl rfl rfl) rfl rfl fun _ F108 => ?_
             refine g_skip F108 rfl (i := 31) (listed' := #[true, true, true, true, true, true, true, true, true, true, true, true, true, true, true, true, true, true, true, true, true, true, true, true, true, true, true, true, true, true, true, true, false, false, false]) rfl (by kernel_rfl) (by kernel_rfl) (by kernel_rfl) (fun _ _ _ h => h) (Sd.of (S17.trans S56) [] rfl) rfl (wanted_g F108 rfl rfl rfl rfl) rfl rfl fun _ F109 => ?_
             refine g_skip F109 rfl (i := 32) (listed' := #[true, true, true, true, true, true, true, true, true, true, true, true, true, true, true, true, true, true, true, true, true, true, true, true, true, true, true, true, true, true, true, true, true, false, false]) rfl (by kernel_rfl) (by kernel_rfl) (by kernel_rfl) (fun _ _ _ h => h) (Sd.of (S17.trans S56) [] rfl) rfl (wanted_g F109 rfl rfl rfl rfl) rfl rfl fun _ F110 => ?_
             refine g_take F110 rfl (i := 33) (listed' := #[true, true, true, true, true, true, true, true, true, true, true, true, true, true, true, true, true, true, true, true, true, true, true, true, true, true, true, true, true, true, true, true, true, true, false]) rfl (by kernel_rfl) (by kernel_rfl) (by kernel_rfl) (fun _ _ _ h => h) (Sd.of (S17.trans S56) [] rfl) rfl (wanted_g F110 rfl rfl rfl rfl) rfl rfl (fun _ hz => (r_pick (b := false) rfl (F110.ev 30 rfl) rfl)) fun _ F111 => ?_
             refine g_take F111 rfl (i := 34) (listed' := #[true, true, true, true, true, true, true, true, true, true, true, true, true, true, true, true, true, true, true, true, true, true, true, true, true, true, true, true, true, true, true, true, true, true, true]) rfl (by kernel_rfl) (by kernel_rfl) (by kernel_rfl) (fun _ _ _ h => h) (Sd.of (S17.trans S56) [] rfl) rfl rfl rfl rfl (fun _ hz => (r_pick (b := false) rfl (F111.ev 27 rfl) (F111.ev 43 rfl))) fun _ F112 => ?_
             refine wpAnyH_done (by kernel_rfl) (x_normal ?_) _
             exact ⟨Fr.cast (F112.cut rfl) (congrArg (fun zZ => ([(0, .slice s_a s_n s_c), (3, .int .i64 ((k : Nat) : Int)), (44, .bool zZ)] : List (Nat × Value))) (show false = (!cellOk s k) from by first | exact ck_1 hx1 (by assumption) | exact ck_2 hx1 (by assumption) (by assumption) | exact ck_3 hx1 (by assumption) (by assumption) (by assumption) | exact ck_4 hx1 (by assumption) (by assumption) (by assumption) hx2)), ((S10.trans (S17.trans S56)).pick [] rfl)⟩
     · rintro a113 w113 ⟨F113, S113⟩
       refine x_normal (x_condb (b := (!cellOk s k)) (F113.ev 44 rfl) (fun h114 => ?_) (fun h114 => ?_))
       · skip
         refine wp_seq (wp_region_lit (l_op (f_val F113 rfl rfl (r_assign rfl rfl) rfl fun _ F115 => ?_)))
         refine s_end (x_normal (wp_ret (x_block_ret (x_then_ret (x_then_ret (x_block_ret (x_then_ret ?_)))))))
         refine x_done (v := .bool false) F115 (results_1 Tryz.results15 (.tmp (F115.ev 2 rfl))) ?_
         exact ⟨(by rw [(show false = (storeOk s) from by exact (storeOk_bad (k := k) (by omega) (nt (by assumption))).symm)]), (Mv.pick (S3.trans S113) [] rfl)⟩
       · skip
         refine wp_skip (x_block_normal (x_normal (wp_region_lit (l_op (f_mv F113 rfl rfl rfl rfl rfl fun _ F116 => ?_)))))
         refine l_op (f_val F116 rfl rfl (r_add (z := ((k + 1 : Nat) : Int)) rfl (F116.ev 8 rfl) rfl (by first | rfl | omega) ⟨by first | omega | (unfold i64ok at *; omega), by first | omega | (unfold i64ok at *; omega)⟩) rfl fun _ F117 => ?_)
         refine l_op (f_as F117 rfl rfl rfl rfl rfl fun _ F118 => ?_)
         refine s_end ?_
         refine x_normal ⟨k + 1, by omega, F118.cut rfl, ((S3.trans S113).pick [] rfl), by omega, all_step hk_1 (nf (by assumption))⟩
   · skip
     refine wp_exit (x_then_exit (x_then_exit (x_block_here (x_normal (wp_seq (wp_region_lit (l_op (f_mv F7 rfl rfl rfl rfl rfl fun _ F119 => ?_))))))))
     refine l_op (f_val F119 rfl rfl (r_len Tryz.underlying35 rfl (F119.ev 45 rfl)) rfl fun _ F120 => ?_)
     refine l_op (f_val F120 rfl rfl (r_cmp (b := decide (s_n ≤ 900)) (.inr (.inr (.inr (.inl rfl)))) rfl (F120.ev 46 rfl) rfl (dec_of (by omega))) rfl fun _ F121 => ?_)
     refine l_op (f_as F121 rfl rfl rfl rfl rfl fun _ F122 => ?_)
     refine s_end (x_normal (wp_ret ?_))
     refine x_done (v := .bool (decide (s_n ≤ 900))) F122 (results_1 Tryz.results15 (.tmp (F122.ev 2 rfl))) ?_
     exact ⟨(by rw [(show (decide (s_n ≤ 900)) = (storeOk s) from by rw [ln_s]; exact (storeOk_all (fun j hj => hk_1 j (by omega))).symm)]), (Mv.pick S3 [] rfl)⟩
theorem impl_StoreOk_c {w : World} {H : Nat → Prop} {s : List CellD} {s_a : Option Addr} {s_n s_c : Nat} (v_s : Rd 2 encC okC H w (.slice s_a s_n s_c) s) :
    Calls Tryz.prog 24 #[.slice s_a s_n s_c] w fun e w' => e = .returned (.bool (storeOk s)) ∧ Mv [] w [] w' := by
 have Q0 : Rd 2 encC okC (V H w []) w (.slice s_a s_n s_c) s := Rd.start v_s (fun _ _ => fps_nil _)
 obtain ⟨ln_s, le_s, mx_s, ni_s⟩ := Rd.inv v_s
 refine calls_enter 42 Tryz.func24 rfl Tryz.ntmps24 (Nat.le_of_ble_eq_true rfl) (fun _ F0i => ?_)
 have F0 : Fr 42 [(0, .slice s_a s_n s_c)] _ := F0i
 clear F0i
 refine wp_seq (wp_region_lit (l_op (f_val F0 rfl rfl (r_assign rfl rfl) rfl fun _ F1 => ?_)))
 refine s_end (x_normal (wp_seq (wp_seq (wp_region_lit (l_op (f_mv F1 rfl rfl rfl rfl rfl fun _ F2 => ?_))))))
 refine l_op (f_val F2 rfl rfl (r_len Tryz.underlying35 rfl (F2.ev 5 rfl)) rfl fun _ F3 => ?_)
 refine l_op (f_val F3 rfl rfl (r_move rfl rfl) rfl fun _ F4 => ?_)
 refine s_end (x_normal (wp_block ?_))
 refine x_loop (fun (k : Nat) aZ wZ => Fr 42 [(7, .int .i64 ((k : Nat) : Int)), (6, .int .i64 ((s_n : Nat) : Int)), (5, .slice s_a s_n s_c), (0, .slice s_a s_n s_c)] aZ ∧ Mv [] w [] wZ ∧ (k ≤ s_n) ∧ (∀ j, j < k → cellOk s j = true)) (fun (k : Nat) => s_n - k) (0) ?_ ?_
 · exact ⟨F4.cut rfl, (Mv.refl (At.nil w)), by omega, all_none⟩
 · rintro k a5 w5 ⟨F5, S5, hk_0, hk_1⟩
   refine wp_seq (wp_region_lit (l_op (f_val F5 rfl rfl (r_cmp (b := decide (k < s_n)) (.inr (.inr (.inl rfl))) rfl (F5.ev 7 rfl) (F5.ev 6 rfl) (dec_of (by omega))) rfl fun _ F6 => ?_)))
   refine s_end (x_normal (wp_seq (x_cond (p := k < s_n) (F6.ev 8 rfl) (fun h7 => ?_) (fun h7 => ?_))))
   · skip
     refine wp_skip (x_normal (wp_seq (wp_block (wp_seq (wp_region_lit (l_op (f_mv F6 rfl rfl rfl rfl rfl fun _ F8 => ?_)))))))
     obtain ⟨B9, O9, x1, ad9, hx1, okx1, ln9, cl9⟩ := Rd.at (Rd.mv (Nat.succ_pos _) Q0 S5) k (by first | assumption | omega)
     clear ln9
     refine l_op (f_val F8 rfl rfl (r_indexAddr (i := k) ET_35 rfl ((F8.ev 5 rfl).trans (by rw [ad9])) (F8.ev 7 rfl) (by omega) (by first | assumption | omega)) rfl fun _ F10 => ?_)
     refine l_op (f_val (v := .agg #[.string x1.key, .string x1.val]) F10 rfl rfl (r_load (cs := [.string x1.key, .string x1.val]) TI_90 rfl (F10.ev 10 rfl) rfl (fun h => nomatch h) (elem_sub (f := 0) cl9 [.string x1.key, .string x1.val] rfl)) rfl fun _ F11 => ?_)
     refine l_op (f_alloc F11 S5.at' ZI_90 rfl rfl rfl rfl rfl fun b12 _ w12 F13 S12 => ?_)
     refine l_op (f_as F13 rfl rfl rfl rfl rfl fun _ F14 => ?_)
     refine l_op (s_store S12.at' 0 TI_90 rfl rfl rfl rfl rfl (F14.ev 4 rfl) (F14.ev 11 rfl) rfl rfl rfl rfl rfl fun w15 S15 => ?_)
     have T16 : Mv _ _ [bx b12 [.string x1.key, .string x1.val] 90] _ := S15
     refine s_end (x_normal (wp_seq ?_))
     refine x_draw (fun aZ wZ => Fr 42 [(0, .slice s_a s_n s_c), (5, .slice s_a s_n s_c), (6, .int .i64 ((s_n : Nat) : Int)), (7, .int .i64 ((k : Nat) : Int)), (37, .bool (!cellOk s k))] aZ ∧ Mv [bx b12 [.string x1.key, .string x1.val] 90] w15 [bx b12 [.string x1.key, .string x1.val] 90] wZ) [bx b12 [.string x1.key, .string x1.val] 90] mixed T16.at' (listed := #[false, false, false, false, false, false, false, false, false, false, false, false, false, false, false, false, false, false, false, false, false, false, false, false, false, false]) rfl (fun w18 S18 => ?_) [0] rfl ?_
     · skip
       refine g_take F14 rfl (i := 0) (listed' := #[true, false, false, false, false, false, false, false, false, false, false, false, false, false, false, false, false, false, false, false, false, false, false, false, false, false]) rfl (by kernel_rfl) (by kernel_rfl) (by kernel_rfl) (fun _ _ _ h => h) (Sd.of (Mv.refl S18.at') [0] rfl) rfl rfl rfl rfl (fun _ hz => (r_field FI_90_0 rfl (F14.ev 4 rfl) rfl)) fun _ F19 => ?_
       refine g_take (v := .string x1.key) F19 rfl (i := 1) (listed' := #[true, true, false, false, false, false, false, false, false, false, false, false, false, false, false, false, false, false, false, false, false, false, false, false, false, false]) rfl (by kernel_rfl) (by kernel_rfl) (by kernel_rfl) (fun _ _ _ h => h) (Sd.of (Mv.refl S18.at') [0] rfl) rfl rfl rfl rfl (fun _ hz => (r_loadX (hz.bx 0 rfl) TI_9 rfl (F19.ev 12 rfl) rfl rfl (fun _ => rfl) rfl)) fun _ F20 => ?_
       refine d_one (i := 2) (listed' := #[true, true, true, false, false, false, false, false, false, false, false, false, false, false, false, false, false, false, false, false, false, false, false, false, false, false]) rfl (by kernel_rfl) rfl rfl ?_
       refine f_call F20 CF_48 rfl rfl rfl rfl (lc (F20.ev 13 rfl) rfl) (impl_KeyOk_c (H := fun _ => True) (key := x1.key) okx1.1) ?_
       rintro _ w21 ⟨rfl, m21⟩
       refine ⟨_, rfl, fun _ F22 => ?_⟩
       have S21 := At.frame0 S18.at' m21
       clear m21
       refine ⟨Sd.of S21 [0] rfl, ?_⟩
       refine g_take F22 rfl (i := 3) (listed' := #[true, true, true, true, false, false, false, false, false, false, false, false, false, false, false, false, false, false, false, false, false, false, false, false, false, false]) rfl (by kernel_rfl) (by kernel_rfl) (by kernel_rfl) (fun _ _ _ h => h) (Sd.of S21 [0] rfl) rfl rfl rfl rfl (fun _ hz => (r_not rfl (F22.ev 14 rfl))) fun _ F23 => ?_
       refine g_take F23 rfl (i := 4) (listed' := #[true, true, true, true, true, false, false, false, false, false, false, false, false, false, false, false, false, false, false, false, false, false, false, false, false, false]) rfl (by kernel_rfl) (by kernel_rfl) (by kernel_rfl) (fun _ _ _ h => h) (Sd.of S21 [0] rfl) rfl rfl rfl rfl (fun _ hz => (r_move rfl (F23.ev 15 rfl))) fun _ F24 => ?_
       rcases Bool.eq_false_or_eq_true (!(keyOk x1.key)) with h25 | h25
       · rw [h25] at F24
         refine g_skip F24 rfl (i := 5) (listed' := #[true, true, true, true, true, true, false, false, false, false, false, false, false, false, false, false, false, false, false, false, false, false, false, false, false, false]) rfl (by kernel_rfl) (by kernel_rfl) (by kernel_rfl) (fun _ _ _ h => h) (Sd.of S21 [0] rfl) rfl (wanted_g F24 rfl rfl rfl rfl) rfl rfl fun _ F26 => ?_
         refine g_skip F26 rfl (i := 6) (listed' := #[true, true, true, true, true, true, true, false, false, false, false, false, false, false, false, false, false, false, false, false, false, false, false, false, false, false]) rfl (by kernel_rfl) (by kernel_rfl) (by kernel_rfl) (fun _ _ _ h => h) (Sd.of S21 [0] rfl) rfl (wanted_g F26 rfl rfl rfl rfl) rfl rfl fun _ F27 => ?_
         refine g_skip F27 rfl (i := 7) (listed' := #[true, true, true, true, true, true, true, true, false, false, false, false, false, false, false, false, false, false, false, false, false, false, false, false, false, false]) rfl (by kernel_rfl) (by kernel_rfl) (by kernel_rfl) (fun _ _ _ h => h) (Sd.of S21 [0] rfl) rfl (wanted_g F27 rfl rfl rfl rfl) rfl rfl fun _ F28 => ?_
         refine g_skip F28 rfl (i := 8) (listed' := #[true, true, true, true, true, true, true, true, true, false, false, false, false, false, false, false, false, false, false, false, false, false, false, false, false, false]) rfl (by kernel_rfl) (by kernel_rfl) (by kernel_rfl) (fun _ _ _ h => h) (Sd.of S21 [0] rfl) rfl (wanted_g F28 rfl rfl rfl rfl) rfl rfl fun _ F29 => ?_
         refine g_skip F29 rfl (i := 9) (listed' := #[true, true, true, true, true, true, true, true, true, true, false, false, false, false, false, false, false, false, false, false, false, false, false, false, false, false]) rfl (by kernel_rfl) (by kernel_rfl) (by kernel_rfl) (fun _ _ _ h => h) (Sd.of S21 [0] rfl) rfl (wanted_g F29 rfl rfl rfl rfl) rfl rfl fun _ F30 => ?_
         refine g_take F30 rfl (i := 10) (listed' := #[true, true, true, true, true, true, true, true, true, true, true, false, false, false, false, false, false, false, false, false, false, false, false, false, false, false]) rfl (by kernel_rfl) (by kernel_rfl) (by kernel_rfl) (fun _ _ _ h => h) (Sd.of S21 [0] rfl) rfl rfl rfl rfl (fun _ hz => (r_pick (b := true) rfl (F30.ev 16 rfl) rfl)) fun _ F31 => ?_
         refine g_take F31 rfl (i := 11) (listed' := #[true, true, true, true, true, true, true, true, true, true, true, true, false, false, false, false, false, false, false, false, false, false, false, false, false, false]) rfl (by kernel_rfl) (by kernel_rfl) (by kernel_rfl) (fun _ _ _ h => h) (Sd.of S21 [0] rfl) rfl rfl rfl rfl (fun _ hz => (r_move rfl (F31.ev 22 rfl))) fun _ F32 => ?_
         refine g_skip F32 rfl (i := 12) (listed' := #[true, true, true, true, true, true, true, true, true, true, true, true, true, false, false, false, false, false, false, false, false, false, false, false, false, false]) rfl (by kernel_rfl) (by kernel_rfl) (by kernel_rfl) (fun _ _ _ h => h) (Sd.of S21 [0] rfl) rfl (wanted_g F32 rfl rfl rfl rfl) rfl rfl fun _ F33 => ?_
         refine g_skip F33 rfl (i := 13) (listed' := #[true, true, true, true, true, true, true, true, true, true, true, true, true, true, false, false, false, false, false, false, false, false, false, false, false, false]) rfl (by kernel_rfl) (by kernel_rfl) (by kernel_rfl) (fun _ _ _ h => h) (Sd.of S21 [0] rfl) rfl (wanted_g F33 rfl rfl rfl rfl) rfl rfl fun _ F34 => ?_
         refine g_skip F34 rfl (i := 14) (listed' := #[true, true, true, true, true, true, true, true, true, true, true, true, true, true, true, false, false, false, false, false, false, false, false, false, false, false]) rfl (by kernel_rfl) (by kernel_rfl) (by kernel_rfl) (fun _ _ _ h => h) (Sd.of S21 [0] rfl) rfl (wanted_g F34 rfl rfl rfl rfl) rfl rfl fun _ F35 => ?_
         refine g_skip F35 rfl (i := 15) (listed' := #[true, true, true, true, true, true, true, true, true, true, true, true, true, true, true, true, false, false, false, false, false, false, false, false, false, false]) rfl (by kernel_rfl) (by kernel_rfl) (by kernel_rfl) (fun _ _ _ h => h) (Sd.of S21 [0] rfl) rfl (wanted_u F35 rfl rfl rfl) rfl rfl fun _ F36 => ?_
         refine g_skip F36 rfl (i := 16) (listed' := #[true, true, true, true, true, true, true, true, true, true, true, true, true, true, true, true, true, false, false, false, false, false, false, false, false, false]) rfl (by kernel_rfl) (by kernel_rfl) (by kernel_rfl) (fun _ _ _ h => h) (Sd.of S21 [0] rfl) rfl (wanted_u F36 rfl rfl rfl) rfl rfl fun _ F37 => ?_
         refine g_skip F37 rfl (i := 17) (listed' := #[true, true, true, true, true, true, true, true, true, true, true, true, true, true, true, true, true, true, false, false, false, false, false, false, false, false]) rfl (by kernel_rfl) (by kernel_rfl) (by kernel_rfl) (fun _ _ _ h => h) (Sd.of S21 [0] rfl) rfl (wanted_u F37 rfl rfl rfl) rfl rfl fun _ F38 => ?_
         refine g_skip F38 rfl (i := 18) (listed' := #[true, true, true, true, true, true, true, true, true, true, true, true, true, true, true, true, true, true, true, false, false, false, false, false, false, false]) rfl (by kernel_rfl) (by kernel_rfl) (by kernel_rfl) (fun _ _ _ h => h) (Sd.of S21 [0] rfl) rfl (wanted_u F38 rfl rfl rfl) rfl rfl fun _ F39 => ?_
         refine g_skip F39 rfl (i := 19) (listed' := #[true, true, true, true, true, true, true, true, true, true, true, true, true, true, true, true, true, true, true, true, false, false, false, false, false, false]) rfl (by kernel_rfl) (by kernel_rfl) (by kernel_rfl) (fun _ _ _ h => h) (Sd.of S21 [0] rfl) rfl (wanted_u F39 rfl rfl rfl) rfl rfl fun _ F40 => ?_
         refine g_skip F40 rfl (i := 20) (listed' := #[true, true, true, true, true, true, true, true, true, true, true, true, true, true, true, true, true, true, true, true, true, false, false, false, false, false]) rfl (by kernel_rfl) (by kernel_rfl) (by kernel_rfl) (fun _ _ _ h => h) (Sd.of S21 [0] rfl) rfl (wanted_u F40 rfl rfl rfl) rfl rfl fun _ F41 => ?_
         refine g_skip F41 rfl (i := 21) (listed' := #[true, true, true, true, true, true, true, true, true, true, true, true, true, true, true, true, true, true, true, true, true, true, false, false, false, false]) rfl (by kernel_rfl) (by kernel_rfl) (by kernel_rfl) (fun _ _ _ h => h) (Sd.of S21 [0] rfl) rfl (wanted_u F41 rfl rfl rfl) rfl rfl fun _ F42 => ?_
         refine g_skip F42 rfl (i := 22) (listed' := #[true, true, true, true, true, true, true, true, true, true, true, true, true, true, true, true, true, true, true, true, true, true, true, false, false, false]) rfl (by kernel_rfl) (by kernel_rfl) (by kernel_rfl) (fun _ _ _ h => h) (Sd.of S21 [0] rfl) rfl (wanted_u F42 rfl rfl rfl) rfl rfl fun _ F43 => ?_
         refine g_skip F43 rfl (i := 23) (listed' := #[true, true, true, true, true, true, true, true, true, true, true, true, true, true, true, true, true, true, true, true, true, true, true, true, false, false]) rfl (by kernel_rfl) (by kernel_rfl) (by kernel_rfl) (fun _ _ _ h => h) (Sd.of S21 [0] rfl) rfl (wanted_u F43 rfl rfl rfl) rfl rfl fun _ F44 => ?_
         refine g_skip F44 rfl (i := 24) (listed' := #[true, true, true, true, true, true, true, true, true, true, true, true, true, true, true, true, true, true, true, true, true, true, true, true, true, false]) rfl (by kernel_rfl) (by kernel_rfl) (by kernel_rfl) (fun _ _ _ h => h) (Sd.of S21 [0] rfl) rfl (wanted_g F44 rfl rfl rfl rfl) rfl rfl fun _ F45 => ?_
         refine g_take F45 rfl (i := 25) (listed' := #[true, true, true, true, true, true, true, true, true, true, true, true, true, true, true, true, true, true, true, true, true, true, true, true, true, true]) rfl (by kernel_rfl) (by kernel_rfl) (by kernel_rfl) (fun _ _ _ h => h) (Sd.of S21 [0] rfl) rfl rfl rfl rfl (fun _ hz => (r_pick (b := true) rfl (F45.ev 23 rfl) rfl)) fun _ F46 => ?_
         refine wpAnyH_done (by kernel_rfl) (x_normal ?_) _
         exact ⟨Fr.cast (F46.cut rfl) (congrArg (fun zZ => ([(0, .slice s_a s_n s_c), (5, .slice s_a s_n s_c), (6, .int .i64 ((s_n : Nat) : Int)), (7, .int .i64 ((k : Nat) : Int)), (37, .bool zZ)] : List (Nat × Value))) (show true = (!cellOk s k) from by first | exact ck_1 hx1 (by assumption) | exact ck_2 hx1 (by assumption) (by assumption) | exact ck_3 hx1 (by assumption) (by assumption) (by assumption) | exact ck_5 hx1 (by assumption) (by assumption) (by assumption) hx2)), ((S18.trans S21).pick [0] rfl)⟩
       · rw [h25] at F24
         refine g_take F24 rfl (i := 5) (listed' := #[true, true, true, true, true, true, false, false, false, false, false, false, false, false, false, false, false, false, false, false, false, false, false, false, false, false]) rfl (by kernel_rfl) (by kernel_rfl) (by kernel_rfl) (fun _ _ _ h => h) (Sd.of S21 [0] rfl) rfl (wanted_g F24 rfl rfl rfl rfl) rfl rfl (fun _ hz => (r_field FI_90_1 rfl (F24.ev 4 rfl) rfl)) fun _ F47 => ?_
         refine g_take (v := .string x1.val) F47 rfl (i := 6) (listed' := #[true, true, true, true, true, true, true, false, false, false, false, false, false, false, false, false, false, false, false, false, false, false, false, false, false, false]) rfl (by kernel_rfl) (by kernel_rfl) (by kernel_rfl) (fun _ _ _ h => h) (Sd.of S21 [0] rfl) rfl (wanted_g F47 rfl rfl rfl rfl) rfl rfl (fun _ hz => (r_loadX (hz.bx 0 rfl) TI_9 rfl (F47.ev 17 rfl) rfl rfl (fun _ => rfl) rfl)) fun _ F48 => ?_
         refine g_take F48 rfl (i := 7) (listed' := #[true, true, true, true, true, true, true, true, false, false, false, false, false, false, false, false, false, false, false, false, false, false, false, false, false, false]) rfl (by kernel_rfl) (by kernel_rfl) (by kernel_rfl) (fun _ _ _ h => h) (Sd.of S21 [0] rfl) rfl (wanted_g F48 rfl rfl rfl rfl) rfl rfl (fun _ hz => (r_lenS (fun t ht => by cases ht; exact Tryz.underlying9) rfl rfl (F48.ev 18 rfl))) fun _ F49 => ?_
         refine d_one (i := 8) (listed' := #[true, true, true, true, true, true, true, true, true, false, false, false, false, false, false, false, false, false, false, false, false, false, false, false, false, false]) rfl (by kernel_rfl) rfl rfl ?_
         refine f_call F49 CF_26 (wanted_g F49 rfl rfl rfl rfl) rfl rfl rfl (lc (F49.ev 19 rfl) (lc rfl (lc rfl rfl))) (impl_within_c (H := fun _ => True) (n := ((x1.val.size : Nat) : Int)) (low := 1) (high := 60) (by first | exact ⟨by omega, by omega⟩ | (have hz := okx1.2; unfold okS at hz; exact ⟨by omega, by omega⟩)) (by first | exact ⟨by omega, by omega⟩ | (have hz := okx1.2; unfold okS at hz; exact ⟨by omega, by omega⟩)) (by first | exact ⟨by omega, by omega⟩ | (have hz := okx1.2; unfold okS at hz; exact ⟨by omega, by omega⟩))) ?_
         rintro _ w50 ⟨rfl, m50⟩
         refine ⟨_, rfl, fun _ F51 => ?_⟩
         have S50 := At.frame0 S21.at' m50
         clear m50
         refine ⟨Sd.of (S21.trans S50) [0] rfl, ?_⟩
         refine g_take F51 rfl (i := 9) (listed' := #[true, true, true, true, true, true, true, true, true, true, false, false, false, false, false, false, false, false, false, false, false, false, false, false, false, false]) rfl (by kernel_rfl) (by kernel_rfl) (by kernel_rfl) (fun _ _ _ h => h) (Sd.of (S21.trans S50) [0] rfl) rfl (wanted_g F51 rfl rfl rfl rfl) rfl rfl (fun _ hz => (r_not rfl (F51.ev 20 rfl))) fun _ F52 => ?_
         refine g_take F52 rfl (i := 10) (listed' := #[true, true, true, true, true, true, true, true, true, true, true, false, false, false, false, false, false, false, false, false, false, false, false, false, false, false]) rfl (by kernel_rfl) (by kernel_rfl) (by kernel_rfl) (fun _ _ _ h => h) (Sd.of (S21.trans S50) [0] rfl) rfl rfl rfl rfl (fun _ hz => (r_pick (b := false) rfl (F52.ev 16 rfl) (F52.ev 21 rfl))) fun _ F53 => ?_
         refine g_take F53 rfl (i := 11) (listed' := #[true, true, true, true, true, true, true, true, true, true, true, true, false, false, false, false, false, false, false, false, false, false, false, false, false, false]) rfl (by kernel_rfl) (by kernel_rfl) (by kernel_rfl) (fun _ _ _ h => h) (Sd.of (S21.trans S50) [0] rfl) rfl rfl rfl rfl (fun _ hz => (r_move rfl (F53.ev 22 rfl))) fun _ F54 => ?_
         rcases Bool.eq_false_or_eq_true (!(inB ((x1.val.size : Nat) : Int) 1 60)) with h55 | h55
         · rw [h55] at F54
           refine g_skip F54 rfl (i := 12) (listed' := #[true, true, true, true, true, true, true, true, true, true, true, true, true, false, false, false, false, false, false, false, false, false, false, false, false, false]) rfl (by kernel_rfl) (by kernel_rfl) (by kernel_rfl) (fun _ _ _ h => h) (Sd.of (S21.trans S50) [0] rfl) rfl (wanted_g F54 rfl rfl rfl rfl) rfl rfl fun _ F56 => ?_
           refine g_skip F56 rfl (i := 13) (listed' := #[true, true, true, true, true, true, true, true, true, true, true, true, true, true, false, false, false, false, false, false, false, false, false, false, false, false]) rfl (by kernel_rfl) (by kernel_rfl) (by kernel_rfl) (fun _ _ _ h => h) (Sd.of (S21.trans S50) [0] rfl) rfl (wanted_g F56 rfl rfl rfl rfl) rfl rfl fun _ F57 => ?_
           refine g_skip F57 rfl (i := 14) (listed' := #[true, true, true, true, true, true, true, true, true, true, true, true, true, true, true, false, false, false, false, false, false, false, false, false, false, false]) rfl (by kernel_rfl) (by kernel_rfl) (by kernel_rfl) (fun _ _ _ h => h) (Sd.of (S21.trans S50) [0] rfl) rfl (wanted_g F57 rfl rfl rfl rfl) rfl rfl fun _ F58 => ?_
           refine g_skip F58 rfl (i := 15) (listed' := #[true, true, true, true, true, true, true, true, true, true, true, true, true, true, true, true, false, false, false, false, false, false, false, false, false, false]) rfl (by kernel_rfl) (by kernel_rfl) (by kernel_rfl) (fun _ _ _ h => h) (Sd.of (S21.trans S50) [0] rfl) rfl (wanted_u F58 rfl rfl rfl) rfl rfl fun _ F59 => ?_
           refine g_skip F59 rfl (i := 16) (listed' := #[true, true, true, true, true, true, true, true, true, true, true, true, true, true, true, true, true, false, false, false, false, false, false, false, false, false]) rfl (by kernel_rfl) (by kernel_rfl) (by kernel_rfl) (fun _ _ _ h => h) (Sd.of (S21.trans S50) [0] rfl) rfl (wanted_u F59 rfl rfl rfl) rfl rfl fun _ F60 => ?_
           refine g_skip F60 rfl (i := 17) (listed' := #[true, true, true, true, true, true, true, true, true, true, true, true, true, true, true, true, true, true, false, false, false, false, false, false, false, false]) rfl (by kernel_rfl) (by kernel_rfl) (by kernel_rfl) (fun _ _ _ h => h) (Sd.of (S21.trans S50) [0] rfl) rfl (wanted_u F60 rfl rfl rfl) rfl rfl fun _ F61 => ?_
           refine g_skip F61 rfl (i := 18) (listed' := #[true, true, true, true, true, true, true, true, true, true, true, true, true, true, true, true, true, true, true, false, false, false, false, false, false, false]) rfl (by kernel_rfl) (by kernel_rfl) (by kernel_rfl) (fun _ _ _ h => h) (Sd.of (S21.trans S50) [0] rfl) rfl (wanted_u F61 rfl rfl rfl) rfl rfl fun _ F62 => ?_
           refine g_skip F62 rfl (i := 19) (listed' := #[true, true, true, true, true, true, true, true, true, true, true, true, true, true, true, true, true, true, true, true, false, false, false, false, false, false]) rfl (by kernel_rfl) (by kernel_rfl) (by kernel_rfl) (fun _ _ _ h => h) (Sd.of (S21.trans S50) [0] rfl) rfl (wanted_u F62 rfl rfl rfl) rfl rfl fun _ F63 => ?_
           refine g_skip F63 rfl (i := 20) (listed' := #[true, true, true, true, true, true, true, true, true, true, true, true, true, true, true, true, true, true, true, true, true, false, false, false, false, false]) rfl (by kernel_rfl) (by kernel_rfl) (by kernel_rfl) (fun _ _ _ h => h) (Sd.of (S21.trans S50) [0] rfl) rfl (wanted_u F63 rfl rfl rfl) rfl rfl fun _ F64 => ?_
           refine g_skip F64 rfl (i := 21) (listed' := #[true, true, true, true, true, true, true, true, true, true, true, true, true, true, true, true, true, true, true, true, true, true, false, false, false, false]) rfl (by kernel_rfl) (by kernel_rfl) (by kernel_rfl) (fun _ _ _ h => h) (Sd.of (S21.trans S50) [0] rfl) rfl (wanted_u F64 rfl rfl rfl) rfl rfl fun _ F65 => ?_
           refine g_skip F65 rfl (i := 22) (listed' := #[true, true, true, true, true, true, true, true, true, true, true, true, true, true, true, true, true, true, true, true, true, true, true, false, false, false]) rfl (by kernel_rfl) (by kernel_rfl) (by kernel_rfl) (fun _ _ _ h => h) (Sd.of (S21.trans S50) [0] rfl) rfl (wanted_u F65 rfl rfl rfl) rfl rfl fun _ F66 => ?_
           refine g_skip F66 rfl (i := 23) (listed' := #[true, true, true, true, true, true, true, true, true, true, true, true, true, true, true, true, true, true, true, true, true, true, true, true, false, false]) rfl (by kernel_rfl) (by kernel_rfl) (by kernel_rfl) (fun _ _ _ h => h) (Sd.of (S21.trans S50) [0] rfl) rfl (wanted_u F66 rfl rfl rfl) rfl rfl fun _ F67 => ?_
           refine g_skip F67 rfl (i := 24) (listed' := #[true, true, true, true, true, true, true, true, true, true, true, true, true, true, true, true, true, true, true, true, true, true, true, true, true, false]) rfl (by kernel_rfl) (by kernel_rfl) (by kernel_rfl) (fun _ _ _ h => h) (Sd.of (S21.trans S50) [0] rfl) rfl (wanted_g F67 rfl rfl rfl rfl) rfl rfl fun _ F68 => ?_
           refine g_take F68 rfl (i := 25) (listed' := #[true, true, true, true, true, true, true, true, true, true, true, true, true, true, true, true, true, true, true, true, true, true, true, true, true, true]) rfl (by kernel_rfl) (by kernel_rfl) (by kernel_rfl) (fun _ _ _ h => h) (Sd.of (S21.trans S50) [0] rfl) rfl rfl rfl rfl (fun _ hz => (r_pick (b := true) rfl (F68.ev 23 rfl) rfl)) fun _ F69 => ?_
           refine wpAnyH_done (by kernel_rfl) (x_normal ?_) _
           exact ⟨Fr.cast (F69.cut rfl) (congrArg (fun zZ => ([(0, .slice s_a s_n s_c), (5, .slice s_a s_n s_c), (6, .int .i64 ((s_n : Nat) : Int)), (7, .int .i64 ((k : Nat) : Int)), (37, .bool zZ)] : List (Nat × Value))) (show true = (!cellOk s k) from by first | exact ck_1 hx1 (by assumption) | exact ck_2 hx1 (by assumption) (by assumption) | exact ck_3 hx1 (by assumption) (by assumption) (by assumption) | exact ck_5 hx1 (by assumption) (by assumption) (by assumption) hx2)), ((S18.trans (S21.trans S50)).pick [0] rfl)⟩
         · rw [h55] at F54
           refine g_take F54 rfl (i := 12) (listed' := #[true, true, true, true, true, true, true, true, true, true, true, true, true, false, false, false, false, false, false, false, false, false, false, false, false, false]) rfl (by kernel_rfl) (by kernel_rfl) (by kernel_rfl) (fun _ _ _ h => h) (Sd.of (S21.trans S50) [0] rfl) rfl (wanted_g F54 rfl rfl rfl rfl) rfl rfl (fun _ hz => (r_move rfl (F54.ev 3 rfl))) fun _ F70 => ?_
           refine g_take F70 rfl (i := 13) (listed' := #[true, true, true, true, true, true, true, true, true, true, true, true, true, true, false, false, false, false, false, false, false, false, false, false, false, false]) rfl (by kernel_rfl) (by kernel_rfl) (by kernel_rfl) (fun _ _ _ h => h) (Sd.of (S21.trans S50) [0] rfl) rfl (wanted_g F70 rfl rfl rfl rfl) rfl rfl (fun _ hz => (r_cmp (b := decide (k > 0)) (.inr (.inr (.inr (.inr (.inl rfl))))) rfl (F70.ev 24 rfl) rfl (dec_of (by omega)))) fun _ F71 => ?_
           refine g_take F71 rfl (i := 14) (listed' := #[true, true, true, true, true, true, true, true, true, true, true, true, true, true, true, false, false, false, false, false, false, false, false, false, false, false]) rfl (by kernel_rfl) (by kernel_rfl) (by kernel_rfl) (fun _ _ _ h => h) (Sd.of (S21.trans S50) [0] rfl) rfl (wanted_g F71 rfl rfl rfl rfl) rfl rfl (fun _ hz => (r_move rfl (F71.ev 25 rfl))) fun _ F72 => ?_
           rcases Decidable.em (k > 0) with h73 | h73
           · rw [decide_eq_true h73] at F72
             refine g_take F72 rfl (i := 15) (listed' := #[true, true, true, true, true, true, true, true, true, true, true, true, true, true, true, true, false, false, false, false, false, false, false, false, false, false]) rfl (by kernel_rfl) (by kernel_rfl) (by kernel_rfl) (fun _ _ _ h => h) (Sd.of (S21.trans S50) [0] rfl) rfl (wanted_g F72 rfl rfl rfl rfl) rfl rfl (fun _ hz => (r_field FI_90_0 rfl (F72.ev 4 rfl) rfl)) fun _ F74 => ?_
             refine g_take (v := .string x1.key) F74 rfl (i := 16) (listed' := #[true, true, true, true, true, true, true, true, true, true, true, true, true, true, true, true, true, false, false, false, false, false, false, false, false, false]) rfl (by kernel_rfl) (by kernel_rfl) (by kernel_rfl) (fun _ _ _ h => h) (Sd.of (S21.trans S50) [0] rfl) rfl (wanted_g F74 rfl rfl rfl rfl) rfl rfl (fun _ hz => (r_loadX (hz.bx 0 rfl) TI_9 rfl (F74.ev 27 rfl) rfl rfl (fun _ => rfl) rfl)) fun _ F75 => ?_
             refine g_take F75 rfl (i := 17) (listed' := #[true, true, true, true, true, true, true, true, true, true, true, true, true, true, true, true, true, true, false, false, false, false, false, false, false, false]) rfl (by kernel_rfl) (by kernel_rfl) (by kernel_rfl) (fun _ _ _ h => h) (Sd.of (S21.trans S50) [0] rfl) rfl (wanted_g F75 rfl rfl rfl rfl) rfl rfl (fun _ hz => (r_move rfl (F75.ev 0 rfl))) fun _ F76 => ?_
             refine g_take F76 rfl (i := 18) (listed' := #[true, true, true, true, true, true, true, true, true, true, true, true, true, true, true, true, true, true, true, false, false, false, false, false, false, false]) rfl (by kernel_rfl) (by kernel_rfl) (by kernel_rfl) (fun _ _ _ h => h) (Sd.of (S21.trans S50) [0] rfl) rfl (wanted_g F76 rfl rfl rfl rfl) rfl rfl (fun _ hz => (r_move rfl (F76.ev 3 rfl))) fun _ F77 => ?_
             refine g_take F77 rfl (i := 19) (listed' := #[true, true, true, true, true, true, true, true, true, true, true, true, true, true, true, true, true, true, true, true, false, false, false, false, false, false]) rfl (by kernel_rfl) (by kernel_rfl) (by kernel_rfl) (fun _ _ _ h => h) (Sd.of (S21.trans S50) [0] rfl) rfl (wanted_g F77 rfl rfl rfl rfl) rfl rfl (fun _ hz => (r_sub (z := ((k - 1 : Nat) : Int)) rfl (F77.ev 30 rfl) rfl (by first | rfl | omega) ⟨by first | omega | (unfold i64ok at *; omega), by first | omega | (unfold i64ok at *; omega)⟩)) fun _ F78 => ?_
             obtain ⟨B79, O79, x2, ad79, hx2, okx2, ln79, cl79⟩ := Rd.atK (Nat.succ_pos _) (Rd.mv (Nat.succ_pos _) Q0 (S5.trans (S12.trans (T16.trans S18)))) (k - 1) (by first | assumption | omega)
             clear ln79
             refine g_take F78 rfl (i := 20) (listed' := #[true, true, true, true, true, true, true, true, true, true, true, true, true, true, true, true, true, true, true, true, true, false, false, false, false, false]) rfl (by kernel_rfl) (by kernel_rfl) (by kernel_rfl) (fun _ _ _ h => h) (Sd.of (S21.trans S50) [0] rfl) rfl (wanted_g F78 rfl rfl rfl rfl) rfl rfl (fun _ hz => (r_indexAddr (i := k - 1) ET_35 rfl ((F78.ev 29 rfl).trans (by rw [ad79])) (F78.ev 31 rfl) (by omega) (by first | assumption | omega))) fun _ F80 => ?_
             refine g_take F80 rfl (i := 21) (listed' := #[true, true, true, true, true, true, true, true, true, true, true, true, true, true, true, true, true, true, true, true, true, true, false, false, false, false]) rfl (by kernel_rfl) (by kernel_rfl) (by kernel_rfl) (fun _ _ _ h => h) (Sd.of (S21.trans S50) [0] rfl) rfl (wanted_g F80 rfl rfl rfl rfl) rfl rfl (fun _ hz => (r_field FI_90_0 rfl (F80.ev 32 rfl) rfl)) fun _ F81 => ?_
             refine g_take (v := .string x2.key) F81 rfl (i := 22) (listed' := #[true, true, true, true, true, true, true, true, true, true, true, true, true, true, true, true, true, true, true, true, true, true, true, false, false, false]) rfl (by kernel_rfl) (by kernel_rfl) (by kernel_rfl) (fun _ _ _ h => h) (Sd.of (S21.trans S50) [0] rfl) rfl (wanted_g F81 rfl rfl rfl rfl) rfl rfl (fun _ hz => (r_load (cs := [.string x2.key]) TI_9 rfl (F81.ev 33 rfl) rfl (fun _ => rfl) (elem_sub (f := 0) (cl79 _ hz.kp) [.string x2.key] rfl))) fun _ F82 => ?_
             refine g_take F82 rfl (i := 23) (listed' := #[true, true, true, true, true, true, true, true, true, true, true, true, true, true, true, true, true, true, true, true, true, true, true, true, false, false]) rfl (by kernel_rfl) (by kernel_rfl) (by kernel_rfl) (fun _ _ _ h => h) (Sd.of (S21.trans S50) [0] rfl) rfl (wanted_g F82 rfl rfl rfl rfl) rfl rfl (fun _ hz => (r_cmps (b := (leS x1.key x2.key)) (.inr (.inr (.inr (.inl rfl)))) rfl (F82.ev 28 rfl) (F82.ev 34 rfl) rfl)) fun _ F83 => ?_
             refine g_take F83 rfl (i := 24) (listed' := #[true, true, true, true, true, true, true, true, true, true, true, true, true, true, true, true, true, true, true, true, true, true, true, true, true, false]) rfl (by kernel_rfl) (by kernel_rfl) (by kernel_rfl) (fun _ _ _ h => h) (Sd.of (S21.trans S50) [0] rfl) rfl (wanted_g F83 rfl rfl rfl rfl) rfl rfl (fun _ hz => (r_pick (b := true) rfl (F83.ev 26 rfl) (F83.ev 35 rfl))) fun _ F84 => ?_
             refine g_take F84 rfl (i := 25) (listed' := #[true, true, true, true, true, true, true, true, true, true, true, true, true, true, true, true, true, true, true, true, true, true, true, true, true, true]) rfl (by kernel_rfl) (by kernel_rfl) (by kernel_rfl) (fun _ _ _ h => h) (Sd.of (S21.trans S50) [0] rfl) rfl rfl rfl rfl (fun _ hz => (r_pick (b := false) rfl (F84.ev 23 rfl) (F84.ev 36 rfl))) fun _ F85 => ?_
             refine wpAnyH_done (by kernel_rfl) (x_normal ?_) _
             exact ⟨Fr.cast (F85.cut rfl) (congrArg (fun zZ => ([(0, .slice s_a s_n s_c), (5, .slice s_a s_n s_c), (6, .int .i64 ((s_n : Nat) : Int)), (7, .int .i64 ((k : Nat) : Int)), (37, .bool zZ)] : List (Nat × Value))) (show (leS x1.key x2.key) = (!cellOk s k) from by first | exact ck_1 hx1 (by assumption) | exact ck_2 hx1 (by assumption) (by assumption) | exact ck_3 hx1 (by assumption) (by assumption) (by assumption) | exact ck_5 hx1 (by assumption) (by assumption) (by assumption) hx2)), ((S18.trans (S21.trans S50)).pick [0] rfl)⟩
           · rw [decide_eq_false h73] at F72
             refine g_skip F72 rfl (i := 15) (listed' := #[true, true, true, true, true, true, true, true, true, true, true, true, true, true, true, true, false, false, false, false, false, false, false, false, false, false]) rfl (by kernel_rfl) (by kernel_rfl) (by kernel_rfl) (fun _ _ _ h => h) (Sd.of (S21.trans S50) [0] rfl) rfl (wanted_g F72 rfl rfl rfl rfl) rfl rfl fun _ F86 => ?_
             refine g_skip F86 rfl (i := 16) (listed' := #[true, true, true, true, true, true, true, true, true, true, true, true, true, true, true, true, true, false, false, false, false, false, false, false, false, false]) rfl (by kernel_rfl) (by kernel_rfl) (by kernel_rfl) (fun _ _ _ h => h) (Sd.of (S21.trans S50) [0] rfl) rfl (wanted_g F86 rfl rfl rfl rfl) rfl rfl fun _ F87 => ?_
             refine g_skip F87 rfl (i := 17) (listed' := #[true, true, true, true, true, true, true, true, true, true, true, true, true, true, true, true, true, true, false, false, false, false, false, false, false, false]) rfl (by kernel_rfl) (by kernel_rfl) (by kernel_rfl) (fun _ _ _ h => h) (Sd.of (S21.trans S50) [0] rfl) rfl (wanted_g F87 rfl rfl rfl rfl) rfl rfl fun _ F88 => ?_
             refine g_skip F88 rfl (i := 18) (listed' := #[true, true, true, true, true, true, true, true, true, true, true, true, true, true, true, true, true, true, true, false, false, false, false, false, false, false]) rfl (by kernel_rfl) (by kernel_rfl) (by kernel_rfl) (fun _ _ _ h => h) (Sd.of (S21.trans S50) [0] rfl) rfl (wanted_g F88 rfl rfl rfl rfl) rfl rfl fun _ F89 => ?_
             refine g_skip F89 rfl (i := 19) (listed' := #[true, true, true, true, true, true, true, true, true, true, true, true, true, true, true, true, true, true, true, true, false, false, false, false, false, false]) rfl (by kernel_rfl) (by kernel_rfl) (by kernel_rfl) (fun _ _ _ h => h) (Sd.of (S21.trans S50) [0] rfl) rfl (wanted_g F89 rfl rfl rfl rfl) rfl rfl fun _ F90 => ?_
             refine g_skip F90 rfl (i := 20) (listed' := #[true, true, true, true, true, true, true, true, true, true, true, true, true, true, true, true, true, true, true, true, true, false, false, false, false, false]) rfl (by kernel_rfl) (by kernel_rfl) (by kernel_rfl) (fun _ _ _ h => h) (Sd.of (S21.trans S50) [0] rfl) rfl (wanted_g F90 rfl rfl rfl rfl) rfl rfl fun _ F91 => ?_
             refine g_skip F91 rfl (i := 21) (listed' := #[true, true, true, true, true, true, true, true, true, true, true, true, true, true, true, true, true, true, true, true, true, true, false, false, false, false]) rfl (by kernel_rfl) (by kernel_rfl) (by kernel_rfl) (fun _ _ _ h => h) (Sd.of (S21.trans S50) [0] rfl) rfl (wanted_g F91 rfl rfl rfl rfl) rfl rfl fun _ F92 => ?_
             refine g_skip F92 rfl (i := 22) (listed' := #[true, true, true, true, true, true, true, true, true, true, true, true, true, true, true, true, true, true, true, true, true, true, true, false, false, false]) rfl (by kernel_rfl) (by kernel_rfl) (by kernel_rfl) (fun _ _ _ h => h) (Sd.of (S21.trans S50) [0] rfl) rfl (wanted_g F92 rfl rfl rfl rfl) rfl rfl fun _ F93 => ?_
             refine g_skip F93 rfl (i := 23) (listed' := #[true, true, true, true, true, true, true, true, true, true, true, true, true, true, true, true, true, true, true, true, true, true, true, true, false, false]) rfl (by kernel_rfl) (by kernel_rfl) (by kernel_rfl) (fun _ _ _ h => h) (Sd.of (S21.trans S50) [0] rfl) rfl (wanted_g F93 rfl rfl rfl rfl) rfl rfl fun _ F94 => ?_
             refine g_take F94 rfl (i := 24) (listed' := #[true, true, true, true, true, true, true, true, true, true, true, true, true, true, true, true, true, true, true, true, true, true, true, true, true, false]) rfl (by kernel_rfl) (by kernel_rfl) (by kernel_rfl) (fun _ _ _ h => h) (Sd.of (S21.trans S50) [0] rfl) rfl (wanted_g F94 rfl rfl rfl rfl) rfl rfl (fun _ hz => (r_pick (b := false) rfl (F94.ev 26 rfl) rfl)) fun _ F95 => ?_
             refine g_take F95 rfl (i := 25) (listed' := #[true, true, true, true, true, true, true, true, true, true, true, true, true, true, true, true, true, true, true, true, true, true, true, true, true, true]) rfl (by kernel_rfl) (by kernel_rfl) (by kernel_rfl) (fun _ _ _ h => h) (Sd.of (S21.trans S50) [0] rfl) rfl rfl rfl rfl (fun _ hz => (r_pick (b := false) rfl (F95.ev 23 rfl) (F95.ev 36 rfl))) fun _ F96 => ?_
             refine wpAnyH_done (by kernel_rfl) (x_normal ?_) _
             exact ⟨Fr.cast (F96.cut rfl) (congrArg (fun zZ => ([(0, .slice s_a s_n s_c), (5, .slice s_a s_n s_c), (6, .int .i64 ((s_n : Nat) : Int)), (7, .int .i64 ((k : Nat) : Int)), (37, .bool zZ)] : List (Nat × Value))) (show false = (!cellOk s k) from by first | exact ck_1 hx1 (by assumption) | exact ck_2 hx1 (by assumption) (by assumption) | exact ck_3 hx1 (by assumption) (by assumption) (by assumption) | exact ck_5 hx1 (by assumption) (by assumption) (by assumption) hx2)), ((S18.trans (S21.trans S50)).pick [0] rfl)⟩
     · rintro a97 w97 ⟨F97, S97⟩
       refine x_normal (x_condb (b := (!cellOk s k)) (F97.ev 37 rfl) (fun h98 => ?_) (fun h98 => ?_))
       · skip
         refine wp_seq (wp_region_lit (l_op (f_val F97 rfl rfl (r_assign rfl rfl) rfl fun _ F99 => ?_)))
         refine s_end (x_normal (wp_ret (x_block_ret (x_then_ret (x_then_ret (x_block_ret (x_then_ret ?_)))))))
         refine x_done (v := .bool false) F99 (results_1 Tryz.results24 (.tmp (F99.ev 2 rfl))) ?_
         exact ⟨(by rw [(show false = (storeOk s) from by exact (storeOk_bad (k := k) (by omega) (nt (by assumption))).symm)]), (Mv.pick (S5.trans (S12.trans (T16.trans S97))) [] rfl)⟩
       · skip
         refine wp_skip (x_block_normal (x_normal (wp_region_lit (l_op (f_val F97 rfl rfl (r_add (z := ((k + 1 : Nat) : Int)) rfl (F97.ev 7 rfl) rfl (by first | rfl | omega) ⟨by first | omega | (unfold i64ok at *; omega), by first | omega | (unfold i64ok at *; omega)⟩) rfl fun _ F100 => ?_)))))
         refine l_op (f_mv F100 rfl rfl rfl rfl rfl fun _ F101 => ?_)
         refine s_end ?_
         refine x_normal ⟨k + 1, by omega, F101.cut rfl, ((S5.trans (S12.trans (T16.trans S97))).pick [] rfl), by omega, all_step hk_1 (nf (by assumption))⟩
   · skip
     refine wp_exit (x_then_exit (x_then_exit (x_block_here (x_normal (wp_seq (wp_region_lit (l_op (f_mv F6 rfl rfl rfl rfl rfl fun _ F102 => ?_))))))))
     refine l_op (f_val F102 rfl rfl (r_len Tryz.underlying35 rfl (F102.ev 39 rfl)) rfl fun _ F103 => ?_)
     refine l_op (f_val F103 rfl rfl (r_cmp (b := decide (s_n ≤ 900)) (.inr (.inr (.inr (.inl rfl)))) rfl (F103.ev 40 rfl) rfl (dec_of (by omega))) rfl fun _ F104 => ?_)
     refine l_op (f_as F104 rfl rfl rfl rfl rfl fun _ F105 => ?_)
     refine s_end (x_normal (wp_ret ?_))
     refine x_done (v := .bool (decide (s_n ≤ 900))) F105 (results_1 Tryz.results24 (.tmp (F105.ev 2 rfl))) ?_
     exact ⟨(by rw [(show (decide (s_n ≤ 900)) = (storeOk s) from by rw [ln_s]; exact (storeOk_all (fun j hj => hk_1 j (by omega))).symm)]), (Mv.pick S5 [] rfl)⟩
theorem spec_BestSlot_c {w : World} {H : Nat → Prop} {d : DiskH} {Q1 : Option Addr} {Q0 Q2 : Nat} (Q5 : Rd 3 encSlot okSlot H w (.slice Q1 Q0 Q2) d.slots) (Q8 : NRd inSlot H w d.slots) (Q7 : okS d.journal.text) (Q6 : i64ok d.journal.sure) :
    Calls Tryz.prog 40 #[.agg #[.slice Q1 Q0 Q2, .string d.journal.text, .int .i64 d.journal.sure]] w fun e w' => e = .returned (.int .i64 (bestTo (d.slots.map SlotH.d) d.slots.length)) ∧ Mv [] w [] w' ∧ i64ok (bestTo (d.slots.map SlotH.d) d.slots.length) := by
 have uU : True := (fun _ _ => trivial) Q7 Q6
 clear uU
 have Q3 : Rd 3 encSlot okSlot (V H w []) w (.slice Q1 Q0 Q2) d.slots := Rd.start Q5 (fun _ _ => fps_nil _)
 obtain ⟨Q10, Q9, Q11, Q12⟩ := Rd.inv Q5
 have Q4 : NRd inSlot (V H w []) w d.slots := NRd.start Q8 (fun _ _ => fps_nil _)
 refine calls_enter 39 Tryz.func40 rfl Tryz.ntmps40 (Nat.le_of_ble_eq_true rfl) (fun _ F0i => ?_)
 have F0 : Fr 39 [(0, .agg #[.slice Q1 Q0 Q2, .string d.journal.text, .int .i64 d.journal.sure])] _ := F0i
 clear F0i
 refine wp_seq (wp_region_lit (l_op (f_box F0 (At.nil w) rfl rfl rfl (F0.ev 0 rfl) rfl rfl fun b1 _ w1 F2 S1 => ?_)))
 refine l_op (f_val F2 rfl rfl (r_assign rfl rfl) rfl fun _ F3 => ?_)
 refine s_end (x_normal (wp_seq (wp_region_lit (l_op (f_val F3 rfl rfl (r_assign rfl rfl) rfl fun _ F4 => ?_)))))
 refine s_end (x_normal (wp_seq (wp_seq (wp_region_lit (l_op (f_val F4 rfl rfl (r_assign rfl rfl) rfl fun _ F5 => ?_))))))
 refine s_end (x_normal (wp_block ?_))
 refine x_loop (fun (k : Nat) aZ wZ => ∃ (best : Int), Fr 39 [(4, .int .i64 ((k : Nat) : Int)), (3, .int .i64 best), (1, .pointer (some ⟨b1, 0, none⟩))] aZ ∧ Mv [bx b1 [.slice Q1 Q0 Q2, .string d.journal.text, .int .i64 d.journal.sure] 40] w1 [bx b1 [.slice Q1 Q0 Q2, .string d.journal.text, .int .i64 d.journal.sure] 40] wZ ∧ (k ≤ Q0) ∧ (best = bestTo (d.slots.map SlotH.d) k) ∧ (-1 ≤ best ∧ best < ((k : Nat) : Int))) (fun (k : Nat) => Q0 - k) (0) ?_ ?_
 · exact ⟨(-1), F5.cut rfl, (Mv.refl S1.at'), by omega, rfl, ⟨by omega, by omega⟩⟩
 · rintro k a6 w6 ⟨best, F6, S6, hk_0, hk_1, hk_2⟩
   refine wp_seq (wp_seq (wp_region_lit (l_op (f_mv F6 rfl rfl rfl rfl rfl fun _ F7 => ?_))))
   refine l_op (f_val F7 rfl rfl (r_field FI_40_0 rfl (F7.ev 1 rfl) rfl) rfl fun _ F8 => ?_)
   refine l_op (f_val (v := .slice Q1 Q0 Q2) F8 rfl rfl (r_loadB S6.at' 0 TI_37 rfl rfl (F8.ev 6 rfl) rfl rfl (fun _ => rfl) rfl) rfl fun _ F9 => ?_)
   refine l_op (f_val F9 rfl rfl (r_len Tryz.underlying37 rfl (F9.ev 7 rfl)) rfl fun _ F10 => ?_)
   refine l_op (f_val F10 rfl rfl (r_cmp (b := decide (k < Q0)) (.inr (.inr (.inl rfl))) rfl (F10.ev 5 rfl) (F10.ev 8 rfl) (dec_of (by omega))) rfl fun _ F11 => ?_)
   refine s_end (x_normal (x_cond (p := k < Q0) (F11.ev 9 rfl) (fun h12 => ?_) (fun h12 => ?_)))
   · skip
     refine wp_skip (x_normal (wp_seq (wp_block (wp_seq ?_))))
     obtain ⟨x1, hx1, okx1⟩ := Rd.elem (Rd.mv (Nat.succ_pos _) Q3 (S1.trans S6)) k (by first | assumption | omega)
     have oj14 := okx1
     unfold okSlot at oj14
     have VI15 : Rd 2 encC okC (V H w [bx b1 [.slice Q1 Q0 Q2, .string d.journal.text, .int .i64 d.journal.sure] 40]) w6 (.slice x1.a0 x1.n0 x1.c0) x1.d.cells := NRd.get (NRd.mv Q4 (S1.trans S6)) hx1 (j := 0) rfl
     obtain ⟨ln15, le15, mx15, ni15⟩ := Rd.inv VI15
     obtain ⟨x2, hx2, okx2⟩ := Rd.elem (Rd.mv (Nat.succ_pos _) Q3 (S1.trans S6)) (best).toNat (by first | assumption | omega)
     have oj16 := okx2
     unfold okSlot at oj16
     have VI17 : Rd 2 encC okC (V H w [bx b1 [.slice Q1 Q0 Q2, .string d.journal.text, .int .i64 d.journal.sure] 40]) w6 (.slice x2.a0 x2.n0 x2.c0) x2.d.cells := NRd.get (NRd.mv Q4 (S1.trans S6)) hx2 (j := 0) rfl
     obtain ⟨ln17, le17, mx17, ni17⟩ := Rd.inv VI17
     refine x_draw (fun aZ wZ => Fr 39 [(1, .pointer (some ⟨b1, 0, none⟩)), (3, .int .i64 best), (4, .int .i64 ((k : Nat) : Int)), (36, .bool (x1.d.whole && (decide (best < 0) || decide (x1.d.seq > x2.d.seq))))] aZ ∧ Mv [bx b1 [.slice Q1 Q0 Q2, .string d.journal.text, .int .i64 d.journal.sure] 40] w6 [bx b1 [.slice Q1 Q0 Q2, .string d.journal.text, .int .i64 d.journal.sure] 40] wZ) [bx b1 [.slice Q1 Q0 Q2, .string d.journal.text, .int .i64 d.journal.sure] 40] mixed S6.at' (listed := #[false, false, false, false, false, false, false, false, false, false, false, false, false, false, false, false, false, false, false, false, false, false, false, false, false]) rfl (fun w18 S18 => ?_) [0] rfl ?_
     · skip
       refine g_take F11 rfl (i := 0) (listed' := #[true, false, false, false, false, false, false, false, false, false, false, false, false, false, false, false, false, false, false, false, false, false, false, false, false]) rfl (by kernel_rfl) (by kernel_rfl) (by kernel_rfl) (fun _ _ _ h => h) (Sd.of (Mv.refl S18.at') [0] rfl) rfl rfl rfl rfl (fun _ hz => (r_field FI_40_0 rfl (F11.ev 1 rfl) rfl)) fun _ F19 => ?_
       refine g_take (v := .slice Q1 Q0 Q2) F19 rfl (i := 1) (listed' := #[true, true, false, false, false, false, false, false, false, false, false, false, false, false, false, false, false, false, false, false, false, false, false, false, false]) rfl (by kernel_rfl) (by kernel_rfl) (by kernel_rfl) (fun _ _ _ h => h) (Sd.of (Mv.refl S18.at') [0] rfl) rfl rfl rfl rfl (fun _ hz => (r_loadX (hz.bx 0 rfl) TI_37 rfl (F19.ev 12 rfl) rfl rfl (fun _ => rfl) rfl)) fun _ F20 => ?_
       refine g_take F20 rfl (i := 2) (listed' := #[true, true, true, false, false, false, false, false, false, false, false, false, false, false, false, false, false, false, false, false, false, false, false, false, false]) rfl (by kernel_rfl) (by kernel_rfl) (by kernel_rfl) (fun _ _ _ h => h) (Sd.of (Mv.refl S18.at') [0] rfl) rfl rfl rfl rfl (fun _ hz => (r_move rfl (F20.ev 4 rfl))) fun _ F21 => ?_
       obtain ⟨B22, O22, y22, ad22, hy22, oky22, ln22, cl22⟩ := Rd.atK (Nat.succ_pos _) (Rd.mv (Nat.succ_pos _) Q3 (S1.trans (S6.trans S18))) k (by first | assumption | omega)
       clear ln22
       obtain rfl := Option.some.inj (hx1.symm.trans hy22)
       clear hy22 oky22
       refine g_take F21 rfl (i := 3) (listed' := #[true, true, true, true, false, false, false, false, false, false, false, false, false, false, false, false, false, false, false, false, false, false, false, false, false]) rfl (by kernel_rfl) (by kernel_rfl) (by kernel_rfl) (fun _ _ _ h => h) (Sd.of (Mv.refl S18.at') [0] rfl) rfl rfl rfl rfl (fun _ hz => (r_indexAddr (i := k) ET_37 rfl ((F21.ev 13 rfl).trans (by rw [ad22])) (F21.ev 14 rfl) (by omega) (by first | assumption | omega))) fun _ F23 => ?_
       refine g_take F23 rfl (i := 4) (listed' := #[true, true, true, true, true, false, false, false, false, false, false, false, false, false, false, false, false, false, false, false, false, false, false, false, false]) rfl (by kernel_rfl) (by kernel_rfl) (by kernel_rfl) (fun _ _ _ h => h) (Sd.of (Mv.refl S18.at') [0] rfl) rfl rfl rfl rfl (fun _ hz => (r_field FI_92_2 rfl (F23.ev 15 rfl) rfl)) fun _ F24 => ?_
       refine g_take (v := .bool x1.d.whole) F24 rfl (i := 5) (listed' := #[true, true, true, true, true, true, false, false, false, false, false, false, false, false, false, false, false, false, false, false, false, false, false, false, false]) rfl (by kernel_rfl) (by kernel_rfl) (by kernel_rfl) (fun _ _ _ h => h) (Sd.of (Mv.refl S18.at') [0] rfl) rfl rfl rfl rfl (fun _ hz => (r_load (cs := [.bool x1.d.whole]) TI_4 rfl (F24.ev 16 rfl) rfl (fun _ => rfl) (elem_sub (f := 2) (cl22 _ hz.kp) [.bool x1.d.whole] rfl))) fun _ F25 => ?_
       refine g_take F25 rfl (i := 6) (listed' := #[true, true, true, true, true, true, true, false, false, false, false, false, false, false, false, false, false, false, false, false, false, false, false, false, false]) rfl (by kernel_rfl) (by kernel_rfl) (by kernel_rfl) (fun _ _ _ h => h) (Sd.of (Mv.refl S18.at') [0] rfl) rfl rfl rfl rfl (fun _ hz => (r_move rfl (F25.ev 17 rfl))) fun _ F26 => ?_
       rcases Bool.eq_false_or_eq_true x1.d.whole with h27 | h27
       · rw [h27] at F26
         refine g_take F26 rfl (i := 7) (listed' := #[true, true, true, true, true, true, true, true, false, false, false, false, false, false, false, false, false, false, false, false, false, false, false, false, false]) rfl (by kernel_rfl) (by kernel_rfl) (by kernel_rfl) (fun _ _ _ h => h) (Sd.of (Mv.refl S18.at') [0] rfl) rfl (wanted_g F26 rfl rfl rfl rfl) rfl rfl (fun _ hz => (r_move rfl (F26.ev 3 rfl))) fun _ F28 => ?_
         refine g_take F28 rfl (i := 8) (listed' := #[true, true, true, true, true, true, true, true, true, false, false, false, false, false, false, false, false, false, false, false, false, false, false, false, false]) rfl (by kernel_rfl) (by kernel_rfl) (by kernel_rfl) (fun _ _ _ h => h) (Sd.of (Mv.refl S18.at') [0] rfl) rfl (wanted_g F28 rfl rfl rfl rfl) rfl rfl (fun _ hz => (r_cmp (b := decide (best < 0)) (.inr (.inr (.inl rfl))) rfl (F28.ev 19 rfl) rfl (dec_of (by omega)))) fun _ F29 => ?_
         refine g_take F29 rfl (i := 9) (listed' := #[true, true, true, true, true, true, true, true, true, true, false, false, false, false, false, false, false, false, false, false, false, false, false, false, false]) rfl (by kernel_rfl) (by kernel_rfl) (by kernel_rfl) (fun _ _ _ h => h) (Sd.of (Mv.refl S18.at') [0] rfl) rfl (wanted_g F29 rfl rfl rfl rfl) rfl rfl (fun _ hz => (r_move rfl (F29.ev 20 rfl))) fun _ F30 => ?_
         rcases Decidable.em (best < 0) with h31 | h31
         · rw [decide_eq_true h31] at F30
           refine g_skip F30 rfl (i := 10) (listed' := #[true, true, true, true, true, true, true, true, true, true, true, false, false, false, false, false, false, false, false, false, false, false, false, false, false]) rfl (by kernel_rfl) (by kernel_rfl) (by kernel_rfl) (fun _ _ _ h => h) (Sd.of (Mv.refl S18.at') [0] rfl) rfl (wanted_g F30 rfl rfl rfl rfl) rfl rfl fun _ F32 => ?_
           refine g_skip F32 rfl (i := 11) (listed' := #[true, true, true, true, true, true, true, true, true, true, true, true, false, false, false, false, false, false, false, false, false, false, false, false, false]) rfl (by kernel_rfl) (by kernel_rfl) (by kernel_rfl) (fun _ _ _ h => h) (Sd.of (Mv.refl S18.at') [0] rfl) rfl (wanted_g F32 rfl rfl rfl rfl) rfl rfl fun _ F33 => ?_
           refine g_skip F33 rfl (i := 12) (listed' := #[true, true, true, true, true, true, true, true, true, true, true, true, true, false, false, false, false, false, false, false, false, false, false, false, false]) rfl (by kernel_rfl) (by kernel_rfl) (by kernel_rfl) (fun _ _ _ h => h) (Sd.of (Mv.refl S18.at') [0] rfl) rfl (wanted_g F33 rfl rfl rfl rfl) rfl rfl fun _ F34 => ?_
           refine g_skip F34 rfl (i := 13) (listed' := #[true, true, true, true, true, true, true, true, true, true, true, true, true, true, false, false, false, false, false, false, false, false, false, false, false]) rfl (by kernel_rfl) (by kernel_rfl) (by kernel_rfl) (fun _ _ _ h => h) (Sd.of (Mv.refl S18.at') [0] rfl) rfl (wanted_g F34 rfl rfl rfl rfl) rfl rfl fun _ F35 => ?_
           refine g_skip F35 rfl (i := 14) (listed' := #[true, true, true, true, true, true, true, true, true, true, true, true, true, true, true, false, false, false, false, false, false, false, false, false, false]) rfl (by kernel_rfl) (by kernel_rfl) (by kernel_rfl) (fun _ _ _ h => h) (Sd.of (Mv.refl S18.at') [0] rfl) rfl (wanted_g F35 rfl rfl rfl rfl) rfl rfl fun _ F36 => ?_
           refine g_skip F36 rfl (i := 15) (listed' := #[true, true, true, true, true, true, true, true, true, true, true, true, true, true, true, true, false, false, false, false, false, false, false, false, false]) rfl (by kernel_rfl) (by kernel_rfl) (by kernel_rfl) (fun _ _ _ h => h) (Sd.of (Mv.refl S18.at') [0] rfl) rfl (wanted_g F36 rfl rfl rfl rfl) rfl rfl fun _ F37 => ?_
           refine g_skip F37 rfl (i := 16) (listed' := #[true, true, true, true, true, true, true, true, true, true, true, true, true, true, true, true, true, false, false, false, false, false, false, false, false]) rfl (by kernel_rfl) (by kernel_rfl) (by kernel_rfl) (fun _ _ _ h => h) (Sd.of (Mv.refl S18.at') [0] rfl) rfl (wanted_g F37 rfl rfl rfl rfl) rfl rfl fun _ F38 => ?_
           refine g_skip F38 rfl (i := 17) (listed' := #[true, true, true, true, true, true, true, true, true, true, true, true, true, true, true, true, true, true, false, false, false, false, false, false, false]) rfl (by kernel_rfl) (by kernel_rfl) (by kernel_rfl) (fun _ _ _ h => h) (Sd.of (Mv.refl S18.at') [0] rfl) rfl (wanted_g F38 rfl rfl rfl rfl) rfl rfl fun _ F39 => ?_
           refine g_skip F39 rfl (i := 18) (listed' := #[true, true, true, true, true, true, true, true, true, true, true, true, true, true, true, true, true, true, true, false, false, false, false, false, false]) rfl (by kernel_rfl) (by kernel_rfl) (by kernel_rfl) (fun _ _ _ h => h) (Sd.of (Mv.refl S18.at') [0] rfl) rfl (wanted_g F39 rfl rfl rfl rfl) rfl rfl fun _ F40 => ?_
           refine g_skip F40 rfl (i := 19) (listed' := #[true, true, true, true, true, true, true, true, true, true, true, true, true, true, true, true, true, true, true, true, false, false, false, false, false]) rfl (by kernel_rfl) (by kernel_rfl) (by kernel_rfl) (fun _ _ _ h => h) (Sd.of (Mv.refl S18.at') [0] rfl) rfl (wanted_g F40 rfl rfl rfl rfl) rfl rfl fun _ F41 => ?_
           refine g_skip F41 rfl (i := 20) (listed' := #[true, true, true, true, true, true, true, true, true, true, true, true, true, true, true, true, true, true, true, true, true, false, false, false, false]) rfl (by kernel_rfl) (by kernel_rfl) (by kernel_rfl) (fun _ _ _ h => h) (Sd.of (Mv.refl S18.at') [0] rfl) rfl (wanted_g F41 rfl rfl rfl rfl) rfl rfl fun _ F42 => ?_
           refine g_skip F42 rfl (i := 21) (listed' := #[true, true, true, true, true, true, true, true, true, true, true, true, true, true, true, true, true, true, true, true, true, true, false, false, false]) rfl (by kernel_rfl) (by kernel_rfl) (by kernel_rfl) (fun _ _ _ h => h) (Sd.of (Mv.refl S18.at') [0] rfl) rfl (wanted_g F42 rfl rfl rfl rfl) rfl rfl fun _ F43 => ?_
           refine g_skip F43 rfl (i := 22) (listed' := #[true, true, true, true, true, true, true, true, true, true, true, true, true, true, true, true, true, true, true, true, true, true, true, false, false]) rfl (by kernel_rfl) (by kernel_rfl) (by kernel_rfl) (fun _ _ _ h => h) (Sd.of (Mv.refl S18.at') [0] rfl) rfl (wanted_g F43 rfl rfl rfl rfl) rfl rfl fun _ F44 => ?_
           refine g_take F44 rfl (i := 23) (listed' := #[true, true, true, true, true, true, true, true, true, true, true, true, true, true, true, true, true, true, true, true, true, true, true, true, false]) rfl (by kernel_rfl) (by kernel_rfl) (by kernel_rfl) (fun _ _ _ h => h) (Sd.of (Mv.refl S18.at') [0] rfl) rfl (wanted_g F44 rfl rfl rfl rfl) rfl rfl (fun _ hz => (r_pick (b := true) rfl (F44.ev 21 rfl) rfl)) fun _ F45 => ?_
           refine g_take F45 rfl (i := 24) (listed' := #[true, true, true, true, true, true, true, true, true, true, true, true, true, true, true, true, true, true, true, true, true, true, true, true, true]) rfl (by kernel_rfl) (by kernel_rfl) (by kernel_rfl) (fun _ _ _ h => h) (Sd.of (Mv.refl S18.at') [0] rfl) rfl rfl rfl rfl (fun _ hz => (r_pick (b := true) rfl (F45.ev 18 rfl) (F45.ev 35 rfl))) fun _ F46 => ?_
           refine wpAnyH_done (by kernel_rfl) (x_normal ?_) _
           exact ⟨Fr.cast (F46.cut rfl) (congrArg (fun zZ => ([(1, .pointer (some ⟨b1, 0, none⟩)), (3, .int .i64 best), (4, .int .i64 ((k : Nat) : Int)), (36, .bool zZ)] : List (Nat × Value))) (show true = (x1.d.whole && (decide (best < 0) || decide (x1.d.seq > x2.d.seq))) from by first | exact bs_1 (by assumption) | exact bs_2 (by assumption) (by assumption) | exact bs_3 (by assumption) (by assumption))), (S18.pick [0] rfl)⟩
         · rw [decide_eq_false h31] at F30
           refine g_take F30 rfl (i := 10) (listed' := #[true, true, true, true, true, true, true, true, true, true, true, false, false, false, false, false, false, false, false, false, false, false, false, false, false]) rfl (by kernel_rfl) (by kernel_rfl) (by kernel_rfl) (fun _ _ _ h => h) (Sd.of (Mv.refl S18.at') [0] rfl) rfl (wanted_g F30 rfl rfl rfl rfl) rfl rfl (fun _ hz => (r_field FI_40_0 rfl (F30.ev 1 rfl) rfl)) fun _ F47 => ?_
           refine g_take (v := .slice Q1 Q0 Q2) F47 rfl (i := 11) (listed' := #[true, true, true, true, true, true, true, true, true, true, true, true, false, false, false, false, false, false, false, false, false, false, false, false, false]) rfl (by kernel_rfl) (by kernel_rfl) (by kernel_rfl) (fun _ _ _ h => h) (Sd.of (Mv.refl S18.at') [0] rfl) rfl (wanted_g F47 rfl rfl rfl rfl) rfl rfl (fun _ hz => (r_loadX (hz.bx 0 rfl) TI_37 rfl (F47.ev 22 rfl) rfl rfl (fun _ => rfl) rfl)) fun _ F48 => ?_
           refine g_take F48 rfl (i := 12) (listed' := #[true, true, true, true, true, true, true, true, true, true, true, true, true, false, false, false, false, false, false, false, false, false, false, false, false]) rfl (by kernel_rfl) (by kernel_rfl) (by kernel_rfl) (fun _ _ _ h => h) (Sd.of (Mv.refl S18.at') [0] rfl) rfl (wanted_g F48 rfl rfl rfl rfl) rfl rfl (fun _ hz => (r_move rfl (F48.ev 4 rfl))) fun _ F49 => ?_
           obtain ⟨B50, O50, y50, ad50, hy50, oky50, ln50, cl50⟩ := Rd.atK (Nat.succ_pos _) (Rd.mv (Nat.succ_pos _) Q3 (S1.trans (S6.trans S18))) k (by first | assumption | omega)
           clear ln50
           obtain rfl := Option.some.inj (hx1.symm.trans hy50)
           clear hy50 oky50
           refine g_take F49 rfl (i := 13) (listed' := #[true, true, true, true, true, true, true, true, true, true, true, true, true, true, false, false, false, false, false, false, false, false, false, false, false]) rfl (by kernel_rfl) (by kernel_rfl) (by kernel_rfl) (fun _ _ _ h => h) (Sd.of (Mv.refl S18.at') [0] rfl) rfl (wanted_g F49 rfl rfl rfl rfl) rfl rfl (fun _ hz => (r_indexAddr (i := k) ET_37 rfl ((F49.ev 23 rfl).trans (by rw [ad50])) (F49.ev 24 rfl) (by omega) (by first | assumption | omega))) fun _ F51 => ?_
           refine g_take F51 rfl (i := 14) (listed' := #[true, true, true, true, true, true, true, true, true, true, true, true, true, true, true, false, false, false, false, false, false, false, false, false, false]) rfl (by kernel_rfl) (by kernel_rfl) (by kernel_rfl) (fun _ _ _ h => h) (Sd.of (Mv.refl S18.at') [0] rfl) rfl (wanted_g F51 rfl rfl rfl rfl) rfl rfl (fun _ hz => (r_field FI_92_0 rfl (F51.ev 25 rfl) rfl)) fun _ F52 => ?_
           refine g_take (v := .int .i64 x1.d.seq) F52 rfl (i := 15) (listed' := #[true, true, true, true, true, true, true, true, true, true, true, true, true, true, true, true, false, false, false, false, false, false, false, false, false]) rfl (by kernel_rfl) (by kernel_rfl) (by kernel_rfl) (fun _ _ _ h => h) (Sd.of (Mv.refl S18.at') [0] rfl) rfl (wanted_g F52 rfl rfl rfl rfl) rfl rfl (fun _ hz => (r_load (cs := [.int .i64 x1.d.seq]) TI_3 rfl (F52.ev 26 rfl) rfl (fun _ => rfl) (elem_sub (f := 0) (cl50 _ hz.kp) [.int .i64 x1.d.seq] rfl))) fun _ F53 => ?_
           refine g_take F53 rfl (i := 16) (listed' := #[true, true, true, true, true, true, true, true, true, true, true, true, true, true, true, true, true, false, false, false, false, false, false, false, false]) rfl (by kernel_rfl) (by kernel_rfl) (by kernel_rfl) (fun _ _ _ h => h) (Sd.of (Mv.refl S18.at') [0] rfl) rfl (wanted_g F53 rfl rfl rfl rfl) rfl rfl (fun _ hz => (r_field FI_40_0 rfl (F53.ev 1 rfl) rfl)) fun _ F54 => ?_
           refine g_take (v := .slice Q1 Q0 Q2) F54 rfl (i := 17) (listed' := #[true, true, true, true, true, true, true, true, true, true, true, true, true, true, true, true, true, true, false, false, false, false, false, false, false]) rfl (by kernel_rfl) (by kernel_rfl) (by kernel_rfl) (fun _ _ _ h => h) (Sd.of (Mv.refl S18.at') [0] rfl) rfl (wanted_g F54 rfl rfl rfl rfl) rfl rfl (fun _ hz => (r_loadX (hz.bx 0 rfl) TI_37 rfl (F54.ev 28 rfl) rfl rfl (fun _ => rfl) rfl)) fun _ F55 => ?_
           refine g_take F55 rfl (i := 18) (listed' := #[true, true, true, true, true, true, true, true, true, true, true, true, true, true, true, true, true, true, true, false, false, false, false, false, false]) rfl (by kernel_rfl) (by kernel_rfl) (by kernel_rfl) (fun _ _ _ h => h) (Sd.of (Mv.refl S18.at') [0] rfl) rfl (wanted_g F55 rfl rfl rfl rfl) rfl rfl (fun _ hz => (r_move rfl (F55.ev 3 rfl))) fun _ F56 => ?_
           obtain ⟨B57, O57, y57, ad57, hy57, oky57, ln57, cl57⟩ := Rd.atK (Nat.succ_pos _) (Rd.mv (Nat.succ_pos _) Q3 (S1.trans (S6.trans S18))) (best).toNat (by first | assumption | omega)
           clear ln57
           obtain rfl := Option.some.inj (hx2.symm.trans hy57)
           clear hy57 oky57
           refine g_take F56 rfl (i := 19) (listed' := #[true, true, true, true, true, true, true, true, true, true, true, true, true, true, true, true, true, true, true, true, false, false, false, false, false]) rfl (by kernel_rfl) (by kernel_rfl) (by kernel_rfl) (fun _ _ _ h => h) (Sd.of (Mv.refl S18.at') [0] rfl) rfl (wanted_g F56 rfl rfl rfl rfl) rfl rfl (fun _ hz => (r_indexAddr (i := (best).toNat) ET_37 rfl ((F56.ev 29 rfl).trans (by rw [ad57])) (F56.ev 30 rfl) (by omega) (by first | assumption | omega))) fun _ F58 => ?_
           refine g_take F58 rfl (i := 20) (listed' := #[true, true, true, true, true, true, true, true, true, true, true, true, true, true, true, true, true, true, true, true, true, false, false, false, false]) rfl (by kernel_rfl) (by kernel_rfl) (by kernel_rfl) (fun _ _ _ h => h) (Sd.of (Mv.refl S18.at') [0] rfl) rfl (wanted_g F58 rfl rfl rfl rfl) rfl rfl (fun _ hz => (r_field FI_92_0 rfl (F58.ev 31 rfl) rfl)) fun _ F59 => ?_
           refine g_take (v := .int .i64 x2.d.seq) F59 rfl (i := 21) (listed' := #[true, true, true, true, true, true, true, true, true, true, true, true, true, true, true, true, true, true, true, true, true, true, false, false, false]) rfl (by kernel_rfl) (by kernel_rfl) (by kernel_rfl) (fun _ _ _ h => h) (Sd.of (Mv.refl S18.at') [0] rfl) rfl (wanted_g F59 rfl rfl rfl rfl) rfl rfl (fun _ hz => (r_load (cs := [.int .i64 x2.d.seq]) TI_3 rfl (F59.ev 32 rfl) rfl (fun _ => rfl) (elem_sub (f := 0) (cl57 _ hz.kp) [.int .i64 x2.d.seq] rfl))) fun _ F60 => ?_
           refine g_take F60 rfl (i := 22) (listed' := #[true, true, true, true, true, true, true, true, true, true, true, true, true, true, true, true, true, true, true, true, true, true, true, false, false]) rfl (by kernel_rfl) (by kernel_rfl) (by kernel_rfl) (fun _ _ _ h => h) (Sd.of (Mv.refl S18.at') [0] rfl) rfl (wanted_g F60 rfl rfl rfl rfl) rfl rfl (fun _ hz => (r_cmp (b := decide (x1.d.seq > x2.d.seq)) (.inr (.inr (.inr (.inr (.inl rfl))))) rfl (F60.ev 27 rfl) (F60.ev 33 rfl) (dec_of (by omega)))) fun _ F61 => ?_
           refine g_take F61 rfl (i := 23) (listed' := #[true, true, true, true, true, true, true, true, true, true, true, true, true, true, true, true, true, true, true, true, true, true, true, true, false]) rfl (by kernel_rfl) (by kernel_rfl) (by kernel_rfl) (fun _ _ _ h => h) (Sd.of (Mv.refl S18.at') [0] rfl) rfl (wanted_g F61 rfl rfl rfl rfl) rfl rfl (fun _ hz => (r_pick (b := false) rfl (F61.ev 21 rfl) (F61.ev 34 rfl))) fun _ F62 => ?_
           refine g_take F62 rfl (i := 24) (listed' := #[true, true, true, true, true, true, true, true, true, true, true, true, true, true, true, true, true, true, true, true, true, true, true, true, true]) rfl (by kernel_rfl) (by kernel_rfl) (by kernel_rfl) (fun _ _ _ h => h) (Sd.of (Mv.refl S18.at') [0] rfl) rfl rfl rfl rfl (fun _ hz => (r_pick (b := true) rfl (F62.ev 18 rfl) (F62.ev 35 rfl))) fun _ F63 => ?_
           refine wpAnyH_done (by kernel_rfl) (x_normal ?_) _
           exact ⟨Fr.cast (F63.cut rfl) (congrArg (fun zZ => ([(1, .pointer (some ⟨b1, 0, none⟩)), (3, .int .i64 best), (4, .int .i64 ((k : Nat) : Int)), (36, .bool zZ)] : List (Nat × Value))) (show (decide (x1.d.seq > x2.d.seq)) = (x1.d.whole && (decide (best < 0) || decide (x1.d.seq > x2.d.seq))) from by first | exact bs_1 (by assumption) | exact bs_2 (by assumption) (by assumption) | exact bs_3 (by assumption) (by assumption))), (S18.pick [0] rfl)⟩
       · rw [h27] at F26
         refine g_skip F26 rfl (i := 7) (listed' := #[true, true, true, true, true, true, true, true, false, false, false, false, false, false, false, false, false, false, false, false, false, false, false, false, false]) rfl (by kernel_rfl) (by kernel_rfl) (by kernel_rfl) (fun _ _ _ h => h) (Sd.of (Mv.refl S18.at') [0] rfl) rfl (wanted_g F26 rfl rfl rfl rfl) rfl rfl fun _ F64 => ?_
         refine g_skip F64 rfl (i := 8) (listed' := #[true, true, true, true, true, true, true, true, true, false, false, false, false, false, false, false, false, false, false, false, false, false, false, false, false]) rfl (by kernel_rfl) (by kernel_rfl) (by kernel_rfl) (fun _ _ _ h => h) (Sd.of (Mv.refl S18.at') [0] rfl) rfl (wanted_g F64 rfl rfl rfl rfl) rfl rfl fun _ F65 => ?_
         refine g_skip F65 rfl (i := 9) (listed' := #[true, true, true, true, true, true, true, true, true, true, false, false, false, false, false, false, false, false, false, false, false, false, false, false, false]) rfl (by kernel_rfl) (by kernel_rfl) (by kernel_rfl) (fun _ _ _ h => h) (Sd.of (Mv.refl S18.at') [0] rfl) rfl (wanted_g F65 rfl rfl rfl rfl) rfl rfl fun _ F66 => ?_
         refine g_skip F66 rfl (i := 10) (listed' := #[true, true, true, true, true, true, true, true, true, true, true, false, false, false, false, false, false, false, false, false, false, false, false, false, false]) rfl (by kernel_rfl) (by kernel_rfl) (by kernel_rfl) (fun _ _ _ h => h) (Sd.of (Mv.refl S18.at') [0] rfl) rfl (wanted_u F66 rfl rfl rfl) rfl rfl fun _ F67 => ?_
         refine g_skip F67 rfl (i := 11) (listed' := #[true, true, true, true, true, true, true, true, true, true, true, true, false, false, false, false, false, false, false, false, false, false, false, false, false]) rfl (by kernel_rfl) (by kernel_rfl) (by kernel_rfl) (fun _ _ _ h => h) (Sd.of (Mv.refl S18.at') [0] rfl) rfl (wanted_u F67 rfl rfl rfl) rfl rfl fun _ F68 => ?_
         refine g_skip F68 rfl (i := 12) (listed' := #[true, true, true, true, true, true, true, true, true, true, true, true, true, false, false, false, false, false, false, false, false, false, false, false, false]) rfl (by kernel_rfl) (by kernel_rfl) (by kernel_rfl) (fun _ _ _ h => h) (Sd.of (Mv.refl S18.at') [0] rfl) rfl (wanted_u F68 rfl rfl rfl) rfl rfl fun _ F69 => ?_
         refine g_skip F69 rfl (i := 13) (listed' := #[true, true, true, true, true, true, true, true, true, true, true, true, true, true, false, false, false, false, false, false, false, false, false, false, false]) rfl (by kernel_rfl) (by kernel_rfl) (by kernel_rfl) (fun _ _ _ h => h) (Sd.of (Mv.refl S18.at') [0] rfl) rfl (wanted_u F69 rfl rfl rfl) rfl rfl fun _ F70 => ?_
         refine g_skip F70 rfl (i := 14) (listed' := #[true, true, true, true, true, true, true, true, true, true, true, true, true, true, true, false, false, false, false, false, false, false, false, false, false]) rfl (by kernel_rfl) (by kernel_rfl) (by kernel_rfl) (fun _ _ _ h => h) (Sd.of (Mv.refl S18.at') [0] rfl) rfl (wanted_u F70 rfl rfl rfl) rfl rfl fun _ F71 => ?_
         refine g_skip F71 rfl (i := 15) (listed' := #[true, true, true, true, true, true, true, true, true, true, true, true, true, true, true, true, false, false, false, false, false, false, false, false, false]) rfl (by kernel_rfl) (by kernel_rfl) (by kernel_rfl) (fun _ _ _ h => h) (Sd.of (Mv.refl S18.at') [0] rfl) rfl (wanted_u F71 rfl rfl rfl) rfl rfl fun _ F72 => ?_
         refine g_skip F72 rfl (i := 16) (listed' := #[true, true, true, true, true, true, true, true, true, true, true, true, true, true, true, true, true, false, false, false, false, false, false, false, false]) rfl (by kernel_rfl) (by kernel_rfl) (by kernel_rfl) (fun _ _ _ h => h) (Sd.of (Mv.refl S18.at') [0] rfl) rfl (wanted_u F72 rfl rfl rfl) rfl rfl fun _ F73 => ?_
         refine g_skip F73 rfl (i := 17) (listed' := #[true, true, true, true, true, true, true, true, true, true, true, true, true, true, true, true, true, true, false, false, false, false, false, false, false]) rfl (by kernel_rfl) (by kernel_rfl) (by kernel_rfl) (fun _ _ _ h => h) (Sd.of (Mv.refl S18.at') [0] rfl) rfl (wanted_u F73 rfl rfl rfl) rfl rfl fun _ F74 => ?_
         refine g_skip F74 rfl (i := 18) (listed' := #[true, true, true, true, true, true, true, true, true, true, true, true, true, true, true, true, true, true, true, false, false, false, false, false, false]) rfl (by kernel_rfl) (by kernel_rfl) (by kernel_rfl) (fun _ _ _ h => h) (Sd.of (Mv.refl S18.at') [0] rfl) rfl (wanted_u F74 rfl rfl rfl) rfl rfl fun _ F75 => ?_
         refine g_skip F75 rfl (i := 19) (listed' := #[true, true, true, true, true, true, true, true, true, true, true, true, true, true, true, true, true, true, true, true, false, false, false, false, false]) rfl (by kernel_rfl) (by kernel_rfl) (by kernel_rfl) (fun _ _ _ h => h) (Sd.of (Mv.refl S18.at') [0] rfl) rfl (wanted_u F75 rfl rfl rfl) rfl rfl fun _ F76 => ?_
         refine g_skip F76 rfl (i := 20) (listed' := #[true, true, true, true, true, true, true, true, true, true, true, true, true, true, true, true, true, true, true, true, true, false, false, false, false]) rfl (by kernel_rfl) (by kernel_rfl) (by kernel_rfl) (fun _ _ _ h => h) (Sd.of (Mv.refl S18.at') [0] rfl) rfl (wanted_u F76 rfl rfl rfl) rfl rfl fun _ F77 => ?_
         refine g_skip F77 rfl (i := 21) (listed' := #[true, true, true, true, true, true, true, true, true, true, true, true, true, true, true, true, true, true, true, true, true, true, false, false, false]) rfl (by kernel_rfl) (by kernel_rfl) (by kernel_rfl) (fun _ _ _ h => h) (Sd.of (Mv.refl S18.at') [0] rfl) rfl (wanted_u F77 rfl rfl rfl) rfl rfl fun _ F78 => ?_
         refine g_skip F78 rfl (i := 22) (listed' := #[true, true, true, true, true, true, true, true, true, true, true, true, true, true, true, true, true, true, true, true, true, true, true, false, false]) rfl (by kernel_rfl) (by kernel_rfl) (by kernel_rfl) (fun _ _ _ h => h) (Sd.of (Mv.refl S18.at') [0] rfl) rfl (wanted_u F78 rfl rfl rfl) rfl rfl fun _ F79 => ?_
         refine g_skip F79 rfl (i := 23) (listed' := #[true, true, true, true, true, true, true, true, true, true, true, true, true, true, true, true, true, true, true, true, true, true, true, true, false]) rfl (by kernel_rfl) (by kernel_rfl) (by kernel_rfl) (fun _ _ _ h => h) (Sd.of (Mv.refl S18.at') [0] rfl) rfl (wanted_g F79 rfl rfl rfl rfl) rfl rfl fun _ F80 => ?_
         refine g_take F80 rfl (i := 24) (listed' := #[true, true, true, true, true, true, true, true, true, true, true, true, true, true, true, true, true, true, true, true, true, true, true, true, true]) rfl (by kernel_rfl) (by kernel_rfl) (by kernel_rfl) (fun _ _ _ h => h) (Sd.of (Mv.refl S18.at') [0] rfl) rfl rfl rfl rfl (fun _ hz => (r_pick (b := false) rfl (F80.ev 18 rfl) rfl)) fun _ F81 => ?_
         refine wpAnyH_done (by kernel_rfl) (x_normal ?_) _
         exact ⟨Fr.cast (F81.cut rfl) (congrArg (fun zZ => ([(1, .pointer (some ⟨b1, 0, none⟩)), (3, .int .i64 best), (4, .int .i64 ((k : Nat) : Int)), (36, .bool zZ)] : List (Nat × Value))) (show false = (x1.d.whole && (decide (best < 0) || decide (x1.d.seq > x2.d.seq))) from by first | exact bs_1 (by assumption) | exact bs_2 (by assumption) (by assumption) | exact bs_3 (by assumption) (by assumption))), (S18.pick [0] rfl)⟩
     · rintro a82 w82 ⟨F82, S82⟩
       refine x_normal (x_condb (b := (x1.d.whole && (decide (best < 0) || decide (x1.d.seq > x2.d.seq)))) (F82.ev 36 rfl) (fun h83 => ?_) (fun h83 => ?_))
       · skip
         refine wp_region_lit (l_op (f_mv F82 rfl rfl rfl rfl rfl fun _ F84 => ?_))
         refine l_op (f_as F84 rfl rfl rfl rfl rfl fun _ F85 => ?_)
         refine s_end (x_block_normal (x_normal (wp_region_lit (l_op (f_mv F85 rfl rfl rfl rfl rfl fun _ F86 => ?_)))))
         refine l_op (f_val F86 rfl rfl (r_add (z := ((k + 1 : Nat) : Int)) rfl (F86.ev 10 rfl) rfl (by first | rfl | omega) ⟨by first | omega | (unfold i64ok at *; omega), by first | omega | (unfold i64ok at *; omega)⟩) rfl fun _ F87 => ?_)
         refine l_op (f_as F87 rfl rfl rfl rfl rfl fun _ F88 => ?_)
         refine s_end ?_
         refine x_normal ⟨k + 1, by omega, ((k : Nat) : Int), F88.cut rfl, ((S6.trans S82).pick [0] rfl), by omega, by first | exact bestTo_t hk_1 hx1 hx2 (by assumption) | exact bestTo_f hk_1 hx1 hx2 (by assumption), by omega⟩
       · skip
         refine wp_skip (x_block_normal (x_normal (wp_region_lit (l_op (f_mv F82 rfl rfl rfl rfl rfl fun _ F89 => ?_)))))
         refine l_op (f_val F89 rfl rfl (r_add (z := ((k + 1 : Nat) : Int)) rfl (F89.ev 10 rfl) rfl (by first | rfl | omega) ⟨by first | omega | (unfold i64ok at *; omega), by first | omega | (unfold i64ok at *; omega)⟩) rfl fun _ F90 => ?_)
         refine l_op (f_as F90 rfl rfl rfl rfl rfl fun _ F91 => ?_)
         refine s_end ?_
         refine x_normal ⟨k + 1, by omega, best, F91.cut rfl, ((S6.trans S82).pick [0] rfl), by omega, by first | exact bestTo_t hk_1 hx1 hx2 (by assumption) | exact bestTo_f hk_1 hx1 hx2 (by assumption), by omega⟩
   · skip
     refine wp_exit (x_then_exit (x_then_exit (x_block_here (x_normal (wp_seq (wp_region_lit (l_op (f_mv F11 rfl rfl rfl rfl rfl fun _ F92 => ?_))))))))
     refine l_op (f_as F92 rfl rfl rfl rfl rfl fun _ F93 => ?_)
     refine s_end (x_normal (wp_ret ?_))
     refine x_done (v := .int .i64 best) F93 (results_1 Tryz.results40 (.tmp (F93.ev 2 rfl))) ?_
     exact ⟨(by rw [(show best = (bestTo (d.slots.map SlotH.d) d.slots.length) from by rw [hk_1, show k = d.slots.length by omega])]), (Mv.pick (S1.trans S6) [] rfl), by have := bestTo_bd (d.slots.map SlotH.d) d.slots.length; unfold i64ok; omega⟩
theorem spec_DiskOk_c {w : World} {H : Nat → Prop} {d : DiskH} {Q1 : Option Addr} {Q0 Q2 : Nat} (Q7 : Rd 3 encSlot okSlot H w (.slice Q1 Q0 Q2) d.slots) (Q9 : NRd inSlot H w d.slots) (Q6 : okS d.journal.text) (Q8 : i64ok d.journal.sure) :
    Calls Tryz.prog 16 #[.agg #[.slice Q1 Q0 Q2, .string d.journal.text, .int .i64 d.journal.sure]] w fun e w' => e = .returned (.bool (diskOk (d.slots.map SlotH.d) d.journal)) ∧ Mv [] w [] w' := by
 have uU : True := (fun _ => trivial) Q8
 clear uU
 have Q5 : Rd 3 encSlot okSlot (V H w []) w (.slice Q1 Q0 Q2) d.slots := Rd.start Q7 (fun _ _ => fps_nil _)
 obtain ⟨Q3, Q10, Q11, Q12⟩ := Rd.inv Q7
 have Q4 : NRd inSlot (V H w []) w d.slots := NRd.start Q9 (fun _ _ => fps_nil _)
 refine calls_enter 45 Tryz.func16 rfl Tryz.ntmps16 (Nat.le_of_ble_eq_true rfl) (fun _ F0i => ?_)
 have F0 : Fr 45 [(0, .agg #[.slice Q1 Q0 Q2, .string d.journal.text, .int .i64 d.journal.sure])] _ := F0i
 clear F0i
 refine wp_seq (wp_region_lit (l_op (f_box F0 (At.nil w) rfl rfl rfl (F0.ev 0 rfl) rfl rfl fun b1 _ w1 F2 S1 => ?_)))
 refine l_op (f_val F2 rfl rfl (r_assign rfl rfl) rfl fun _ F3 => ?_)
 refine s_end (x_normal (wp_seq (wp_seq (wp_region_lit (l_op (f_val F3 rfl rfl (r_assign rfl rfl) rfl fun _ F4 => ?_))))))
 refine s_end (x_normal (wp_block ?_))
 refine x_loop (fun (k : Nat) aZ wZ => Fr 45 [(3, .int .i64 ((k : Nat) : Int)), (1, .pointer (some ⟨b1, 0, none⟩))] aZ ∧ Mv [bx b1 [.slice Q1 Q0 Q2, .string d.journal.text, .int .i64 d.journal.sure] 40] w1 [bx b1 [.slice Q1 Q0 Q2, .string d.journal.text, .int .i64 d.journal.sure] 40] wZ ∧ (k ≤ Q0) ∧ (∀ j, j < k → ∀ c, nth d.slots j = some c → slotBad c.d = false)) (fun (k : Nat) => Q0 - k) (0) ?_ ?_
 · exact ⟨F4.cut rfl, (Mv.refl S1.at'), by omega, all_none'⟩
 · rintro k a5 w5 ⟨F5, S5, hk_0, hk_1⟩
   refine wp_seq (wp_seq (wp_region_lit (l_op (f_mv F5 rfl rfl rfl rfl rfl fun _ F6 => ?_))))
   refine l_op (f_val F6 rfl rfl (r_field FI_40_0 rfl (F6.ev 1 rfl) rfl) rfl fun _ F7 => ?_)
   refine l_op (f_val (v := .slice Q1 Q0 Q2) F7 rfl rfl (r_loadB S5.at' 0 TI_37 rfl rfl (F7.ev 6 rfl) rfl rfl (fun _ => rfl) rfl) rfl fun _ F8 => ?_)
   refine l_op (f_val F8 rfl rfl (r_len Tryz.underlying37 rfl (F8.ev 7 rfl)) rfl fun _ F9 => ?_)
   refine l_op (f_val F9 rfl rfl (r_cmp (b := decide (k < Q0)) (.inr (.inr (.inl rfl))) rfl (F9.ev 5 rfl) (F9.ev 8 rfl) (dec_of (by omega))) rfl fun _ F10 => ?_)
   refine s_end (x_normal (x_cond (p := k < Q0) (F10.ev 9 rfl) (fun h11 => ?_) (fun h11 => ?_)))
   · skip
     refine wp_skip (x_normal (wp_seq (wp_block (wp_seq (wp_region_lit (l_op (f_val F10 rfl rfl (r_field FI_40_0 rfl (F10.ev 1 rfl) rfl) rfl fun _ F12 => ?_)))))))
     refine l_op (f_val (v := .slice Q1 Q0 Q2) F12 rfl rfl (r_loadB S5.at' 0 TI_37 rfl rfl (F12.ev 12 rfl) rfl rfl (fun _ => rfl) rfl) rfl fun _ F13 => ?_)
     refine l_op (f_mv F13 rfl rfl rfl rfl rfl fun _ F14 => ?_)
     obtain ⟨B15, O15, x1, ad15, hx1, okx1, ln15, cl15⟩ := Rd.at (Rd.mv (Nat.succ_pos _) Q5 (S1.trans S5)) k (by first | assumption | omega)
     clear ln15
     have oj16 := okx1
     unfold okSlot at oj16
     have VI17 : Rd 2 encC okC (V H w [bx b1 [.slice Q1 Q0 Q2, .string d.journal.text, .int .i64 d.journal.sure] 40]) w5 (.slice x1.a0 x1.n0 x1.c0) x1.d.cells := NRd.get (NRd.mv Q4 (S1.trans S5)) hx1 (j := 0) rfl
     obtain ⟨ln17, le17, mx17, ni17⟩ := Rd.inv VI17
     refine l_op (f_val F14 rfl rfl (r_indexAddr (i := k) ET_37 rfl ((F14.ev 13 rfl).trans (by rw [ad15])) (F14.ev 14 rfl) (by omega) (by first | assumption | omega)) rfl fun _ F18 => ?_)
     refine l_op (f_val (v := .agg #[.int .i64 x1.d.seq, .slice x1.a0 x1.n0 x1.c0, .bool x1.d.whole]) F18 rfl rfl (r_load (cs := [.int .i64 x1.d.seq, .slice x1.a0 x1.n0 x1.c0, .bool x1.d.whole]) TI_92 rfl (F18.ev 15 rfl) rfl (fun h => nomatch h) (elem_sub (f := 0) cl15 [.int .i64 x1.d.seq, .slice x1.a0 x1.n0 x1.c0, .bool x1.d.whole] rfl)) rfl fun _ F19 => ?_)
     refine l_op (f_alloc F19 S5.at' ZI_92 rfl rfl rfl rfl rfl fun b20 _ w20 F21 S20 => ?_)
     refine l_op (s_store S20.at' 0 TI_92 rfl rfl rfl rfl rfl (F21.ev 4 rfl) (F21.ev 16 rfl) rfl rfl rfl rfl rfl fun w22 S22 => ?_)
     have F23 : Fr 45 [(4, .pointer (some ⟨b20, 0, none⟩)), (16, .agg #[.int .i64 x1.d.seq, .slice x1.a0 x1.n0 x1.c0, .bool x1.d.whole]), (3, .int .i64 ((k : Nat) : Int)), (1, .pointer (some ⟨b1, 0, none⟩))] _ := F21.cut rfl
     clear F5 F6 F7 F8 F9 F10 F12 F13 F14 F18 F19 F21
     have T24 : Mv _ _ [bx b20 [.int .i64 x1.d.seq, .slice x1.a0 x1.n0 x1.c0, .bool x1.d.whole] 92, bx b1 [.slice Q1 Q0 Q2, .string d.journal.text, .int .i64 d.journal.sure] 40] _ := S22
     refine s_end (x_normal (wp_seq (wp_region_lit (l_op (f_val F23 rfl rfl (r_field FI_92_2 rfl (F23.ev 4 rfl) rfl) rfl fun _ F25 => ?_)))))
     refine l_op (f_val (v := .bool x1.d.whole) F25 rfl rfl (r_loadB T24.at' 0 TI_4 rfl rfl (F25.ev 17 rfl) rfl rfl (fun _ => rfl) rfl) rfl fun _ F26 => ?_)
     refine l_op (f_mv F26 rfl rfl rfl rfl rfl fun _ F27 => ?_)
     rcases Bool.eq_false_or_eq_true x1.d.whole with h28 | h28
     · rw [h28] at F27
       refine l_op (f_val F27 (wanted_g F27 rfl rfl rfl rfl) rfl (r_field FI_92_0 rfl (F27.ev 4 rfl) rfl) rfl fun _ F29 => ?_)
       refine l_op (f_val (v := .int .i64 x1.d.seq) F29 (wanted_g F29 rfl rfl rfl rfl) rfl (r_loadB T24.at' 0 TI_3 rfl rfl (F29.ev 20 rfl) rfl rfl (fun _ => rfl) rfl) rfl fun _ F30 => ?_)
       refine l_op (f_call F30 CF_17 (wanted_g F30 rfl rfl rfl rfl) rfl rfl rfl (lc (F30.ev 21 rfl) (lc rfl (lc rfl rfl))) (spec_l01In_c (H := fun _ => True) (x := x1.d.seq) (least := 0) (most := 99999) (by first | assumption | exact ⟨by omega, by omega⟩ | (unfold i64ok at *; omega)) (by first | assumption | exact ⟨by omega, by omega⟩ | (unfold i64ok at *; omega)) (by first | assumption | exact ⟨by omega, by omega⟩ | (unfold i64ok at *; omega))) ?_)
       rintro _ w31 ⟨rfl, m31⟩
       refine ⟨_, rfl, fun _ F32 => ?_⟩
       have S31 := At.frame0 T24.at' m31
       clear m31
       refine l_op (f_val F32 (wanted_g F32 rfl rfl rfl rfl) rfl (r_not rfl (F32.ev 22 rfl)) rfl fun _ F33 => ?_)
       refine l_op (f_mv F33 (wanted_g F33 rfl rfl rfl rfl) rfl rfl rfl rfl fun _ F34 => ?_)
       rcases Bool.eq_false_or_eq_true (!(inB x1.d.seq 0 99999)) with h35 | h35
       · rw [h35] at F34
         refine l_op (f_skip F34 (wanted_g F34 rfl rfl rfl rfl) rfl rfl fun _ F36 => ?_)
         refine l_op (f_skip F36 (wanted_g F36 rfl rfl rfl rfl) rfl rfl fun _ F37 => ?_)
         refine l_op (f_skip F37 (wanted_g F37 rfl rfl rfl rfl) rfl rfl fun _ F38 => ?_)
         refine l_op (f_skip F38 (wanted_g F38 rfl rfl rfl rfl) rfl rfl fun _ F39 => ?_)
         refine l_op (f_val F39 (wanted_g F39 rfl rfl rfl rfl) rfl (r_pick (b := true) rfl (F39.ev 24 rfl) rfl) rfl fun _ F40 => ?_)
         refine l_op (f_val F40 rfl rfl (r_pick (b := true) rfl (F40.ev 19 rfl) (F40.ev 29 rfl)) rfl fun _ F41 => ?_)
         have F42 : Fr 45 [(30, .bool true), (3, .int .i64 ((k : Nat) : Int)), (1, .pointer (some ⟨b1, 0, none⟩))] _ := F41.cut rfl
         clear F23 F25 F26 F27 F29 F30 F32 F33 F34 F36 F37 F38 F39 F40 F41
         refine s_end (x_normal (wp_cond_true (F42.ev 30 rfl) (wp_seq (wp_region_lit (l_op (f_val F42 rfl rfl (r_assign rfl rfl) rfl fun _ F43 => ?_))))))
         refine s_end (x_normal (wp_ret (x_block_ret (x_then_ret (x_then_ret (x_block_ret (x_then_ret ?_)))))))
         refine x_done (v := .bool false) F43 (results_1 Tryz.results16 (.tmp (F43.ev 2 rfl))) ?_
         exact ⟨(by rw [(show false = (diskOk (d.slots.map SlotH.d) d.journal) from by first | exact dk_bad hx1 (by first | exact sb_3 (by assumption) (by assumption) | exact sb_4 (by assumption) (by assumption)) | exact dk_bad hx2 (by first | exact sb_3 (by assumption) (by assumption) | exact sb_4 (by assumption) (by assumption)) | exact dk_bad hx3 (by first | exact sb_3 (by assumption) (by assumption) | exact sb_4 (by assumption) (by assumption)) | exact dk_len Q3 (by assumption) | exact dk_best (by assumption) | exact dk_done2 Q3 (by assumption) (by assumption) (fun i hi c hc => hk_1 i (by omega) c hc))]), (Mv.pick (S1.trans (S5.trans (S20.trans (T24.trans S31)))) [] rfl)⟩
       · rw [h35] at F34
         refine l_op (f_val F34 (wanted_g F34 rfl rfl rfl rfl) rfl (r_field FI_92_1 rfl (F34.ev 4 rfl) rfl) rfl fun _ F44 => ?_)
         refine l_op (f_val (v := .slice x1.a0 x1.n0 x1.c0) F44 (wanted_g F44 rfl rfl rfl rfl) rfl (r_loadB S31.at' 0 TI_35 rfl rfl (F44.ev 25 rfl) rfl rfl (fun _ => rfl) rfl) rfl fun _ F45 => ?_)
         refine l_op (f_call F45 CF_15 (wanted_g F45 rfl rfl rfl rfl) rfl rfl rfl (lc (F45.ev 26 rfl) rfl) (spec_StoreOk_c (s := x1.d.cells) (Rd.mv (Nat.succ_pos _) VI17 (S20.trans (T24.trans S31)))) ?_)
         rintro _ w46 ⟨rfl, m46⟩
         refine ⟨_, rfl, fun _ F47 => ?_⟩
         have S46 := At.frame0 S31.at' m46
         clear m46
         refine l_op (f_val F47 (wanted_g F47 rfl rfl rfl rfl) rfl (r_not rfl (F47.ev 27 rfl)) rfl fun _ F48 => ?_)
         refine l_op (f_val F48 (wanted_g F48 rfl rfl rfl rfl) rfl (r_pick (b := false) rfl (F48.ev 24 rfl) (F48.ev 28 rfl)) rfl fun _ F49 => ?_)
         refine l_op (f_val F49 rfl rfl (r_pick (b := true) rfl (F49.ev 19 rfl) (F49.ev 29 rfl)) rfl fun _ F50 => ?_)
         have F51 : Fr 45 [(30, .bool (!(storeOk x1.d.cells))), (3, .int .i64 ((k : Nat) : Int)), (1, .pointer (some ⟨b1, 0, none⟩))] _ := F50.cut rfl
         clear F23 F25 F26 F27 F29 F30 F32 F33 F34 F44 F45 F47 F48 F49 F50
         have T52 : Mv _ _ [bx b20 [.int .i64 x1.d.seq, .slice x1.a0 x1.n0 x1.c0, .bool x1.d.whole] 92, bx b1 [.slice Q1 Q0 Q2, .string d.journal.text, .int .i64 d.journal.sure] 40] _ := S46
         refine s_end (x_normal (x_condb (b := (!(storeOk x1.d.cells))) (F51.ev 30 rfl) (fun h53 => ?_) (fun h53 => ?_)))
         · skip
           refine wp_seq (wp_region_lit (l_op (f_val F51 rfl rfl (r_assign rfl rfl) rfl fun _ F54 => ?_)))
           refine s_end (x_normal (wp_ret (x_block_ret (x_then_ret (x_then_ret (x_block_ret (x_then_ret ?_)))))))
           refine x_done (v := .bool false) F54 (results_1 Tryz.results16 (.tmp (F54.ev 2 rfl))) ?_
           exact ⟨(by rw [(show false = (diskOk (d.slots.map SlotH.d) d.journal) from by first | exact dk_bad hx1 (by first | exact sb_3 (by assumption) (by assumption) | exact sb_4 (by assumption) (by assumption)) | exact dk_bad hx2 (by first | exact sb_3 (by assumption) (by assumption) | exact sb_4 (by assumption) (by assumption)) | exact dk_bad hx3 (by first | exact sb_3 (by assumption) (by assumption) | exact sb_4 (by assumption) (by assumption)) | exact dk_len Q3 (by assumption) | exact dk_best (by assumption) | exact dk_done2 Q3 (by assumption) (by assumption) (fun i hi c hc => hk_1 i (by omega) c hc))]), (Mv.pick (S1.trans (S5.trans (S20.trans (T24.trans (S31.trans T52))))) [] rfl)⟩
         · skip
           refine wp_skip (x_block_normal (x_normal (wp_region_lit (l_op (f_mv F51 rfl rfl rfl rfl rfl fun _ F55 => ?_)))))
           refine l_op (f_val F55 rfl rfl (r_add (z := ((k + 1 : Nat) : Int)) rfl (F55.ev 10 rfl) rfl (by first | rfl | omega) ⟨by first | omega | (unfold i64ok at *; omega), by first | omega | (unfold i64ok at *; omega)⟩) rfl fun _ F56 => ?_)
           refine l_op (f_as F56 rfl rfl rfl rfl rfl fun _ F57 => ?_)
           refine s_end ?_
           refine x_normal ⟨k + 1, by omega, F57.cut rfl, ((S5.trans (S20.trans (T24.trans (S31.trans T52)))).pick [1] rfl), by omega, by first | (exact all_stepP hk_1 (fun c hc => by obtain rfl := Option.some.inj (hx1.symm.trans hc); first | exact sb_1 (by assumption) | exact sb_2 (by assumption) (by assumption))) | (exact all_stepP hk_1 (fun c hc => by obtain rfl := Option.some.inj (hx2.symm.trans hc); first | exact sb_1 (by assumption) | exact sb_2 (by assumption) (by assumption))) | (exact all_stepP hk_1 (fun c hc => by obtain rfl := Option.some.inj (hx3.symm.trans hc); first | exact sb_1 (by assumption) | exact sb_2 (by assumption) (by assumption)))⟩
     · rw [h28] at F27
       refine l_op (f_skip F27 (wanted_g F27 rfl rfl rfl rfl) rfl rfl fun _ F58 => ?_)
       refine l_op (f_skip F58 (wanted_g F58 rfl rfl rfl rfl) rfl rfl fun _ F59 => ?_)
       refine l_op (f_skip F59 (wanted_g F59 rfl rfl rfl rfl) rfl rfl fun _ F60 => ?_)
       refine l_op (f_skip F60 (wanted_g F60 rfl rfl rfl rfl) rfl rfl fun _ F61 => ?_)
       refine l_op (f_skip F61 (wanted_g F61 rfl rfl rfl rfl) rfl rfl fun _ F62 => ?_)
       refine l_op (f_skip F62 (wanted_u F62 rfl rfl rfl) rfl rfl fun _ F63 => ?_)
       refine l_op (f_skip F63 (wanted_u F63 rfl rfl rfl) rfl rfl fun _ F64 => ?_)
       refine l_op (f_skip F64 (wanted_u F64 rfl rfl rfl) rfl rfl fun _ F65 => ?_)
       refine l_op (f_skip F65 (wanted_u F65 rfl rfl rfl) rfl rfl fun _ F66 => ?_)
       refine l_op (f_skip F66 (wanted_g F66 rfl rfl rfl rfl) rfl rfl fun _ F67 => ?_)
       refine l_op (f_val F67 rfl rfl (r_pick (b := false) rfl (F67.ev 19 rfl) rfl) rfl fun _ F68 => ?_)
       have F69 : Fr 45 [(30, .bool false), (3, .int .i64 ((k : Nat) : Int)), (1, .pointer (some ⟨b1, 0, none⟩))] _ := F68.cut rfl
       clear F23 F25 F26 F27 F58 F59 F60 F61 F62 F63 F64 F65 F66 F67 F68
       refine s_end (x_normal (wp_cond_false (F69.ev 30 rfl) (wp_skip (x_block_normal (x_normal (wp_region_lit (l_op (f_mv F69 rfl rfl rfl rfl rfl fun _ F70 => ?_))))))))
       refine l_op (f_val F70 rfl rfl (r_add (z := ((k + 1 : Nat) : Int)) rfl (F70.ev 10 rfl) rfl (by first | rfl | omega) ⟨by first | omega | (unfold i64ok at *; omega), by first | omega | (unfold i64ok at *; omega)⟩) rfl fun _ F71 => ?_)
       refine l_op (f_as F71 rfl rfl rfl rfl rfl fun _ F72 => ?_)
       refine s_end ?_
       refine x_normal ⟨k + 1, by omega, F72.cut rfl, ((S5.trans (S20.trans T24)).pick [1] rfl), by omega, by first | (exact all_stepP hk_1 (fun c hc => by obtain rfl := Option.some.inj (hx1.symm.trans hc); first | exact sb_1 (by assumption) | exact sb_2 (by assumption) (by assumption))) | (exact all_stepP hk_1 (fun c hc => by obtain rfl := Option.some.inj (hx2.symm.trans hc); first | exact sb_1 (by assumption) | exact sb_2 (by assumption) (by assumption))) | (exact all_stepP hk_1 (fun c hc => by obtain rfl := Option.some.inj (hx3.symm.trans hc); first | exact sb_1 (by assumption) | exact sb_2 (by assumption) (by assumption)))⟩
   · skip
     refine wp_exit (x_then_exit (x_then_exit (x_block_here (x_normal (wp_seq (wp_region_lit (l_op (f_val F10 rfl rfl (r_field FI_40_0 rfl (F10.ev 1 rfl) rfl) rfl fun _ F73 => ?_))))))))
     refine l_op (f_val (v := .slice Q1 Q0 Q2) F73 rfl rfl (r_loadB S5.at' 0 TI_37 rfl rfl (F73.ev 31 rfl) rfl rfl (fun _ => rfl) rfl) rfl fun _ F74 => ?_)
     refine l_op (f_val F74 rfl rfl (r_len Tryz.underlying37 rfl (F74.ev 32 rfl)) rfl fun _ F75 => ?_)
     refine l_op (f_val F75 rfl rfl (r_cmp (b := decide (Q0 = 2)) (.inl rfl) rfl (F75.ev 33 rfl) rfl (dec_of (by omega))) rfl fun _ F76 => ?_)
     refine l_op (f_mv F76 rfl rfl rfl rfl rfl fun _ F77 => ?_)
     rcases Decidable.em (Q0 = 2) with h78 | h78
     · rw [decide_eq_true h78] at F77
       refine l_op (f_val (v := .agg #[.slice Q1 Q0 Q2, .string d.journal.text, .int .i64 d.journal.sure]) F77 (wanted_g F77 rfl rfl rfl rfl) rfl (r_loadB S5.at' 0 TI_40 rfl rfl (F77.ev 1 rfl) rfl rfl (fun h => nomatch h) rfl) rfl fun _ F79 => ?_)
       refine l_op (f_call F79 CF_40 (wanted_g F79 rfl rfl rfl rfl) rfl rfl rfl (lc (F79.ev 36 rfl) rfl) (spec_BestSlot_c (d := d) (Rd.mv (Nat.succ_pos _) Q5 (S1.trans S5)) (NRd.mv Q4 (S1.trans S5)) Q6 (by first | assumption | exact ⟨by omega, by omega⟩ | (unfold i64ok at *; omega) | (simp only [i64ok]; omega))) ?_)
       rintro _ w80 ⟨rfl, m80, q80_0⟩
       refine ⟨_, rfl, fun _ F81 => ?_⟩
       have S80 := At.frame0 S5.at' m80
       clear m80
       refine l_op (f_val F81 (wanted_g F81 rfl rfl rfl rfl) rfl (r_cmp (b := decide ((bestTo (d.slots.map SlotH.d) d.slots.length) ≥ 0)) (.inr (.inr (.inr (.inr (.inr rfl))))) rfl (F81.ev 37 rfl) rfl (dec_of (by omega))) rfl fun _ F82 => ?_)
       refine l_op (f_val F82 rfl rfl (r_pick (b := true) rfl (F82.ev 35 rfl) (F82.ev 38 rfl)) rfl fun _ F83 => ?_)
       refine l_op (f_mv F83 rfl rfl rfl rfl rfl fun _ F84 => ?_)
       rcases Decidable.em ((bestTo (d.slots.map SlotH.d) d.slots.length) ≥ 0) with h85 | h85
       · rw [decide_eq_true h85] at F84
         refine l_op (f_val F84 (wanted_g F84 rfl rfl rfl rfl) rfl (r_field FI_40_1 rfl (F84.ev 1 rfl) rfl) rfl fun _ F86 => ?_)
         refine l_op (f_val (v := .agg #[.string d.journal.text, .int .i64 d.journal.sure]) F86 (wanted_g F86 rfl rfl rfl rfl) rfl (r_loadB S80.at' 0 TI_38 rfl rfl (F86.ev 41 rfl) rfl rfl (fun h => nomatch h) rfl) rfl fun _ F87 => ?_)
         refine l_op (f_call F87 CF_41 (wanted_g F87 rfl rfl rfl rfl) rfl rfl rfl (lc (F87.ev 42 rfl) rfl) (spec_JournalOk_c (H := fun _ => True) (j := d.journal) Q6 (by first | assumption | exact ⟨by omega, by omega⟩ | (unfold i64ok at *; omega) | (simp only [i64ok]; omega))) ?_)
         rintro _ w88 ⟨rfl, m88⟩
         refine ⟨_, rfl, fun _ F89 => ?_⟩
         have S88 := At.frame0 S80.at' m88
         clear m88
         refine l_op (f_val F89 rfl rfl (r_pick (b := true) rfl (F89.ev 40 rfl) (F89.ev 43 rfl)) rfl fun _ F90 => ?_)
         refine l_op (f_as F90 rfl rfl rfl rfl rfl fun _ F91 => ?_)
         have F92 : Fr 45 [(2, .bool (jouOk d.journal))] _ := F91.cut rfl
         clear F5 F6 F7 F8 F9 F10 F73 F74 F75 F76 F77 F79 F81 F82 F83 F84 F86 F87 F89 F90 F91
         have T93 : Mv _ _ [bx b1 [.slice Q1 Q0 Q2, .string d.journal.text, .int .i64 d.journal.sure] 40] _ := S88
         refine s_end (x_normal (wp_ret ?_))
         refine x_done (v := .bool (jouOk d.journal)) F92 (results_1 Tryz.results16 (.tmp (F92.ev 2 rfl))) ?_
         exact ⟨(by rw [(show (jouOk d.journal) = (diskOk (d.slots.map SlotH.d) d.journal) from by first | exact dk_bad hx1 (by first | exact sb_3 (by assumption) (by assumption) | exact sb_4 (by assumption) (by assumption)) | exact dk_bad hx2 (by first | exact sb_3 (by assumption) (by assumption) | exact sb_4 (by assumption) (by assumption)) | exact dk_bad hx3 (by first | exact sb_3 (by assumption) (by assumption) | exact sb_4 (by assumption) (by assumption)) | exact dk_len Q3 (by assumption) | exact dk_best (by assumption) | exact dk_done2 Q3 (by assumption) (by assumption) (fun i hi c hc => hk_1 i (by omega) c hc))]), (Mv.pick (S1.trans (S5.trans (S80.trans T93))) [] rfl)⟩
       · rw [decide_eq_false h85] at F84
         refine l_op (f_skip F84 (wanted_g F84 rfl rfl rfl rfl) rfl rfl fun _ F94 => ?_)
         refine l_op (f_skip F94 (wanted_g F94 rfl rfl rfl rfl) rfl rfl fun _ F95 => ?_)
         refine l_op (f_skip F95 (wanted_g F95 rfl rfl rfl rfl) rfl rfl fun _ F96 => ?_)
         refine l_op (f_val F96 rfl rfl (r_pick (b := false) rfl (F96.ev 40 rfl) rfl) rfl fun _ F97 => ?_)
         refine l_op (f_as F97 rfl rfl rfl rfl rfl fun _ F98 => ?_)
         have F99 : Fr 45 [(2, .bool false)] _ := F98.cut rfl
         clear F5 F6 F7 F8 F9 F10 F73 F74 F75 F76 F77 F79 F81 F82 F83 F84 F94 F95 F96 F97 F98
         have T100 : Mv _ _ [bx b1 [.slice Q1 Q0 Q2, .string d.journal.text, .int .i64 d.journal.sure] 40] _ := S80
         refine s_end (x_normal (wp_ret ?_))
         refine x_done (v := .bool false) F99 (results_1 Tryz.results16 (.tmp (F99.ev 2 rfl))) ?_
         exact ⟨(by rw [(show false = (diskOk (d.slots.map SlotH.d) d.journal) from by first | exact dk_bad hx1 (by first | exact sb_3 (by assumption) (by assumption) | exact sb_4 (by assumption) (by assumption)) | exact dk_bad hx2 (by first | exact sb_3 (by assumption) (by assumption) | exact sb_4 (by assumption) (by assumption)) | exact dk_bad hx3 (by first | exact sb_3 (by assumption) (by assumption) | exact sb_4 (by assumption) (by assumption)) | exact dk_len Q3 (by assumption) | exact dk_best (by assumption) | exact dk_done2 Q3 (by assumption) (by assumption) (fun i hi c hc => hk_1 i (by omega) c hc))]), (Mv.pick (S1.trans (S5.trans T100)) [] rfl)⟩
     · rw [decide_eq_false h78] at F77
       refine l_op (f_skip F77 (wanted_g F77 rfl rfl rfl rfl) rfl rfl fun _ F101 => ?_)
       refine l_op (f_skip F101 (wanted_g F101 rfl rfl rfl rfl) rfl rfl fun _ F102 => ?_)
       refine l_op (f_skip F102 (wanted_g F102 rfl rfl rfl rfl) rfl rfl fun _ F103 => ?_)
       refine l_op (f_val F103 rfl rfl (r_pick (b := false) rfl (F103.ev 35 rfl) rfl) rfl fun _ F104 => ?_)
       refine l_op (f_mv F104 rfl rfl rfl rfl rfl fun _ F105 => ?_)
       refine l_op (f_skip F105 (wanted_g F105 rfl rfl rfl rfl) rfl rfl fun _ F106 => ?_)
       refine l_op (f_skip F106 (wanted_g F106 rfl rfl rfl rfl) rfl rfl fun _ F107 => ?_)
       refine l_op (f_skip F107 (wanted_g F107 rfl rfl rfl rfl) rfl rfl fun _ F108 => ?_)
       refine l_op (f_val F108 rfl rfl (r_pick (b := false) rfl (F108.ev 40 rfl) rfl) rfl fun _ F109 => ?_)
       refine l_op (f_as F109 rfl rfl rfl rfl rfl fun _ F110 => ?_)
       have F111 : Fr 45 [(2, .bool false)] _ := F110.cut rfl
       clear F5 F6 F7 F8 F9 F10 F73 F74 F75 F76 F77 F101 F102 F103 F104 F105 F106 F107 F108 F109 F110
       refine s_end (x_normal (wp_ret ?_))
       refine x_done (v := .bool false) F111 (results_1 Tryz.results16 (.tmp (F111.ev 2 rfl))) ?_
       exact ⟨(by rw [(show false = (diskOk (d.slots.map SlotH.d) d.journal) from by first | exact dk_bad hx1 (by first | exact sb_3 (by assumption) (by assumption) | exact sb_4 (by assumption) (by assumption)) | exact dk_bad hx2 (by first | exact sb_3 (by assumption) (by assumption) | exact sb_4 (by assumption) (by assumption)) | exact dk_bad hx3 (by first | exact sb_3 (by assumption) (by assumption) | exact sb_4 (by assumption) (by assumption)) | exact dk_len Q3 (by assumption) | exact dk_best (by assumption) | exact dk_done2 Q3 (by assumption) (by assumption) (fun i hi c hc => hk_1 i (by omega) c hc))]), (Mv.pick (S1.trans S5) [] rfl)⟩
theorem impl_DiskOk_c {w : World} {H : Nat → Prop} {d : DiskH} {Q2 : Option Addr} {Q0 Q3 : Nat} (Q7 : Rd 3 encSlot okSlot H w (.slice Q2 Q0 Q3) d.slots) (Q9 : NRd inSlot H w d.slots) (Q6 : okS d.journal.text) (Q8 : i64ok d.journal.sure) :
    Calls Tryz.prog 25 #[.agg #[.slice Q2 Q0 Q3, .string d.journal.text, .int .i64 d.journal.sure]] w fun e w' => e = .returned (.bool (diskOk (d.slots.map SlotH.d) d.journal)) ∧ Mv [] w [] w' := by
 have uU : True := (fun _ => trivial) Q8
 clear uU
 have Q5 : Rd 3 encSlot okSlot (V H w []) w (.slice Q2 Q0 Q3) d.slots := Rd.start Q7 (fun _ _ => fps_nil _)
 obtain ⟨Q1, Q10, Q11, Q12⟩ := Rd.inv Q7
 have Q4 : NRd inSlot (V H w []) w d.slots := NRd.start Q9 (fun _ _ => fps_nil _)
 refine calls_enter 50 Tryz.func25 rfl Tryz.ntmps25 (Nat.le_of_ble_eq_true rfl) (fun _ F0i => ?_)
 have F0 : Fr 50 [(0, .agg #[.slice Q2 Q0 Q3, .string d.journal.text, .int .i64 d.journal.sure])] _ := F0i
 clear F0i
 refine wp_seq (wp_region_lit (l_op (f_box F0 (At.nil w) rfl rfl rfl (F0.ev 0 rfl) rfl rfl fun b1 _ w1 F2 S1 => ?_)))
 refine l_op (f_val F2 rfl rfl (r_assign rfl rfl) rfl fun _ F3 => ?_)
 refine s_end (x_normal (wp_seq (wp_seq (wp_region_lit (l_op (f_val F3 rfl rfl (r_field FI_40_0 rfl (F3.ev 1 rfl) rfl) rfl fun _ F4 => ?_))))))
 refine l_op (f_val (v := .slice Q2 Q0 Q3) F4 rfl rfl (r_loadB S1.at' 0 TI_37 rfl rfl (F4.ev 5 rfl) rfl rfl (fun _ => rfl) rfl) rfl fun _ F5 => ?_)
 refine l_op (f_val F5 rfl rfl (r_len Tryz.underlying37 rfl (F5.ev 6 rfl)) rfl fun _ F6 => ?_)
 refine l_op (f_val F6 rfl rfl (r_cmp (b := decide (Q0 ≠ 2)) (.inr (.inl rfl)) rfl (F6.ev 7 rfl) rfl (dec_of (by omega))) rfl fun _ F7 => ?_)
 refine l_op (f_mv F7 rfl rfl rfl rfl rfl fun _ F8 => ?_)
 rcases Decidable.em (Q0 ≠ 2) with h9 | h9
 · rw [decide_eq_true h9] at F8
   refine l_op (f_skip F8 (wanted_g F8 rfl rfl rfl rfl) rfl rfl fun _ F10 => ?_)
   refine l_op (f_skip F10 (wanted_g F10 rfl rfl rfl rfl) rfl rfl fun _ F11 => ?_)
   refine l_op (f_skip F11 (wanted_g F11 rfl rfl rfl rfl) rfl rfl fun _ F12 => ?_)
   refine l_op (f_skip F12 (wanted_g F12 rfl rfl rfl rfl) rfl rfl fun _ F13 => ?_)
   refine l_op (f_skip F13 (wanted_g F13 rfl rfl rfl rfl) rfl rfl fun _ F14 => ?_)
   refine l_op (f_skip F14 (wanted_g F14 rfl rfl rfl rfl) rfl rfl fun _ F15 => ?_)
   refine l_op (f_skip F15 (wanted_g F15 rfl rfl rfl rfl) rfl rfl fun _ F16 => ?_)
   refine l_op (f_skip F16 (wanted_u F16 rfl rfl rfl) rfl rfl fun _ F17 => ?_)
   refine l_op (f_skip F17 (wanted_u F17 rfl rfl rfl) rfl rfl fun _ F18 => ?_)
   refine l_op (f_skip F18 (wanted_u F18 rfl rfl rfl) rfl rfl fun _ F19 => ?_)
   refine l_op (f_skip F19 (wanted_u F19 rfl rfl rfl) rfl rfl fun _ F20 => ?_)
   refine l_op (f_skip F20 (wanted_u F20 rfl rfl rfl) rfl rfl fun _ F21 => ?_)
   refine l_op (f_skip F21 (wanted_u F21 rfl rfl rfl) rfl rfl fun _ F22 => ?_)
   refine l_op (f_skip F22 (wanted_g F22 rfl rfl rfl rfl) rfl rfl fun _ F23 => ?_)
   refine l_op (f_val F23 rfl rfl (r_pick (b := true) rfl (F23.ev 9 rfl) rfl) rfl fun _ F24 => ?_)
   have F25 : Fr 50 [(24, .bool true), (1, .pointer (some ⟨b1, 0, none⟩))] _ := F24.cut rfl
   clear F0 F2 F3 F4 F5 F6 F7 F8 F10 F11 F12 F13 F14 F15 F16 F17 F18 F19 F20 F21 F22 F23 F24
   refine s_end (x_normal (wp_cond_true (F25.ev 24 rfl) (wp_seq (wp_region_lit (l_op (f_val F25 rfl rfl (r_assign rfl rfl) rfl fun _ F26 => ?_))))))
   refine s_end (x_normal (wp_ret (x_then_ret ?_)))
   refine x_done (v := .bool false) F26 (results_1 Tryz.results25 (.tmp (F26.ev 2 rfl))) ?_
   exact ⟨(by rw [(show false = (diskOk (d.slots.map SlotH.d) d.journal) from by first | exact dk_bad hx1 (by first | exact sb_3 (by assumption) (by assumption) | exact sb_4 (by assumption) (by assumption)) | exact dk_bad hx2 (by first | exact sb_3 (by assumption) (by assumption) | exact sb_4 (by assumption) (by assumption)) | exact dk_bad hx3 (by first | exact sb_3 (by assumption) (by assumption) | exact sb_4 (by assumption) (by assumption)) | exact dk_len Q1 (by assumption) | exact dk_no Q1 (by assumption) hx1 hx2 (nt (by assumption)) (nt (by assumption)) | exact dk_done Q1 (by omega) (any_at hx1 (nf (by assumption))) (fun i hi c hc => hk_1 i (by omega) c hc) | exact dk_done Q1 (by omega) (any_at hx2 (nf (by assumption))) (fun i hi c hc => hk_1 i (by omega) c hc))]), (Mv.pick S1 [] rfl)⟩
 · rw [decide_eq_false h9] at F8
   refine l_op (f_val F8 (wanted_g F8 rfl rfl rfl rfl) rfl (r_field FI_40_0 rfl (F8.ev 1 rfl) rfl) rfl fun _ F27 => ?_)
   refine l_op (f_val (v := .slice Q2 Q0 Q3) F27 (wanted_g F27 rfl rfl rfl rfl) rfl (r_loadB S1.at' 0 TI_37 rfl rfl (F27.ev 10 rfl) rfl rfl (fun _ => rfl) rfl) rfl fun _ F28 => ?_)
   obtain ⟨B29, O29, x1, ad29, hx1, okx1, ln29, cl29⟩ := Rd.at (Rd.mv (Nat.succ_pos _) Q5 S1) 0 (by first | assumption | omega)
   clear ln29
   have oj30 := okx1
   unfold okSlot at oj30
   have VI31 : Rd 2 encC okC (V H w [bx b1 [.slice Q2 Q0 Q3, .string d.journal.text, .int .i64 d.journal.sure] 40]) w1 (.slice x1.a0 x1.n0 x1.c0) x1.d.cells := NRd.get (NRd.mv Q4 S1) hx1 (j := 0) rfl
   obtain ⟨ln31, le31, mx31, ni31⟩ := Rd.inv VI31
   refine l_op (f_val F28 (wanted_g F28 rfl rfl rfl rfl) rfl (r_indexAddr (i := 0) ET_37 rfl ((F28.ev 11 rfl).trans (by rw [ad29])) rfl (by omega) (by first | assumption | omega)) rfl fun _ F32 => ?_)
   refine l_op (f_val F32 (wanted_g F32 rfl rfl rfl rfl) rfl (r_field FI_92_2 rfl (F32.ev 12 rfl) rfl) rfl fun _ F33 => ?_)
   refine l_op (f_val (v := .bool x1.d.whole) F33 (wanted_g F33 rfl rfl rfl rfl) rfl (r_load (cs := [.bool x1.d.whole]) TI_4 rfl (F33.ev 13 rfl) rfl (fun _ => rfl) (elem_sub (f := 2) cl29 [.bool x1.d.whole] rfl)) rfl fun _ F34 => ?_)
   refine l_op (f_val F34 (wanted_g F34 rfl rfl rfl rfl) rfl (r_not rfl (F34.ev 14 rfl)) rfl fun _ F35 => ?_)
   refine l_op (f_mv F35 (wanted_g F35 rfl rfl rfl rfl) rfl rfl rfl rfl fun _ F36 => ?_)
   rcases Bool.eq_false_or_eq_true (!x1.d.whole) with h37 | h37
   · rw [h37] at F36
     refine l_op (f_val F36 (wanted_g F36 rfl rfl rfl rfl) rfl (r_field FI_40_0 rfl (F36.ev 1 rfl) rfl) rfl fun _ F38 => ?_)
     refine l_op (f_val (v := .slice Q2 Q0 Q3) F38 (wanted_g F38 rfl rfl rfl rfl) rfl (r_loadB S1.at' 0 TI_37 rfl rfl (F38.ev 17 rfl) rfl rfl (fun _ => rfl) rfl) rfl fun _ F39 => ?_)
     obtain ⟨B40, O40, x2, ad40, hx2, okx2, ln40, cl40⟩ := Rd.at (Rd.mv (Nat.succ_pos _) Q5 S1) 1 (by first | assumption | omega)
     clear ln40
     have oj41 := okx2
     unfold okSlot at oj41
     have VI42 : Rd 2 encC okC (V H w [bx b1 [.slice Q2 Q0 Q3, .string d.journal.text, .int .i64 d.journal.sure] 40]) w1 (.slice x2.a0 x2.n0 x2.c0) x2.d.cells := NRd.get (NRd.mv Q4 S1) hx2 (j := 0) rfl
     obtain ⟨ln42, le42, mx42, ni42⟩ := Rd.inv VI42
     refine l_op (f_val F39 (wanted_g F39 rfl rfl rfl rfl) rfl (r_indexAddr (i := 1) ET_37 rfl ((F39.ev 18 rfl).trans (by rw [ad40])) rfl (by omega) (by first | assumption | omega)) rfl fun _ F43 => ?_)
     refine l_op (f_val F43 (wanted_g F43 rfl rfl rfl rfl) rfl (r_field FI_92_2 rfl (F43.ev 19 rfl) rfl) rfl fun _ F44 => ?_)
     refine l_op (f_val (v := .bool x2.d.whole) F44 (wanted_g F44 rfl rfl rfl rfl) rfl (r_load (cs := [.bool x2.d.whole]) TI_4 rfl (F44.ev 20 rfl) rfl (fun _ => rfl) (elem_sub (f := 2) cl40 [.bool x2.d.whole] rfl)) rfl fun _ F45 => ?_)
     refine l_op (f_val F45 (wanted_g F45 rfl rfl rfl rfl) rfl (r_not rfl (F45.ev 21 rfl)) rfl fun _ F46 => ?_)
     refine l_op (f_val F46 (wanted_g F46 rfl rfl rfl rfl) rfl (r_pick (b := true) rfl (F46.ev 16 rfl) (F46.ev 22 rfl)) rfl fun _ F47 => ?_)
     refine l_op (f_val F47 rfl rfl (r_pick (b := false) rfl (F47.ev 9 rfl) (F47.ev 23 rfl)) rfl fun _ F48 => ?_)
     have F49 : Fr 50 [(24, .bool (!x2.d.whole)), (1, .pointer (some ⟨b1, 0, none⟩))] _ := F48.cut rfl
     clear F0 F2 F3 F4 F5 F6 F7 F8 F27 F28 F32 F33 F34 F35 F36 F38 F39 F43 F44 F45 F46 F47 F48
     refine s_end (x_normal (x_condb (b := (!x2.d.whole)) (F49.ev 24 rfl) (fun h50 => ?_) (fun h50 => ?_)))
     · skip
       refine wp_seq (wp_region_lit (l_op (f_val F49 rfl rfl (r_assign rfl rfl) rfl fun _ F51 => ?_)))
       refine s_end (x_normal (wp_ret (x_then_ret ?_)))
       refine x_done (v := .bool false) F51 (results_1 Tryz.results25 (.tmp (F51.ev 2 rfl))) ?_
       exact ⟨(by rw [(show false = (diskOk (d.slots.map SlotH.d) d.journal) from by first | exact dk_bad hx1 (by first | exact sb_3 (by assumption) (by assumption) | exact sb_4 (by assumption) (by assumption)) | exact dk_bad hx2 (by first | exact sb_3 (by assumption) (by assumption) | exact sb_4 (by assumption) (by assumption)) | exact dk_bad hx3 (by first | exact sb_3 (by assumption) (by assumption) | exact sb_4 (by assumption) (by assumption)) | exact dk_len Q1 (by assumption) | exact dk_no Q1 (by assumption) hx1 hx2 (nt (by assumption)) (nt (by assumption)) | exact dk_done Q1 (by omega) (any_at hx1 (nf (by assumption))) (fun i hi c hc => hk_1 i (by omega) c hc) | exact dk_done Q1 (by omega) (any_at hx2 (nf (by assumption))) (fun i hi c hc => hk_1 i (by omega) c hc))]), (Mv.pick S1 [] rfl)⟩
     · skip
       refine wp_skip (x_normal (wp_seq (wp_seq (wp_region_lit (l_op (f_val F49 rfl rfl (r_field FI_40_0 rfl (F49.ev 1 rfl) rfl) rfl fun _ F52 => ?_))))))
       refine l_op (f_val (v := .slice Q2 Q0 Q3) F52 rfl rfl (r_loadB S1.at' 0 TI_37 rfl rfl (F52.ev 25 rfl) rfl rfl (fun _ => rfl) rfl) rfl fun _ F53 => ?_)
       refine l_op (f_val F53 rfl rfl (r_len Tryz.underlying37 rfl (F53.ev 26 rfl)) rfl fun _ F54 => ?_)
       refine l_op (f_val F54 rfl rfl (r_move rfl rfl) rfl fun _ F55 => ?_)
       refine s_end (x_normal (wp_block ?_))
       refine x_loop (fun (k : Nat) aZ wZ => Fr 50 [(28, .int .i64 ((k : Nat) : Int)), (27, .int .i64 ((Q0 : Nat) : Int)), (26, .slice Q2 Q0 Q3), (1, .pointer (some ⟨b1, 0, none⟩))] aZ ∧ Mv [bx b1 [.slice Q2 Q0 Q3, .string d.journal.text, .int .i64 d.journal.sure] 40] w1 [bx b1 [.slice Q2 Q0 Q3, .string d.journal.text, .int .i64 d.journal.sure] 40] wZ ∧ (k ≤ Q0) ∧ (∀ j, j < k → ∀ c, nth d.slots j = some c → slotBad c.d = false)) (fun (k : Nat) => Q0 - k) (0) ?_ ?_
       · exact ⟨F55.cut rfl, (Mv.refl S1.at'), by omega, all_none'⟩
       · rintro k a56 w56 ⟨F56, S56, hk_0, hk_1⟩
         refine wp_seq (wp_region_lit (l_op (f_val F56 rfl rfl (r_cmp (b := decide (k < Q0)) (.inr (.inr (.inl rfl))) rfl (F56.ev 28 rfl) (F56.ev 27 rfl) (dec_of (by omega))) rfl fun _ F57 => ?_)))
         refine s_end (x_normal (wp_seq (x_cond (p := k < Q0) (F57.ev 29 rfl) (fun h58 => ?_) (fun h58 => ?_))))
         · skip
           refine wp_skip (x_normal (wp_seq (wp_block (wp_seq (wp_region_lit ?_)))))
           obtain ⟨B59, O59, x3, ad59, hx3, okx3, ln59, cl59⟩ := Rd.at (Rd.mv (Nat.succ_pos _) Q5 (S1.trans S56)) k (by first | assumption | omega)
           clear ln59
           have oj60 := okx3
           unfold okSlot at oj60
           have VI61 : Rd 2 encC okC (V H w [bx b1 [.slice Q2 Q0 Q3, .string d.journal.text, .int .i64 d.journal.sure] 40]) w56 (.slice x3.a0 x3.n0 x3.c0) x3.d.cells := NRd.get (NRd.mv Q4 (S1.trans S56)) hx3 (j := 0) rfl
           obtain ⟨ln61, le61, mx61, ni61⟩ := Rd.inv VI61
           refine l_op (f_val F57 rfl rfl (r_indexAddr (i := k) ET_37 rfl ((F57.ev 26 rfl).trans (by rw [ad59])) (F57.ev 28 rfl) (by omega) (by first | assumption | omega)) rfl fun _ F62 => ?_)
           refine l_op (f_val (v := .agg #[.int .i64 x3.d.seq, .slice x3.a0 x3.n0 x3.c0, .bool x3.d.whole]) F62 rfl rfl (r_load (cs := [.int .i64 x3.d.seq, .slice x3.a0 x3.n0 x3.c0, .bool x3.d.whole]) TI_92 rfl (F62.ev 30 rfl) rfl (fun h => nomatch h) (elem_sub (f := 0) cl59 [.int .i64 x3.d.seq, .slice x3.a0 x3.n0 x3.c0, .bool x3.d.whole] rfl)) rfl fun _ F63 => ?_)
           refine l_op (f_alloc F63 S56.at' ZI_92 rfl rfl rfl rfl rfl fun b64 _ w64 F65 S64 => ?_)
           refine l_op (s_store S64.at' 0 TI_92 rfl rfl rfl rfl rfl (F65.ev 4 rfl) (F65.ev 31 rfl) rfl rfl rfl rfl rfl fun w66 S66 => ?_)
           have T67 : Mv _ _ [bx b64 [.int .i64 x3.d.seq, .slice x3.a0 x3.n0 x3.c0, .bool x3.d.whole] 92, bx b1 [.slice Q2 Q0 Q3, .string d.journal.text, .int .i64 d.journal.sure] 40] _ := S66
           refine s_end (x_normal (wp_seq (wp_region_lit (l_op (f_val F65 rfl rfl (r_field FI_92_2 rfl (F65.ev 4 rfl) rfl) rfl fun _ F68 => ?_)))))
           refine l_op (f_val (v := .bool x3.d.whole) F68 rfl rfl (r_loadB T67.at' 0 TI_4 rfl rfl (F68.ev 32 rfl) rfl rfl (fun _ => rfl) rfl) rfl fun _ F69 => ?_)
           refine l_op (f_mv F69 rfl rfl rfl rfl rfl fun _ F70 => ?_)
           rcases Bool.eq_false_or_eq_true x3.d.whole with h71 | h71
           · rw [h71] at F70
             refine l_op (f_val F70 (wanted_g F70 rfl rfl rfl rfl) rfl (r_field FI_92_0 rfl (F70.ev 4 rfl) rfl) rfl fun _ F72 => ?_)
             refine l_op (f_val (v := .int .i64 x3.d.seq) F72 (wanted_g F72 rfl rfl rfl rfl) rfl (r_loadB T67.at' 0 TI_3 rfl rfl (F72.ev 35 rfl) rfl rfl (fun _ => rfl) rfl) rfl fun _ F73 => ?_)
             refine l_op (f_call F73 CF_26 (wanted_g F73 rfl rfl rfl rfl) rfl rfl rfl (lc (F73.ev 36 rfl) (lc rfl (lc rfl rfl))) (impl_within_c (H := fun _ => True) (n := x3.d.seq) (low := 0) (high := 99999) (by first | assumption | exact ⟨by omega, by omega⟩ | (unfold i64ok at *; omega)) (by first | assumption | exact ⟨by omega, by omega⟩ | (unfold i64ok at *; omega)) (by first | assumption | exact ⟨by omega, by omega⟩ | (unfold i64ok at *; omega))) ?_)
             rintro _ w74 ⟨rfl, m74⟩
             refine ⟨_, rfl, fun _ F75 => ?_⟩
             have S74 := At.frame0 T67.at' m74
             clear m74
             refine l_op (f_val F75 (wanted_g F75 rfl rfl rfl rfl) rfl (r_not rfl (F75.ev 37 rfl)) rfl fun _ F76 => ?_)
             refine l_op (f_mv F76 (wanted_g F76 rfl rfl rfl rfl) rfl rfl rfl rfl fun _ F77 => ?_)
             rcases Bool.eq_false_or_eq_true (!(inB x3.d.seq 0 99999)) with h78 | h78
             · rw [h78] at F77
               refine l_op (f_skip F77 (wanted_g F77 rfl rfl rfl rfl) rfl rfl fun _ F79 => ?_)
               refine l_op (f_skip F79 (wanted_g F79 rfl rfl rfl rfl) rfl rfl fun _ F80 => ?_)
               refine l_op (f_skip F80 (wanted_g F80 rfl rfl rfl rfl) rfl rfl fun _ F81 => ?_)
               refine l_op (f_skip F81 (wanted_g F81 rfl rfl rfl rfl) rfl rfl fun _ F82 => ?_)
               refine l_op (f_val F82 (wanted_g F82 rfl rfl rfl rfl) rfl (r_pick (b := true) rfl (F82.ev 39 rfl) rfl) rfl fun _ F83 => ?_)
               refine l_op (f_val F83 rfl rfl (r_pick (b := true) rfl (F83.ev 34 rfl) (F83.ev 44 rfl)) rfl fun _ F84 => ?_)
               have F85 : Fr 50 [(45, .bool true), (28, .int .i64 ((k : Nat) : Int)), (27, .int .i64 ((Q0 : Nat) : Int)), (26, .slice Q2 Q0 Q3), (1, .pointer (some ⟨b1, 0, none⟩))] _ := F84.cut rfl
               clear F56 F57 F62 F63 F65 F68 F69 F70 F72 F73 F75 F76 F77 F79 F80 F81 F82 F83 F84
               refine s_end (x_normal (wp_cond_true (F85.ev 45 rfl) (wp_seq (wp_region_lit (l_op (f_val F85 rfl rfl (r_assign rfl rfl) rfl fun _ F86 => ?_))))))
               refine s_end (x_normal (wp_ret (x_block_ret (x_then_ret (x_then_ret (x_block_ret (x_then_ret ?_)))))))
               refine x_done (v := .bool false) F86 (results_1 Tryz.results25 (.tmp (F86.ev 2 rfl))) ?_
               exact ⟨(by rw [(show false = (diskOk (d.slots.map SlotH.d) d.journal) from by first | exact dk_bad hx1 (by first | exact sb_3 (by assumption) (by assumption) | exact sb_4 (by assumption) (by assumption)) | exact dk_bad hx2 (by first | exact sb_3 (by assumption) (by assumption) | exact sb_4 (by assumption) (by assumption)) | exact dk_bad hx3 (by first | exact sb_3 (by assumption) (by assumption) | exact sb_4 (by assumption) (by assumption)) | exact dk_len Q1 (by assumption) | exact dk_no Q1 (by assumption) hx1 hx2 (nt (by assumption)) (nt (by assumption)) | exact dk_done Q1 (by omega) (any_at hx1 (nf (by assumption))) (fun i hi c hc => hk_1 i (by omega) c hc) | exact dk_done Q1 (by omega) (any_at hx2 (nf (by assumption))) (fun i hi c hc => hk_1 i (by omega) c hc))]), (Mv.pick (S1.trans (S56.trans (S64.trans (T67.trans S74)))) [] rfl)⟩
             · rw [h78] at F77
               refine l_op (f_val F77 (wanted_g F77 rfl rfl rfl rfl) rfl (r_field FI_92_1 rfl (F77.ev 4 rfl) rfl) rfl fun _ F87 => ?_)
               refine l_op (f_val (v := .slice x3.a0 x3.n0 x3.c0) F87 (wanted_g F87 rfl rfl rfl rfl) rfl (r_loadB S74.at' 0 TI_35 rfl rfl (F87.ev 40 rfl) rfl rfl (fun _ => rfl) rfl) rfl fun _ F88 => ?_)
               refine l_op (f_call F88 CF_24 (wanted_g F88 rfl rfl rfl rfl) rfl rfl rfl (lc (F88.ev 41 rfl) rfl) (impl_StoreOk_c (s := x3.d.cells) (Rd.mv (Nat.succ_pos _) VI61 (S64.trans (T67.trans S74)))) ?_)
               rintro _ w89 ⟨rfl, m89⟩
               refine ⟨_, rfl, fun _ F90 => ?_⟩
               have S89 := At.frame0 S74.at' m89
               clear m89
               refine l_op (f_val F90 (wanted_g F90 rfl rfl rfl rfl) rfl (r_not rfl (F90.ev 42 rfl)) rfl fun _ F91 => ?_)
               refine l_op (f_val F91 (wanted_g F91 rfl rfl rfl rfl) rfl (r_pick (b := false) rfl (F91.ev 39 rfl) (F91.ev 43 rfl)) rfl fun _ F92 => ?_)
               refine l_op (f_val F92 rfl rfl (r_pick (b := true) rfl (F92.ev 34 rfl) (F92.ev 44 rfl)) rfl fun _ F93 => ?_)
               have F94 : Fr 50 [(45, .bool (!(storeOk x3.d.cells))), (28, .int .i64 ((k : Nat) : Int)), (27, .int .i64 ((Q0 : Nat) : Int)), (26, .slice Q2 Q0 Q3), (1, .pointer (some ⟨b1, 0, none⟩))] _ := F93.cut rfl
               clear F56 F57 F62 F63 F65 F68 F69 F70 F72 F73 F75 F76 F77 F87 F88 F90 F91 F92 F93
               have T95 : Mv _ _ [bx b64 [.int .i64 x3.d.seq, .slice x3.a0 x3.n0 x3.c0, .bool x3.d.whole] 92, bx b1 [.slice Q2 Q0 Q3, .string d.journal.text, .int .i64 d.journal.sure] 40] _ := S89
               refine s_end (x_normal (x_condb (b := (!(storeOk x3.d.cells))) (F94.ev 45 rfl) (fun h96 => ?_) (fun h96 => ?_)))
               · skip
                 refine wp_seq (wp_region_lit (l_op (f_val F94 rfl rfl (r_assign rfl rfl) rfl fun _ F97 => ?_)))
                 refine s_end (x_normal (wp_ret (x_block_ret (x_then_ret (x_then_ret (x_block_ret (x_then_ret ?_)))))))
                 refine x_done (v := .bool false) F97 (results_1 Tryz.results25 (.tmp (F97.ev 2 rfl))) ?_
                 exact ⟨(by rw [(show false = (diskOk (d.slots.map SlotH.d) d.journal) from by first | exact dk_bad hx1 (by first | exact sb_3 (by assumption) (by assumption) | exact sb_4 (by assumption) (by assumption)) | exact dk_bad hx2 (by first | exact sb_3 (by assumption) (by assumption) | exact sb_4 (by assumption) (by assumption)) | exact dk_bad hx3 (by first | exact sb_3 (by assumption) (by assumption) | exact sb_4 (by assumption) (by assumption)) | exact dk_len Q1 (by assumption) | exact dk_no Q1 (by assumption) hx1 hx2 (nt (by assumption)) (nt (by assumption)) | exact dk_done Q1 (by omega) (any_at hx1 (nf (by assumption))) (fun i hi c hc => hk_1 i (by omega) c hc) | exact dk_done Q1 (by omega) (any_at hx2 (nf (by assumption))) (fun i hi c hc => hk_1 i (by omega) c hc))]), (Mv.pick (S1.trans (S56.trans (S64.trans (T67.trans (S74.trans T95))))) [] rfl)⟩
               · skip
                 refine wp_skip (x_block_normal (x_normal (wp_region_lit (l_op (f_val F94 rfl rfl (r_add (z := ((k + 1 : Nat) : Int)) rfl (F94.ev 28 rfl) rfl (by first | rfl | omega) ⟨by first | omega | (unfold i64ok at *; omega), by first | omega | (unfold i64ok at *; omega)⟩) rfl fun _ F98 => ?_)))))
                 refine l_op (f_mv F98 rfl rfl rfl rfl rfl fun _ F99 => ?_)
                 refine s_end ?_
                 refine x_normal ⟨k + 1, by omega, F99.cut rfl, ((S56.trans (S64.trans (T67.trans (S74.trans T95)))).pick [1] rfl), by omega, by first | (exact all_stepP hk_1 (fun c hc => by obtain rfl := Option.some.inj (hx1.symm.trans hc); first | exact sb_1 (by assumption) | exact sb_2 (by assumption) (by assumption))) | (exact all_stepP hk_1 (fun c hc => by obtain rfl := Option.some.inj (hx2.symm.trans hc); first | exact sb_1 (by assumption) | exact sb_2 (by assumption) (by assumption))) | (exact all_stepP hk_1 (fun c hc => by obtain rfl := Option.some.inj (hx3.symm.trans hc); first | exact sb_1 (by assumption) | exact sb_2 (by assumption) (by assumption)))⟩
           · rw [h71] at F70
             refine l_op (f_skip F70 (wanted_g F70 rfl rfl rfl rfl) rfl rfl fun _ F100 => ?_)
             refine l_op (f_skip F100 (wanted_g F100 rfl rfl rfl rfl) rfl rfl fun _ F101 => ?_)
             refine l_op (f_skip F101 (wanted_g F101 rfl rfl rfl rfl) rfl rfl fun _ F102 => ?_)
             refine l_op (f_skip F102 (wanted_g F102 rfl rfl rfl rfl) rfl rfl fun _ F103 => ?_)
             refine l_op (f_skip F103 (wanted_g F103 rfl rfl rfl rfl) rfl rfl fun _ F104 => ?_)
             refine l_op (f_skip F104 (wanted_u F104 rfl rfl rfl) rfl rfl fun _ F105 => ?_)
             refine l_op (f_skip F105 (wanted_u F105 rfl rfl rfl) rfl rfl fun _ F106 => ?_)
             refine l_op (f_skip F106 (wanted_u F106 rfl rfl rfl) rfl rfl fun _ F107 => ?_)
             refine l_op (f_skip F107 (wanted_u F107 rfl rfl rfl) rfl rfl fun _ F108 => ?_)
             refine l_op (f_skip F108 (wanted_g F108 rfl rfl rfl rfl) rfl rfl fun _ F109 => ?_)
             refine l_op (f_val F109 rfl rfl (r_pick (b := false) rfl (F109.ev 34 rfl) rfl) rfl fun _ F110 => ?_)
             have F111 : Fr 50 [(45, .bool false), (28, .int .i64 ((k : Nat) : Int)), (27, .int .i64 ((Q0 : Nat) : Int)), (26, .slice Q2 Q0 Q3), (1, .pointer (some ⟨b1, 0, none⟩))] _ := F110.cut rfl
             clear F56 F57 F62 F63 F65 F68 F69 F70 F100 F101 F102 F103 F104 F105 F106 F107 F108 F109 F110
             refine s_end (x_normal (wp_cond_false (F111.ev 45 rfl) (wp_skip (x_block_normal (x_normal (wp_region_lit (l_op (f_val F111 rfl rfl (r_add (z := ((k + 1 : Nat) : Int)) rfl (F111.ev 28 rfl) rfl (by first | rfl | omega) ⟨by first | omega | (unfold i64ok at *; omega), by first | omega | (unfold i64ok at *; omega)⟩) rfl fun _ F112 => ?_))))))))
             refine l_op (f_mv F112 rfl rfl rfl rfl rfl fun _ F113 => ?_)
             refine s_end ?_
             refine x_normal ⟨k + 1, by omega, F113.cut rfl, ((S56.trans (S64.trans T67)).pick [1] rfl), by omega, by first | (exact all_stepP hk_1 (fun c hc => by obtain rfl := Option.some.inj (hx1.symm.trans hc); first | exact sb_1 (by assumption) | exact sb_2 (by assumption) (by assumption))) | (exact all_stepP hk_1 (fun c hc => by obtain rfl := Option.some.inj (hx2.symm.trans hc); first | exact sb_1 (by assumption) | exact sb_2 (by assumption) (by assumption))) | (exact all_stepP hk_1 (fun c hc => by obtain rfl := Option.some.inj (hx3.symm.trans hc); first | exact sb_1 (by assumption) | exact sb_2 (by assumption) (by assumption)))⟩
         · skip
           refine wp_exit (x_then_exit (x_then_exit (x_block_here (x_normal (wp_seq (wp_region_lit (l_op (f_val F57 rfl rfl (r_field FI_40_1 rfl (F57.ev 1 rfl) rfl) rfl fun _ F114 => ?_))))))))
           refine l_op (f_val (v := .agg #[.string d.journal.text, .int .i64 d.journal.sure]) F114 rfl rfl (r_loadB S56.at' 0 TI_38 rfl rfl (F114.ev 47 rfl) rfl rfl (fun h => nomatch h) rfl) rfl fun _ F115 => ?_)
           refine l_op (f_call F115 CF_49 rfl rfl rfl rfl (lc (F115.ev 48 rfl) rfl) (impl_JournalOk_c (H := fun _ => True) (j := d.journal) Q6 (by first | assumption | exact ⟨by omega, by omega⟩ | (unfold i64ok at *; omega) | (simp only [i64ok]; omega))) ?_)
           rintro _ w116 ⟨rfl, m116⟩
           refine ⟨_, rfl, fun _ F117 => ?_⟩
           have S116 := At.frame0 S56.at' m116
           clear m116
           refine l_op (f_as F117 rfl rfl rfl rfl rfl fun _ F118 => ?_)
           have T119 : Mv _ _ [bx b1 [.slice Q2 Q0 Q3, .string d.journal.text, .int .i64 d.journal.sure] 40] _ := S116
           refine s_end (x_normal (wp_ret ?_))
           refine x_done (v := .bool (jouOk d.journal)) F118 (results_1 Tryz.results25 (.tmp (F118.ev 2 rfl))) ?_
           exact ⟨(by rw [(show (jouOk d.journal) = (diskOk (d.slots.map SlotH.d) d.journal) from by first | exact dk_bad hx1 (by first | exact sb_3 (by assumption) (by assumption) | exact sb_4 (by assumption) (by assumption)) | exact dk_bad hx2 (by first | exact sb_3 (by assumption) (by assumption) | exact sb_4 (by assumption) (by assumption)) | exact dk_bad hx3 (by first | exact sb_3 (by assumption) (by assumption) | exact sb_4 (by assumption) (by assumption)) | exact dk_len Q1 (by assumption) | exact dk_no Q1 (by assumption) hx1 hx2 (nt (by assumption)) (nt (by assumption)) | exact dk_done Q1 (by omega) (any_at hx1 (nf (by assumption))) (fun i hi c hc => hk_1 i (by omega) c hc) | exact dk_done Q1 (by omega) (any_at hx2 (nf (by assumption))) (fun i hi c hc => hk_1 i (by omega) c hc))]), (Mv.pick (S1.trans (S56.trans T119)) [] rfl)⟩
   · rw [h37] at F36
     refine l_op (f_skip F36 (wanted_g F36 rfl rfl rfl rfl) rfl rfl fun _ F120 => ?_)
     refine l_op (f_skip F120 (wanted_g F120 rfl rfl rfl rfl) rfl rfl fun _ F121 => ?_)
     refine l_op (f_skip F121 (wanted_g F121 rfl rfl rfl rfl) rfl rfl fun _ F122 => ?_)
     refine l_op (f_skip F122 (wanted_g F122 rfl rfl rfl rfl) rfl rfl fun _ F123 => ?_)
     refine l_op (f_skip F123 (wanted_g F123 rfl rfl rfl rfl) rfl rfl fun _ F124 => ?_)
     refine l_op (f_skip F124 (wanted_g F124 rfl rfl rfl rfl) rfl rfl fun _ F125 => ?_)
     refine l_op (f_val F125 (wanted_g F125 rfl rfl rfl rfl) rfl (r_pick (b := false) rfl (F125.ev 16 rfl) rfl) rfl fun _ F126 => ?_)
     refine l_op (f_val F126 rfl rfl (r_pick (b := false) rfl (F126.ev 9 rfl) (F126.ev 23 rfl)) rfl fun _ F127 => ?_)
     have F128 : Fr 50 [(24, .bool false), (1, .pointer (some ⟨b1, 0, none⟩))] _ := F127.cut rfl
     clear F0 F2 F3 F4 F5 F6 F7 F8 F27 F28 F32 F33 F34 F35 F36 F120 F121 F122 F123 F124 F125 F126 F127
     refine s_end (x_normal (wp_cond_false (F128.ev 24 rfl) (wp_skip (x_normal (wp_seq (wp_seq (wp_region_lit (l_op (f_val F128 rfl rfl (r_field FI_40_0 rfl (F128.ev 1 rfl) rfl) rfl fun _ F129 => ?_)))))))))
     refine l_op (f_val (v := .slice Q2 Q0 Q3) F129 rfl rfl (r_loadB S1.at' 0 TI_37 rfl rfl (F129.ev 25 rfl) rfl rfl (fun _ => rfl) rfl) rfl fun _ F130 => ?_)
     refine l_op (f_val F130 rfl rfl (r_len Tryz.underlying37 rfl (F130.ev 26 rfl)) rfl fun _ F131 => ?_)
     refine l_op (f_val F131 rfl rfl (r_move rfl rfl) rfl fun _ F132 => ?_)
     refine s_end (x_normal (wp_block ?_))
     refine x_loop (fun (k : Nat) aZ wZ => Fr 50 [(28, .int .i64 ((k : Nat) : Int)), (27, .int .i64 ((Q0 : Nat) : Int)), (26, .slice Q2 Q0 Q3), (1, .pointer (some ⟨b1, 0, none⟩))] aZ ∧ Mv [bx b1 [.slice Q2 Q0 Q3, .string d.journal.text, .int .i64 d.journal.sure] 40] w1 [bx b1 [.slice Q2 Q0 Q3, .string d.journal.text, .int .i64 d.journal.sure] 40] wZ ∧ (k ≤ Q0) ∧ (∀ j, j < k → ∀ c, nth d.slots j = some c → slotBad c.d = false)) (fun (k : Nat) => Q0 - k) (0) ?_ ?_
     · exact ⟨F132.cut rfl, (Mv.refl S1.at'), by omega, all_none'⟩
     · rintro k a133 w133 ⟨F133, S133, hk_0, hk_1⟩
       refine wp_seq (wp_region_lit (l_op (f_val F133 rfl rfl (r_cmp (b := decide (k < Q0)) (.inr (.inr (.inl rfl))) rfl (F133.ev 28 rfl) (F133.ev 27 rfl) (dec_of (by omega))) rfl fun _ F134 => ?_)))
       refine s_end (x_normal (wp_seq (x_cond (p := k < Q0) (F134.ev 29 rfl) (fun h135 => ?_) (fun h135 => ?_))))
       · skip
         refine wp_skip (x_normal (wp_seq (wp_block (wp_seq (wp_region_lit ?_)))))
         obtain ⟨B136, O136, x2, ad136, hx2, okx2, ln136, cl136⟩ := Rd.at (Rd.mv (Nat.succ_pos _) Q5 (S1.trans S133)) k (by first | assumption | omega)
         clear ln136
         have oj137 := okx2
         unfold okSlot at oj137
         have VI138 : Rd 2 encC okC (V H w [bx b1 [.slice Q2 Q0 Q3, .string d.journal.text, .int .i64 d.journal.sure] 40]) w133 (.slice x2.a0 x2.n0 x2.c0) x2.d.cells := NRd.get (NRd.mv Q4 (S1.trans S133)) hx2 (j := 0) rfl
         obtain ⟨ln138, le138, mx138, ni138⟩ := Rd.inv VI138
         refine l_op (f_val F134 rfl rfl (r_indexAddr (i := k) ET_37 rfl ((F134.ev 26 rfl).trans (by rw [ad136])) (F134.ev 28 rfl) (by omega) (by first | assumption | omega)) rfl fun _ F139 => ?_)
         refine l_op (f_val (v := .agg #[.int .i64 x2.d.seq, .slice x2.a0 x2.n0 x2.c0, .bool x2.d.whole]) F139 rfl rfl (r_load (cs := [.int .i64 x2.d.seq, .slice x2.a0 x2.n0 x2.c0, .bool x2.d.whole]) TI_92 rfl (F139.ev 30 rfl) rfl (fun h => nomatch h) (elem_sub (f := 0) cl136 [.int .i64 x2.d.seq, .slice x2.a0 x2.n0 x2.c0, .bool x2.d.whole] rfl)) rfl fun _ F140 => ?_)
         refine l_op (f_alloc F140 S133.at' ZI_92 rfl rfl rfl rfl rfl fun b141 _ w141 F142 S141 => ?_)
         refine l_op (s_store S141.at' 0 TI_92 rfl rfl rfl rfl rfl (F142.ev 4 rfl) (F142.ev 31 rfl) rfl rfl rfl rfl rfl fun w143 S143 => ?_)
         have T144 : Mv _ _ [bx b141 [.int .i64 x2.d.seq, .slice x2.a0 x2.n0 x2.c0, .bool x2.d.whole] 92, bx b1 [.slice Q2 Q0 Q3, .string d.journal.text, .int .i64 d.journal.sure] 40] _ := S143
         refine s_end (x_normal (wp_seq (wp_region_lit (l_op (f_val F142 rfl rfl (r_field FI_92_2 rfl (F142.ev 4 rfl) rfl) rfl fun _ F145 => ?_)))))
         refine l_op (f_val (v := .bool x2.d.whole) F145 rfl rfl (r_loadB T144.at' 0 TI_4 rfl rfl (F145.ev 32 rfl) rfl rfl (fun _ => rfl) rfl) rfl fun _ F146 => ?_)
         refine l_op (f_mv F146 rfl rfl rfl rfl rfl fun _ F147 => ?_)
         rcases Bool.eq_false_or_eq_true x2.d.whole with h148 | h148
         · rw [h148] at F147
           refine l_op (f_val F147 (wanted_g F147 rfl rfl rfl rfl) rfl (r_field FI_92_0 rfl (F147.ev 4 rfl) rfl) rfl fun _ F149 => ?_)
           refine l_op (f_val (v := .int .i64 x2.d.seq) F149 (wanted_g F149 rfl rfl rfl rfl) rfl (r_loadB T144.at' 0 TI_3 rfl rfl (F149.ev 35 rfl) rfl rfl (fun _ => rfl) rfl) rfl fun _ F150 => ?_)
           refine l_op (f_call F150 CF_26 (wanted_g F150 rfl rfl rfl rfl) rfl rfl rfl (lc (F150.ev 36 rfl) (lc rfl (lc rfl rfl))) (impl_within_c (H := fun _ => True) (n := x2.d.seq) (low := 0) (high := 99999) (by first | assumption | exact ⟨by omega, by omega⟩ | (unfold i64ok at *; omega)) (by first | assumption | exact ⟨by omega, by omega⟩ | (unfold i64ok at *; omega)) (by first | assumption | exact ⟨by omega, by omega⟩ | (unfold i64ok at *; omega))) ?_)
           rintro _ w151 ⟨rfl, m151⟩
           refine ⟨_, rfl, fun _ F152 => ?_⟩
           have S151 := At.frame0 T144.at' m151
           clear m151
           refine l_op (f_val F152 (wanted_g F152 rfl rfl rfl rfl) rfl (r_not rfl (F152.ev 37 rfl)) rfl fun _ F153 => ?_)
           refine l_op (f_mv F153 (wanted_g F153 rfl rfl rfl rfl) rfl rfl rfl rfl fun _ F154 => ?_)
           rcases Bool.eq_false_or_eq_true (!(inB x2.d.seq 0 99999)) with h155 | h155
           · rw [h155] at F154
             refine l_op (f_skip F154 (wanted_g F154 rfl rfl rfl rfl) rfl rfl fun _ F156 => ?_)
             refine l_op (f_skip F156 (wanted_g F156 rfl rfl rfl rfl) rfl rfl fun _ F157 => ?_)
             refine l_op (f_skip F157 (wanted_g F157 rfl rfl rfl rfl) rfl rfl fun _ F158 => ?_)
             refine l_op (f_skip F158 (wanted_g F158 rfl rfl rfl rfl) rfl rfl fun _ F159 => ?_)
             refine l_op (f_val F159 (wanted_g F159 rfl rfl rfl rfl) rfl (r_pick (b := true) rfl (F159.ev 39 rfl) rfl) rfl fun _ F160 => ?_)
             refine l_op (f_val F160 rfl rfl (r_pick (b := true) rfl (F160.ev 34 rfl) (F160.ev 44 rfl)) rfl fun _ F161 => ?_)
             have F162 : Fr 50 [(45, .bool true), (28, .int .i64 ((k : Nat) : Int)), (27, .int .i64 ((Q0 : Nat) : Int)), (26, .slice Q2 Q0 Q3), (1, .pointer (some ⟨b1, 0, none⟩))] _ := F161.cut rfl
             clear F133 F134 F139 F140 F142 F145 F146 F147 F149 F150 F152 F153 F154 F156 F157 F158 F159 F160 F161
             refine s_end (x_normal (wp_cond_true (F162.ev 45 rfl) (wp_seq (wp_region_lit (l_op (f_val F162 rfl rfl (r_assign rfl rfl) rfl fun _ F163 => ?_))))))
             refine s_end (x_normal (wp_ret (x_block_ret (x_then_ret (x_then_ret (x_block_ret (x_then_ret ?_)))))))
             refine x_done (v := .bool false) F163 (results_1 Tryz.results25 (.tmp (F163.ev 2 rfl))) ?_
             exact ⟨(by rw [(show false = (diskOk (d.slots.map SlotH.d) d.journal) from by first | exact dk_bad hx1 (by first | exact sb_3 (by assumption) (by assumption) | exact sb_4 (by assumption) (by assumption)) | exact dk_bad hx2 (by first | exact sb_3 (by assumption) (by assumption) | exact sb_4 (by assumption) (by assumption)) | exact dk_bad hx3 (by first | exact sb_3 (by assumption) (by assumption) | exact sb_4 (by assumption) (by assumption)) | exact dk_len Q1 (by assumption) | exact dk_no Q1 (by assumption) hx1 hx2 (nt (by assumption)) (nt (by assumption)) | exact dk_done Q1 (by omega) (any_at hx1 (nf (by assumption))) (fun i hi c hc => hk_1 i (by omega) c hc) | exact dk_done Q1 (by omega) (any_at hx2 (nf (by assumption))) (fun i hi c hc => hk_1 i (by omega) c hc))]), (Mv.pick (S1.trans (S133.trans (S141.trans (T144.trans S151)))) [] rfl)⟩
           · rw [h155] at F154
             refine l_op (f_val F154 (wanted_g F154 rfl rfl rfl rfl) rfl (r_field FI_92_1 rfl (F154.ev 4 rfl) rfl) rfl fun _ F164 => ?_)
             refine l_op (f_val (v := .slice x2.a0 x2.n0 x2.c0) F164 (wanted_g F164 rfl rfl rfl rfl) rfl (r_loadB S151.at' 0 TI_35 rfl rfl (F164.ev 40 rfl) rfl rfl (fun _ => rfl) rfl) rfl fun _ F165 => ?_)
             refine l_op (f_call F165 CF_24 (wanted_g F165 rfl rfl rfl rfl) rfl rfl rfl (lc (F165.ev 41 rfl) rfl) (impl_StoreOk_c (s := x2.d.cells) (Rd.mv (Nat.succ_pos _) VI138 (S141.trans (T144.trans S151)))) ?_)
             rintro _ w166 ⟨rfl, m166⟩
             refine ⟨_, rfl, fun _ F167 => ?_⟩
             have S166 := At.frame0 S151.at' m166
             clear m166
             refine l_op (f_val F167 (wanted_g F167 rfl rfl rfl rfl) rfl (r_not rfl (F167.ev 42 rfl)) rfl fun _ F168 => ?_)
             refine l_op (f_val F168 (wanted_g F168 rfl rfl rfl rfl) rfl (r_pick (b := false) rfl (F168.ev 39 rfl) (F168.ev 43 rfl)) rfl fun _ F169 => ?_)
             refine l_op (f_val F169 rfl rfl (r_pick (b := true) rfl (F169.ev 34 rfl) (F169.ev 44 rfl)) rfl fun _ F170 => ?_)
             have F171 : Fr 50 [(45, .bool (!(storeOk x2.d.cells))), (28, .int .i64 ((k : Nat) : Int)), (27, .int .i64 ((Q0 : Nat) : Int)), (26, .slice Q2 Q0 Q3), (1, .pointer (some ⟨b1, 0, none⟩))] _ := F170.cut rfl
             clear F133 F134 F139 F140 F142 F145 F146 F147 F149 F150 F152 F153 F154 F164 F165 F167 F168 F169 F170
             have T172 : Mv _ _ [bx b141 [.int .i64 x2.d.seq, .slice x2.a0 x2.n0 x2.c0, .bool x2.d.whole] 92, bx b1 [.slice Q2 Q0 Q3, .string d.journal.text, .int .i64 d.journal.sure] 40] _ := S166
             refine s_end (x_normal (x_condb (b := (!(storeOk x2.d.cells))) (F171.ev 45 rfl) (fun h173 => ?_) (fun h173 => ?_)))
             · skip
               refine wp_seq (wp_region_lit (l_op (f_val F171 rfl rfl (r_assign rfl rfl) rfl fun _ F174 => ?_)))
               refine s_end (x_normal (wp_ret (x_block_ret (x_then_ret (x_then_ret (x_block_ret (x_then_ret ?_)))))))
               refine x_done (v := .bool false) F174 (results_1 Tryz.results25 (.tmp (F174.ev 2 rfl))) ?_
               exact ⟨(by rw [(show false = (diskOk (d.slots.map SlotH.d) d.journal) from by first | exact dk_bad hx1 (by first | exact sb_3 (by assumption) (by assumption) | exact sb_4 (by assumption) (by assumption)) | exact dk_bad hx2 (by first | exact sb_3 (by assumption) (by assumption) | exact sb_4 (by assumption) (by assumption)) | exact dk_bad hx3 (by first | exact sb_3 (by assumption) (by assumption) | exact sb_4 (by assumption) (by assumption)) | exact dk_len Q1 (by assumption) | exact dk_no Q1 (by assumption) hx1 hx2 (nt (by assumption)) (nt (by assumption)) | exact dk_done Q1 (by omega) (any_at hx1 (nf (by assumption))) (fun i hi c hc => hk_1 i (by omega) c hc) | exact dk_done Q1 (by omega) (any_at hx2 (nf (by assumption))) (fun i hi c hc => hk_1 i (by omega) c hc))]), (Mv.pick (S1.trans (S133.trans (S141.trans (T144.trans (S151.trans T172))))) [] rfl)⟩
             · skip
               refine wp_skip (x_block_normal (x_normal (wp_region_lit (l_op (f_val F171 rfl rfl (r_add (z := ((k + 1 : Nat) : Int)) rfl (F171.ev 28 rfl) rfl (by first | rfl | omega) ⟨by first | omega | (unfold i64ok at *; omega), by first | omega | (unfold i64ok at *; omega)⟩) rfl fun _ F175 => ?_)))))
               refine l_op (f_mv F175 rfl rfl rfl rfl rfl fun _ F176 => ?_)
               refine s_end ?_
               refine x_normal ⟨k + 1, by omega, F176.cut rfl, ((S133.trans (S141.trans (T144.trans (S151.trans T172)))).pick [1] rfl), by omega, by first | (exact all_stepP hk_1 (fun c hc => by obtain rfl := Option.some.inj (hx1.symm.trans hc); first | exact sb_1 (by assumption) | exact sb_2 (by assumption) (by assumption))) | (exact all_stepP hk_1 (fun c hc => by obtain rfl := Option.some.inj (hx2.symm.trans hc); first | exact sb_1 (by assumption) | exact sb_2 (by assumption) (by assumption))) | (exact all_stepP hk_1 (fun c hc => by obtain rfl := Option.some.inj (hx3.symm.trans hc); first | exact sb_1 (by assumption) | exact sb_2 (by assumption) (by assumption)))⟩
         · rw [h148] at F147
           refine l_op (f_skip F147 (wanted_g F147 rfl rfl rfl rfl) rfl rfl fun _ F177 => ?_)
           refine l_op (f_skip F177 (wanted_g F177 rfl rfl rfl rfl) rfl rfl fun _ F178 => ?_)
           refine l_op (f_skip F178 (wanted_g F178 rfl rfl rfl rfl) rfl rfl fun _ F179 => ?_)
           refine l_op (f_skip F179 (wanted_g F179 rfl rfl rfl rfl) rfl rfl fun _ F180 => ?_)
           refine l_op (f_skip F180 (wanted_g F180 rfl rfl rfl rfl) rfl rfl fun _ F181 => ?_)
           refine l_op (f_skip F181 (wanted_u F181 rfl rfl rfl) rfl rfl fun _ F182 => ?_)
           refine l_op (f_skip F182 (wanted_u F182 rfl rfl rfl) rfl rfl fun _ F183 => ?_)
           refine l_op (f_skip F183 (wanted_u F183 rfl rfl rfl) rfl rfl fun _ F184 => ?_)
           refine l_op (f_skip F184 (wanted_u F184 rfl rfl rfl) rfl rfl fun _ F185 => ?_)
           refine l_op (f_skip F185 (wanted_g F185 rfl rfl rfl rfl) rfl rfl fun _ F186 => ?_)
           refine l_op (f_val F186 rfl rfl (r_pick (b := false) rfl (F186.ev 34 rfl) rfl) rfl fun _ F187 => ?_)
           have F188 : Fr 50 [(45, .bool false), (28, .int .i64 ((k : Nat) : Int)), (27, .int .i64 ((Q0 : Nat) : Int)), (26, .slice Q2 Q0 Q3), (1, .pointer (some ⟨b1, 0, none⟩))] _ := F187.cut rfl
           clear F133 F134 F139 F140 F142 F145 F146 F147 F177 F178 F179 F180 F181 F182 F183 F184 F185 F186 F187
           refine s_end (x_normal (wp_cond_false (F188.ev 45 rfl) (wp_skip (x_block_normal (x_normal (wp_region_lit (l_op (f_val F188 rfl rfl (r_add (z := ((k + 1 : Nat) : Int)) rfl (F188.ev 28 rfl) rfl (by first | rfl | omega) ⟨by first | omega | (unfold i64ok at *; omega), by first | omega | (unfold i64ok at *; omega)⟩) rfl fun _ F189 => ?_))))))))
           refine l_op (f_mv F189 rfl rfl rfl rfl rfl fun _ F190 => ?_)
           refine s_end ?_
           refine x_normal ⟨k + 1, by omega, F190.cut rfl, ((S133.trans (S141.trans T144)).pick [1] rfl), by omega, by first | (exact all_stepP hk_1 (fun c hc => by obtain rfl := Option.some.inj (hx1.symm.trans hc); first | exact sb_1 (by assumption) | exact sb_2 (by assumption) (by assumption))) | (exact all_stepP hk_1 (fun c hc => by obtain rfl := Option.some.inj (hx2.symm.trans hc); first | exact sb_1 (by assumption) | exact sb_2 (by assumption) (by assumption))) | (exact all_stepP hk_1 (fun c hc => by obtain rfl := Option.some.inj (hx3.symm.trans hc); first | exact sb_1 (by assumption) | exact sb_2 (by assumption) (by assumption)))⟩
       · skip
         refine wp_exit (x_then_exit (x_then_exit (x_block_here (x_normal (wp_seq (wp_region_lit (l_op (f_val F134 rfl rfl (r_field FI_40_1 rfl (F134.ev 1 rfl) rfl) rfl fun _ F191 => ?_))))))))
         refine l_op (f_val (v := .agg #[.string d.journal.text, .int .i64 d.journal.sure]) F191 rfl rfl (r_loadB S133.at' 0 TI_38 rfl rfl (F191.ev 47 rfl) rfl rfl (fun h => nomatch h) rfl) rfl fun _ F192 => ?_)
         refine l_op (f_call F192 CF_49 rfl rfl rfl rfl (lc (F192.ev 48 rfl) rfl) (impl_JournalOk_c (H := fun _ => True) (j := d.journal) Q6 (by first | assumption | exact ⟨by omega, by omega⟩ | (unfold i64ok at *; omega) | (simp only [i64ok]; omega))) ?_)
         rintro _ w193 ⟨rfl, m193⟩
         refine ⟨_, rfl, fun _ F194 => ?_⟩
         have S193 := At.frame0 S133.at' m193
         clear m193
         refine l_op (f_as F194 rfl rfl rfl rfl rfl fun _ F195 => ?_)
         have T196 : Mv _ _ [bx b1 [.slice Q2 Q0 Q3, .string d.journal.text, .int .i64 d.journal.sure] 40] _ := S193
         refine s_end (x_normal (wp_ret ?_))
         refine x_done (v := .bool (jouOk d.journal)) F195 (results_1 Tryz.results25 (.tmp (F195.ev 2 rfl))) ?_
         exact ⟨(by rw [(show (jouOk d.journal) = (diskOk (d.slots.map SlotH.d) d.journal) from by first | exact dk_bad hx1 (by first | exact sb_3 (by assumption) (by assumption) | exact sb_4 (by assumption) (by assumption)) | exact dk_bad hx2 (by first | exact sb_3 (by assumption) (by assumption) | exact sb_4 (by assumption) (by assumption)) | exact dk_bad hx3 (by first | exact sb_3 (by assumption) (by assumption) | exact sb_4 (by assumption) (by assumption)) | exact dk_len Q1 (by assumption) | exact dk_no Q1 (by assumption) hx1 hx2 (nt (by assumption)) (nt (by assumption)) | exact dk_done Q1 (by omega) (any_at hx1 (nf (by assumption))) (fun i hi c hc => hk_1 i (by omega) c hc) | exact dk_done Q1 (by omega) (any_at hx2 (nf (by assumption))) (fun i hi c hc => hk_1 i (by omega) c hc))]), (Mv.pick (S1.trans (S133.trans T196)) [] rfl)⟩
end Go.Proofs.YtgfilegkabbliaaGreat
