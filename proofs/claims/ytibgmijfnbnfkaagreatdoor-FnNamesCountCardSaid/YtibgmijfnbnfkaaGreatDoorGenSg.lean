/-
  Walks: names, files.
-/
import Derived.Test.YtibgmijfnbnfkaaGreatDoorGenRa
import Derived.Test.YtibgmijfnbnfkaaGreatDoorDatVd
namespace Go.Proofs.YtibgmijfnbnfkaaGreatDoor
open Go.ChangeShapes Go.WideShapes Go.ChangeAt Go.RowKit
set_option maxRecDepth 100000
set_option maxHeartbeats 1000000
theorem impl_NameOk_c {w : World} {H : Nat → Prop} {key : ByteArray} (Q0 : okS key) :
    Calls Tryz.prog 89 #[.string key] w fun e w' => e = .returned (.bool (nameOk key)) ∧ Mv [] w [] w' := by
 have uU : True := (fun _ => trivial) H
 clear uU
 have kz := Q0
 unfold okS at kz
 refine calls_enter 41 Tryz.func89 rfl Tryz.ntmps89 (Nat.le_of_ble_eq_true rfl) (fun _ F0i => ?_)
 have F0 : Fr 41 [(0, .string key)] _ := F0i
 clear F0i
 refine wp_seq (wp_region_lit (l_op (f_val F0 rfl rfl (r_assign rfl rfl) rfl fun _ F1 => ?_)))
 refine s_end (x_normal (wp_seq (wp_seq (wp_region_lit (l_op (f_mv F1 rfl rfl rfl rfl rfl fun _ F2 => ?_))))))
 refine l_op (f_val F2 rfl rfl (r_lenS (fun t ht => by cases ht; exact Tryz.underlying9) rfl rfl (F2.ev 5 rfl)) rfl fun _ F3 => ?_)
 refine l_op (f_val F3 rfl rfl (r_move rfl rfl) rfl fun _ F4 => ?_)
 refine s_end (x_normal (wp_block ?_))
 refine x_loop (fun (k : Nat) aZ wZ => Fr 41 [(7, .int .i64 ((k : Nat) : Int)), (6, .int .i64 ((key.size : Nat) : Int)), (0, .string key)] aZ ∧ Mv [] w [] wZ ∧ (k ≤ key.size) ∧ (∀ j, j < k → nb (byteAt key j) = true)) (fun (k : Nat) => key.size - k) (0) ?_ ?_
 · exact ⟨F4.cut rfl, (Mv.refl (At.nil w)), by omega, all_none⟩
 · rintro k a5 w5 ⟨F5, S5, hk_0, hk_1⟩
   refine wp_seq (wp_region_lit (l_op (f_val F5 rfl rfl (r_cmp (b := decide (k < key.size)) (.inr (.inr (.inl rfl))) rfl (F5.ev 7 rfl) (F5.ev 6 rfl) (dec_of (by omega))) rfl fun _ F6 => ?_)))
   refine s_end (x_normal (wp_seq (x_cond (p := k < key.size) (F6.ev 8 rfl) (fun h7 => ?_) (fun h7 => ?_))))
   · skip
     refine wp_skip (x_normal (wp_seq (wp_block (wp_seq (wp_region_lit (l_op (f_mv F6 rfl rfl rfl rfl rfl fun _ F8 => ?_)))))))
     refine l_op (f_as F8 rfl rfl rfl rfl rfl fun _ F9 => ?_)
     refine s_end (x_normal (wp_seq (wp_region_lit (l_op (f_mv F9 rfl rfl rfl rfl rfl fun _ F10 => ?_)))))
     refine l_op (f_mv F10 rfl rfl rfl rfl rfl fun _ F11 => ?_)
     refine l_op (f_val F11 rfl rfl (r_indexS (i := k) Tryz.underlying9 rfl (F11.ev 10 rfl) (F11.ev 11 rfl) (by omega) (by first | assumption | omega)) rfl fun _ F12 => ?_)
     refine l_op (f_as F12 rfl rfl rfl rfl rfl fun _ F13 => ?_)
     refine s_end (x_normal (wp_seq (wp_region_lit (l_op (f_mv F13 rfl rfl rfl rfl rfl fun _ F14 => ?_)))))
     refine l_op (f_val F14 rfl rfl (r_cmp (b := decide (byteAt key k ≥ 97)) (.inr (.inr (.inr (.inr (.inr rfl))))) rfl (F14.ev 13 rfl) rfl (dec_of (by omega))) rfl fun _ F15 => ?_)
     refine l_op (f_mv F15 rfl rfl rfl rfl rfl fun _ F16 => ?_)
     rcases Decidable.em (byteAt key k ≥ 97) with h17 | h17
     · rw [decide_eq_true h17] at F16
       refine l_op (f_mv F16 (wanted_g F16 rfl rfl rfl rfl) rfl rfl rfl rfl fun _ F18 => ?_)
       refine l_op (f_val F18 (wanted_g F18 rfl rfl rfl rfl) rfl (r_cmp (b := decide (byteAt key k ≤ 122)) (.inr (.inr (.inr (.inl rfl)))) rfl (F18.ev 16 rfl) rfl (dec_of (by omega))) rfl fun _ F19 => ?_)
       refine l_op (f_val F19 rfl rfl (r_pick (b := true) rfl (F19.ev 15 rfl) (F19.ev 17 rfl)) rfl fun _ F20 => ?_)
       refine l_op (f_val F20 rfl rfl (r_notD rfl (F20.ev 18 rfl)) rfl fun _ F21 => ?_)
       refine l_op (f_mv F21 rfl rfl rfl rfl rfl fun _ F22 => ?_)
       rcases Decidable.em (¬ (byteAt key k ≤ 122)) with h23 | h23
       · rw [decide_eq_true h23] at F22
         refine l_op (f_mv F22 (wanted_g F22 rfl rfl rfl rfl) rfl rfl rfl rfl fun _ F24 => ?_)
         refine l_op (f_val F24 (wanted_g F24 rfl rfl rfl rfl) rfl (r_cmp (b := decide (byteAt key k ≥ 48)) (.inr (.inr (.inr (.inr (.inr rfl))))) rfl (F24.ev 21 rfl) rfl (dec_of (by omega))) rfl fun _ F25 => ?_)
         refine l_op (f_mv F25 (wanted_g F25 rfl rfl rfl rfl) rfl rfl rfl rfl fun _ F26 => ?_)
         rcases Decidable.em (byteAt key k ≥ 48) with h27 | h27
         · rw [decide_eq_true h27] at F26
           refine l_op (f_mv F26 (wanted_g F26 rfl rfl rfl rfl) rfl rfl rfl rfl fun _ F28 => ?_)
           refine l_op (f_val F28 (wanted_g F28 rfl rfl rfl rfl) rfl (r_cmp (b := decide (byteAt key k ≤ 57)) (.inr (.inr (.inr (.inl rfl)))) rfl (F28.ev 24 rfl) rfl (dec_of (by omega))) rfl fun _ F29 => ?_)
           refine l_op (f_val F29 (wanted_g F29 rfl rfl rfl rfl) rfl (r_pick (b := true) rfl (F29.ev 23 rfl) (F29.ev 25 rfl)) rfl fun _ F30 => ?_)
           refine l_op (f_val F30 (wanted_g F30 rfl rfl rfl rfl) rfl (r_notD rfl (F30.ev 26 rfl)) rfl fun _ F31 => ?_)
           refine l_op (f_val F31 rfl rfl (r_pick (b := true) rfl (F31.ev 20 rfl) (F31.ev 27 rfl)) rfl fun _ F32 => ?_)
           refine l_op (f_mv F32 rfl rfl rfl rfl rfl fun _ F33 => ?_)
           rcases Decidable.em (¬ (byteAt key k ≤ 57)) with h34 | h34
           · rw [decide_eq_true h34] at F33
             refine l_op (f_mv F33 (wanted_g F33 rfl rfl rfl rfl) rfl rfl rfl rfl fun _ F35 => ?_)
             refine l_op (f_val F35 (wanted_g F35 rfl rfl rfl rfl) rfl (r_cmp (b := decide (byteAt key k ≠ 46)) (.inr (.inl rfl)) rfl (F35.ev 30 rfl) rfl (dec_of (by omega))) rfl fun _ F36 => ?_)
             refine l_op (f_val F36 rfl rfl (r_pick (b := true) rfl (F36.ev 29 rfl) (F36.ev 31 rfl)) rfl fun _ F37 => ?_)
             refine l_op (f_mv F37 rfl rfl rfl rfl rfl fun _ F38 => ?_)
             rcases Decidable.em (byteAt key k ≠ 46) with h39 | h39
             · rw [decide_eq_true h39] at F38
               refine l_op (f_mv F38 (wanted_g F38 rfl rfl rfl rfl) rfl rfl rfl rfl fun _ F40 => ?_)
               refine l_op (f_val F40 (wanted_g F40 rfl rfl rfl rfl) rfl (r_cmp (b := decide (byteAt key k ≠ 45)) (.inr (.inl rfl)) rfl (F40.ev 34 rfl) rfl (dec_of (by omega))) rfl fun _ F41 => ?_)
               refine l_op (f_val F41 rfl rfl (r_pick (b := true) rfl (F41.ev 33 rfl) (F41.ev 35 rfl)) rfl fun _ F42 => ?_)
               refine s_end (x_normal (x_cond (p := byteAt key k ≠ 45) (F42.ev 36 rfl) (fun h43 => ?_) (fun h43 => ?_)))
               · skip
                 refine wp_seq (wp_region_lit (l_op (f_val F42 rfl rfl (r_assign rfl rfl) rfl fun _ F44 => ?_)))
                 refine s_end (x_normal (wp_ret (x_block_ret (x_then_ret (x_then_ret (x_block_ret (x_then_ret ?_)))))))
                 refine x_done (v := .bool false) F44 (results_1 Tryz.results89 (.tmp (F44.ev 2 rfl))) ?_
                 exact ⟨(by rw [(show false = (nameOk key) from by first | exact (nameOk_bad (j := k) (by omega) (by unfold nb; exact decide_eq_false (by omega))).symm | exact (nameOk_all (fun j hj => hk_1 j (by omega))).symm)]), (Mv.pick S5 [] rfl)⟩
               · skip
                 refine wp_skip (x_block_normal (x_normal (wp_region_lit (l_op (f_val F42 rfl rfl (r_add (z := ((k + 1 : Nat) : Int)) rfl (F42.ev 7 rfl) rfl (by first | rfl | omega) ⟨by first | omega | (unfold i64ok at *; omega), by first | omega | (unfold i64ok at *; omega)⟩) rfl fun _ F45 => ?_)))))
                 refine l_op (f_mv F45 rfl rfl rfl rfl rfl fun _ F46 => ?_)
                 refine s_end ?_
                 refine x_normal ⟨k + 1, by omega, F46.cut rfl, (S5.pick [] rfl), by omega, all_step hk_1 (by unfold nb; exact decide_eq_true (by omega))⟩
             · rw [decide_eq_false h39] at F38
               refine l_op (f_skip F38 (wanted_g F38 rfl rfl rfl rfl) rfl rfl fun _ F47 => ?_)
               refine l_op (f_skip F47 (wanted_g F47 rfl rfl rfl rfl) rfl rfl fun _ F48 => ?_)
               refine l_op (f_val F48 rfl rfl (r_pick (b := false) rfl (F48.ev 33 rfl) rfl) rfl fun _ F49 => ?_)
               refine s_end (x_normal (wp_cond_false (F49.ev 36 rfl) (wp_skip (x_block_normal (x_normal (wp_region_lit (l_op (f_val F49 rfl rfl (r_add (z := ((k + 1 : Nat) : Int)) rfl (F49.ev 7 rfl) rfl (by first | rfl | omega) ⟨by first | omega | (unfold i64ok at *; omega), by first | omega | (unfold i64ok at *; omega)⟩) rfl fun _ F50 => ?_))))))))
               refine l_op (f_mv F50 rfl rfl rfl rfl rfl fun _ F51 => ?_)
               refine s_end ?_
               refine x_normal ⟨k + 1, by omega, F51.cut rfl, (S5.pick [] rfl), by omega, all_step hk_1 (by unfold nb; exact decide_eq_true (by omega))⟩
           · rw [decide_eq_false h34] at F33
             refine l_op (f_skip F33 (wanted_g F33 rfl rfl rfl rfl) rfl rfl fun _ F52 => ?_)
             refine l_op (f_skip F52 (wanted_g F52 rfl rfl rfl rfl) rfl rfl fun _ F53 => ?_)
             refine l_op (f_val F53 rfl rfl (r_pick (b := false) rfl (F53.ev 29 rfl) rfl) rfl fun _ F54 => ?_)
             refine l_op (f_mv F54 rfl rfl rfl rfl rfl fun _ F55 => ?_)
             refine l_op (f_skip F55 (wanted_g F55 rfl rfl rfl rfl) rfl rfl fun _ F56 => ?_)
             refine l_op (f_skip F56 (wanted_g F56 rfl rfl rfl rfl) rfl rfl fun _ F57 => ?_)
             refine l_op (f_val F57 rfl rfl (r_pick (b := false) rfl (F57.ev 33 rfl) rfl) rfl fun _ F58 => ?_)
             refine s_end (x_normal (wp_cond_false (F58.ev 36 rfl) (wp_skip (x_block_normal (x_normal (wp_region_lit (l_op (f_val F58 rfl rfl (r_add (z := ((k + 1 : Nat) : Int)) rfl (F58.ev 7 rfl) rfl (by first | rfl | omega) ⟨by first | omega | (unfold i64ok at *; omega), by first | omega | (unfold i64ok at *; omega)⟩) rfl fun _ F59 => ?_))))))))
             refine l_op (f_mv F59 rfl rfl rfl rfl rfl fun _ F60 => ?_)
             refine s_end ?_
             refine x_normal ⟨k + 1, by omega, F60.cut rfl, (S5.pick [] rfl), by omega, all_step hk_1 (by unfold nb; exact decide_eq_true (by omega))⟩
         · rw [decide_eq_false h27] at F26
           refine l_op (f_skip F26 (wanted_g F26 rfl rfl rfl rfl) rfl rfl fun _ F61 => ?_)
           refine l_op (f_skip F61 (wanted_g F61 rfl rfl rfl rfl) rfl rfl fun _ F62 => ?_)
           refine l_op (f_val F62 (wanted_g F62 rfl rfl rfl rfl) rfl (r_pick (b := false) rfl (F62.ev 23 rfl) rfl) rfl fun _ F63 => ?_)
           refine l_op (f_val F63 (wanted_g F63 rfl rfl rfl rfl) rfl (r_not rfl (F63.ev 26 rfl)) rfl fun _ F64 => ?_)
           refine l_op (f_val F64 rfl rfl (r_pick (b := true) rfl (F64.ev 20 rfl) (F64.ev 27 rfl)) rfl fun _ F65 => ?_)
           refine l_op (f_mv F65 rfl rfl rfl rfl rfl fun _ F66 => ?_)
           refine l_op (f_mv F66 (wanted_g F66 rfl rfl rfl rfl) rfl rfl rfl rfl fun _ F67 => ?_)
           refine l_op (f_val F67 (wanted_g F67 rfl rfl rfl rfl) rfl (r_cmp (b := decide (byteAt key k ≠ 46)) (.inr (.inl rfl)) rfl (F67.ev 30 rfl) rfl (dec_of (by omega))) rfl fun _ F68 => ?_)
           refine l_op (f_val F68 rfl rfl (r_pick (b := true) rfl (F68.ev 29 rfl) (F68.ev 31 rfl)) rfl fun _ F69 => ?_)
           refine l_op (f_mv F69 rfl rfl rfl rfl rfl fun _ F70 => ?_)
           rcases Decidable.em (byteAt key k ≠ 46) with h71 | h71
           · rw [decide_eq_true h71] at F70
             refine l_op (f_mv F70 (wanted_g F70 rfl rfl rfl rfl) rfl rfl rfl rfl fun _ F72 => ?_)
             refine l_op (f_val F72 (wanted_g F72 rfl rfl rfl rfl) rfl (r_cmp (b := decide (byteAt key k ≠ 45)) (.inr (.inl rfl)) rfl (F72.ev 34 rfl) rfl (dec_of (by omega))) rfl fun _ F73 => ?_)
             refine l_op (f_val F73 rfl rfl (r_pick (b := true) rfl (F73.ev 33 rfl) (F73.ev 35 rfl)) rfl fun _ F74 => ?_)
             refine s_end (x_normal (x_cond (p := byteAt key k ≠ 45) (F74.ev 36 rfl) (fun h75 => ?_) (fun h75 => ?_)))
             · skip
               refine wp_seq (wp_region_lit (l_op (f_val F74 rfl rfl (r_assign rfl rfl) rfl fun _ F76 => ?_)))
               refine s_end (x_normal (wp_ret (x_block_ret (x_then_ret (x_then_ret (x_block_ret (x_then_ret ?_)))))))
               refine x_done (v := .bool false) F76 (results_1 Tryz.results89 (.tmp (F76.ev 2 rfl))) ?_
               exact ⟨(by rw [(show false = (nameOk key) from by first | exact (nameOk_bad (j := k) (by omega) (by unfold nb; exact decide_eq_false (by omega))).symm | exact (nameOk_all (fun j hj => hk_1 j (by omega))).symm)]), (Mv.pick S5 [] rfl)⟩
             · skip
               refine wp_skip (x_block_normal (x_normal (wp_region_lit (l_op (f_val F74 rfl rfl (r_add (z := ((k + 1 : Nat) : Int)) rfl (F74.ev 7 rfl) rfl (by first | rfl | omega) ⟨by first | omega | (unfold i64ok at *; omega), by first | omega | (unfold i64ok at *; omega)⟩) rfl fun _ F77 => ?_)))))
               refine l_op (f_mv F77 rfl rfl rfl rfl rfl fun _ F78 => ?_)
               refine s_end ?_
               refine x_normal ⟨k + 1, by omega, F78.cut rfl, (S5.pick [] rfl), by omega, all_step hk_1 (by unfold nb; exact decide_eq_true (by omega))⟩
           · rw [decide_eq_false h71] at F70
             refine l_op (f_skip F70 (wanted_g F70 rfl rfl rfl rfl) rfl rfl fun _ F79 => ?_)
             refine l_op (f_skip F79 (wanted_g F79 rfl rfl rfl rfl) rfl rfl fun _ F80 => ?_)
             refine l_op (f_val F80 rfl rfl (r_pick (b := false) rfl (F80.ev 33 rfl) rfl) rfl fun _ F81 => ?_)
             refine s_end (x_normal (wp_cond_false (F81.ev 36 rfl) (wp_skip (x_block_normal (x_normal (wp_region_lit (l_op (f_val F81 rfl rfl (r_add (z := ((k + 1 : Nat) : Int)) rfl (F81.ev 7 rfl) rfl (by first | rfl | omega) ⟨by first | omega | (unfold i64ok at *; omega), by first | omega | (unfold i64ok at *; omega)⟩) rfl fun _ F82 => ?_))))))))
             refine l_op (f_mv F82 rfl rfl rfl rfl rfl fun _ F83 => ?_)
             refine s_end ?_
             refine x_normal ⟨k + 1, by omega, F83.cut rfl, (S5.pick [] rfl), by omega, all_step hk_1 (by unfold nb; exact decide_eq_true (by omega))⟩
       · rw [decide_eq_false h23] at F22
         refine l_op (f_skip F22 (wanted_g F22 rfl rfl rfl rfl) rfl rfl fun _ F84 => ?_)
         refine l_op (f_skip F84 (wanted_g F84 rfl rfl rfl rfl) rfl rfl fun _ F85 => ?_)
         refine l_op (f_skip F85 (wanted_g F85 rfl rfl rfl rfl) rfl rfl fun _ F86 => ?_)
         refine l_op (f_skip F86 (wanted_u F86 rfl rfl rfl) rfl rfl fun _ F87 => ?_)
         refine l_op (f_skip F87 (wanted_u F87 rfl rfl rfl) rfl rfl fun _ F88 => ?_)
         refine l_op (f_skip F88 (wanted_g F88 rfl rfl rfl rfl) rfl rfl fun _ F89 => ?_)
         refine l_op (f_skip F89 (wanted_g F89 rfl rfl rfl rfl) rfl rfl fun _ F90 => ?_)
         refine l_op (f_val F90 rfl rfl (r_pick (b := false) rfl (F90.ev 20 rfl) rfl) rfl fun _ F91 => ?_)
         refine l_op (f_mv F91 rfl rfl rfl rfl rfl fun _ F92 => ?_)
         refine l_op (f_skip F92 (wanted_g F92 rfl rfl rfl rfl) rfl rfl fun _ F93 => ?_)
         refine l_op (f_skip F93 (wanted_g F93 rfl rfl rfl rfl) rfl rfl fun _ F94 => ?_)
         refine l_op (f_val F94 rfl rfl (r_pick (b := false) rfl (F94.ev 29 rfl) rfl) rfl fun _ F95 => ?_)
         refine l_op (f_mv F95 rfl rfl rfl rfl rfl fun _ F96 => ?_)
         refine l_op (f_skip F96 (wanted_g F96 rfl rfl rfl rfl) rfl rfl fun _ F97 => ?_)
         refine l_op (f_skip F97 (wanted_g F97 rfl rfl rfl rfl) rfl rfl fun _ F98 => ?_)
         refine l_op (f_val F98 rfl rfl (r_pick (b := false) rfl (F98.ev 33 rfl) rfl) rfl fun _ F99 => ?_)
         refine s_end (x_normal (wp_cond_false (F99.ev 36 rfl) (wp_skip (x_block_normal (x_normal (wp_region_lit (l_op (f_val F99 rfl rfl (r_add (z := ((k + 1 : Nat) : Int)) rfl (F99.ev 7 rfl) rfl (by first | rfl | omega) ⟨by first | omega | (unfold i64ok at *; omega), by first | omega | (unfold i64ok at *; omega)⟩) rfl fun _ F100 => ?_))))))))
         refine l_op (f_mv F100 rfl rfl rfl rfl rfl fun _ F101 => ?_)
         refine s_end ?_
         refine x_normal ⟨k + 1, by omega, F101.cut rfl, (S5.pick [] rfl), by omega, all_step hk_1 (by unfold nb; exact decide_eq_true (by omega))⟩
     · rw [decide_eq_false h17] at F16
       refine l_op (f_skip F16 (wanted_g F16 rfl rfl rfl rfl) rfl rfl fun _ F102 => ?_)
       refine l_op (f_skip F102 (wanted_g F102 rfl rfl rfl rfl) rfl rfl fun _ F103 => ?_)
       refine l_op (f_val F103 rfl rfl (r_pick (b := false) rfl (F103.ev 15 rfl) rfl) rfl fun _ F104 => ?_)
       refine l_op (f_val F104 rfl rfl (r_not rfl (F104.ev 18 rfl)) rfl fun _ F105 => ?_)
       refine l_op (f_mv F105 rfl rfl rfl rfl rfl fun _ F106 => ?_)
       refine l_op (f_mv F106 (wanted_g F106 rfl rfl rfl rfl) rfl rfl rfl rfl fun _ F107 => ?_)
       refine l_op (f_val F107 (wanted_g F107 rfl rfl rfl rfl) rfl (r_cmp (b := decide (byteAt key k ≥ 48)) (.inr (.inr (.inr (.inr (.inr rfl))))) rfl (F107.ev 21 rfl) rfl (dec_of (by omega))) rfl fun _ F108 => ?_)
       refine l_op (f_mv F108 (wanted_g F108 rfl rfl rfl rfl) rfl rfl rfl rfl fun _ F109 => ?_)
       rcases Decidable.em (byteAt key k ≥ 48) with h110 | h110
       · rw [decide_eq_true h110] at F109
         refine l_op (f_mv F109 (wanted_g F109 rfl rfl rfl rfl) rfl rfl rfl rfl fun _ F111 => ?_)
         refine l_op (f_val F111 (wanted_g F111 rfl rfl rfl rfl) rfl (r_cmp (b := decide (byteAt key k ≤ 57)) (.inr (.inr (.inr (.inl rfl)))) rfl (F111.ev 24 rfl) rfl (dec_of (by omega))) rfl fun _ F112 => ?_)
         refine l_op (f_val F112 (wanted_g F112 rfl rfl rfl rfl) rfl (r_pick (b := true) rfl (F112.ev 23 rfl) (F112.ev 25 rfl)) rfl fun _ F113 => ?_)
         refine l_op (f_val F113 (wanted_g F113 rfl rfl rfl rfl) rfl (r_notD rfl (F113.ev 26 rfl)) rfl fun _ F114 => ?_)
         refine l_op (f_val F114 rfl rfl (r_pick (b := true) rfl (F114.ev 20 rfl) (F114.ev 27 rfl)) rfl fun _ F115 => ?_)
         refine l_op (f_mv F115 rfl rfl rfl rfl rfl fun _ F116 => ?_)
         rcases Decidable.em (¬ (byteAt key k ≤ 57)) with h117 | h117
         · rw [decide_eq_true h117] at F116
           refine l_op (f_mv F116 (wanted_g F116 rfl rfl rfl rfl) rfl rfl rfl rfl fun _ F118 => ?_)
           refine l_op (f_val F118 (wanted_g F118 rfl rfl rfl rfl) rfl (r_cmp (b := decide (byteAt key k ≠ 46)) (.inr (.inl rfl)) rfl (F118.ev 30 rfl) rfl (dec_of (by omega))) rfl fun _ F119 => ?_)
           refine l_op (f_val F119 rfl rfl (r_pick (b := true) rfl (F119.ev 29 rfl) (F119.ev 31 rfl)) rfl fun _ F120 => ?_)
           refine l_op (f_mv F120 rfl rfl rfl rfl rfl fun _ F121 => ?_)
           rcases Decidable.em (byteAt key k ≠ 46) with h122 | h122
           · rw [decide_eq_true h122] at F121
             refine l_op (f_mv F121 (wanted_g F121 rfl rfl rfl rfl) rfl rfl rfl rfl fun _ F123 => ?_)
             refine l_op (f_val F123 (wanted_g F123 rfl rfl rfl rfl) rfl (r_cmp (b := decide (byteAt key k ≠ 45)) (.inr (.inl rfl)) rfl (F123.ev 34 rfl) rfl (dec_of (by omega))) rfl fun _ F124 => ?_)
             refine l_op (f_val F124 rfl rfl (r_pick (b := true) rfl (F124.ev 33 rfl) (F124.ev 35 rfl)) rfl fun _ F125 => ?_)
             refine s_end (x_normal (x_cond (p := byteAt key k ≠ 45) (F125.ev 36 rfl) (fun h126 => ?_) (fun h126 => ?_)))
             · skip
               refine wp_seq (wp_region_lit (l_op (f_val F125 rfl rfl (r_assign rfl rfl) rfl fun _ F127 => ?_)))
               refine s_end (x_normal (wp_ret (x_block_ret (x_then_ret (x_then_ret (x_block_ret (x_then_ret ?_)))))))
               refine x_done (v := .bool false) F127 (results_1 Tryz.results89 (.tmp (F127.ev 2 rfl))) ?_
               exact ⟨(by rw [(show false = (nameOk key) from by first | exact (nameOk_bad (j := k) (by omega) (by unfold nb; exact decide_eq_false (by omega))).symm | exact (nameOk_all (fun j hj => hk_1 j (by omega))).symm)]), (Mv.pick S5 [] rfl)⟩
             · skip
               refine wp_skip (x_block_normal (x_normal (wp_region_lit (l_op (f_val F125 rfl rfl (r_add (z := ((k + 1 : Nat) : Int)) rfl (F125.ev 7 rfl) rfl (by first | rfl | omega) ⟨by first | omega | (unfold i64ok at *; omega), by first | omega | (unfold i64ok at *; omega)⟩) rfl fun _ F128 => ?_)))))
               refine l_op (f_mv F128 rfl rfl rfl rfl rfl fun _ F129 => ?_)
               refine s_end ?_
               refine x_normal ⟨k + 1, by omega, F129.cut rfl, (S5.pick [] rfl), by omega, all_step hk_1 (by unfold nb; exact decide_eq_true (by omega))⟩
           · rw [decide_eq_false h122] at F121
             refine l_op (f_skip F121 (wanted_g F121 rfl rfl rfl rfl) rfl rfl fun _ F130 => ?_)
             refine l_op (f_skip F130 (wanted_g F130 rfl rfl rfl rfl) rfl rfl fun _ F131 => ?_)
             refine l_op (f_val F131 rfl rfl (r_pick (b := false) rfl (F131.ev 33 rfl) rfl) rfl fun _ F132 => ?_)
             refine s_end (x_normal (wp_cond_false (F132.ev 36 rfl) (wp_skip (x_block_normal (x_normal (wp_region_lit (l_op (f_val F132 rfl rfl (r_add (z := ((k + 1 : Nat) : Int)) rfl (F132.ev 7 rfl) rfl (by first | rfl | omega) ⟨by first | omega | (unfold i64ok at *; omega), by first | omega | (unfold i64ok at *; omega)⟩) rfl fun _ F133 => ?_))))))))
             refine l_op (f_mv F133 rfl rfl rfl rfl rfl fun _ F134 => ?_)
             refine s_end ?_
             refine x_normal ⟨k + 1, by omega, F134.cut rfl, (S5.pick [] rfl), by omega, all_step hk_1 (by unfold nb; exact decide_eq_true (by omega))⟩
         · rw [decide_eq_false h117] at F116
           refine l_op (f_skip F116 (wanted_g F116 rfl rfl rfl rfl) rfl rfl fun _ F135 => ?_)
           refine l_op (f_skip F135 (wanted_g F135 rfl rfl rfl rfl) rfl rfl fun _ F136 => ?_)
           refine l_op (f_val F136 rfl rfl (r_pick (b := false) rfl (F136.ev 29 rfl) rfl) rfl fun _ F137 => ?_)
           refine l_op (f_mv F137 rfl rfl rfl rfl rfl fun _ F138 => ?_)
           refine l_op (f_skip F138 (wanted_g F138 rfl rfl rfl rfl) rfl rfl fun _ F139 => ?_)
           refine l_op (f_skip F139 (wanted_g F139 rfl rfl rfl rfl) rfl rfl fun _ F140 => ?_)
           refine l_op (f_val F140 rfl rfl (r_pick (b := false) rfl (F140.ev 33 rfl) rfl) rfl fun _ F141 => ?_)
           refine s_end (x_normal (wp_cond_false (F141.ev 36 rfl) (wp_skip (x_block_normal (x_normal (wp_region_lit (l_op (f_val F141 rfl rfl (r_add (z := ((k + 1 : Nat) : Int)) rfl (F141.ev 7 rfl) rfl (by first | rfl | omega) ⟨by first | omega | (unfold i64ok at *; omega), by first | omega | (unfold i64ok at *; omega)⟩) rfl fun _ F142 => ?_))))))))
           refine l_op (f_mv F142 rfl rfl rfl rfl rfl fun _ F143 => ?_)
           refine s_end ?_
           refine x_normal ⟨k + 1, by omega, F143.cut rfl, (S5.pick [] rfl), by omega, all_step hk_1 (by unfold nb; exact decide_eq_true (by omega))⟩
       · rw [decide_eq_false h110] at F109
         refine l_op (f_skip F109 (wanted_g F109 rfl rfl rfl rfl) rfl rfl fun _ F144 => ?_)
         refine l_op (f_skip F144 (wanted_g F144 rfl rfl rfl rfl) rfl rfl fun _ F145 => ?_)
         refine l_op (f_val F145 (wanted_g F145 rfl rfl rfl rfl) rfl (r_pick (b := false) rfl (F145.ev 23 rfl) rfl) rfl fun _ F146 => ?_)
         refine l_op (f_val F146 (wanted_g F146 rfl rfl rfl rfl) rfl (r_not rfl (F146.ev 26 rfl)) rfl fun _ F147 => ?_)
         refine l_op (f_val F147 rfl rfl (r_pick (b := true) rfl (F147.ev 20 rfl) (F147.ev 27 rfl)) rfl fun _ F148 => ?_)
         refine l_op (f_mv F148 rfl rfl rfl rfl rfl fun _ F149 => ?_)
         refine l_op (f_mv F149 (wanted_g F149 rfl rfl rfl rfl) rfl rfl rfl rfl fun _ F150 => ?_)
         refine l_op (f_val F150 (wanted_g F150 rfl rfl rfl rfl) rfl (r_cmp (b := decide (byteAt key k ≠ 46)) (.inr (.inl rfl)) rfl (F150.ev 30 rfl) rfl (dec_of (by omega))) rfl fun _ F151 => ?_)
         refine l_op (f_val F151 rfl rfl (r_pick (b := true) rfl (F151.ev 29 rfl) (F151.ev 31 rfl)) rfl fun _ F152 => ?_)
         refine l_op (f_mv F152 rfl rfl rfl rfl rfl fun _ F153 => ?_)
         rcases Decidable.em (byteAt key k ≠ 46) with h154 | h154
         · rw [decide_eq_true h154] at F153
           refine l_op (f_mv F153 (wanted_g F153 rfl rfl rfl rfl) rfl rfl rfl rfl fun _ F155 => ?_)
           refine l_op (f_val F155 (wanted_g F155 rfl rfl rfl rfl) rfl (r_cmp (b := decide (byteAt key k ≠ 45)) (.inr (.inl rfl)) rfl (F155.ev 34 rfl) rfl (dec_of (by omega))) rfl fun _ F156 => ?_)
           refine l_op (f_val F156 rfl rfl (r_pick (b := true) rfl (F156.ev 33 rfl) (F156.ev 35 rfl)) rfl fun _ F157 => ?_)
           refine s_end (x_normal (x_cond (p := byteAt key k ≠ 45) (F157.ev 36 rfl) (fun h158 => ?_) (fun h158 => ?_)))
           · skip
             refine wp_seq (wp_region_lit (l_op (f_val F157 rfl rfl (r_assign rfl rfl) rfl fun _ F159 => ?_)))
             refine s_end (x_normal (wp_ret (x_block_ret (x_then_ret (x_then_ret (x_block_ret (x_then_ret ?_)))))))
             refine x_done (v := .bool false) F159 (results_1 Tryz.results89 (.tmp (F159.ev 2 rfl))) ?_
             exact ⟨(by rw [(show false = (nameOk key) from by first | exact (nameOk_bad (j := k) (by omega) (by unfold nb; exact decide_eq_false (by omega))).symm | exact (nameOk_all (fun j hj => hk_1 j (by omega))).symm)]), (Mv.pick S5 [] rfl)⟩
           · skip
             refine wp_skip (x_block_normal (x_normal (wp_region_lit (l_op (f_val F157 rfl rfl (r_add (z := ((k + 1 : Nat) : Int)) rfl (F157.ev 7 rfl) rfl (by first | rfl | omega) ⟨by first | omega | (unfold i64ok at *; omega), by first | omega | (unfold i64ok at *; omega)⟩) rfl fun _ F160 => ?_)))))
             refine l_op (f_mv F160 rfl rfl rfl rfl rfl fun _ F161 => ?_)
             refine s_end ?_
             refine x_normal ⟨k + 1, by omega, F161.cut rfl, (S5.pick [] rfl), by omega, all_step hk_1 (by unfold nb; exact decide_eq_true (by omega))⟩
         · rw [decide_eq_false h154] at F153
           refine l_op (f_skip F153 (wanted_g F153 rfl rfl rfl rfl) rfl rfl fun _ F162 => ?_)
           refine l_op (f_skip F162 (wanted_g F162 rfl rfl rfl rfl) rfl rfl fun _ F163 => ?_)
           refine l_op (f_val F163 rfl rfl (r_pick (b := false) rfl (F163.ev 33 rfl) rfl) rfl fun _ F164 => ?_)
           refine s_end (x_normal (wp_cond_false (F164.ev 36 rfl) (wp_skip (x_block_normal (x_normal (wp_region_lit (l_op (f_val F164 rfl rfl (r_add (z := ((k + 1 : Nat) : Int)) rfl (F164.ev 7 rfl) rfl (by first | rfl | omega) ⟨by first | omega | (unfold i64ok at *; omega), by first | omega | (unfold i64ok at *; omega)⟩) rfl fun _ F165 => ?_))))))))
           refine l_op (f_mv F165 rfl rfl rfl rfl rfl fun _ F166 => ?_)
           refine s_end ?_
           refine x_normal ⟨k + 1, by omega, F166.cut rfl, (S5.pick [] rfl), by omega, all_step hk_1 (by unfold nb; exact decide_eq_true (by omega))⟩
   · skip
     refine wp_exit (x_then_exit (x_then_exit (x_block_here (x_normal (wp_seq (wp_region_lit (l_op (f_mv F6 rfl rfl rfl rfl rfl fun _ F167 => ?_))))))))
     refine l_op (f_val F167 rfl rfl (r_lenS (fun t ht => by cases ht; exact Tryz.underlying9) rfl rfl (F167.ev 38 rfl)) rfl fun _ F168 => ?_)
     refine l_op (f_call F168 CF_72 rfl rfl rfl rfl (lc (F168.ev 39 rfl) (lc rfl (lc rfl rfl))) (impl_within_c (H := fun _ => True) (n := ((key.size : Nat) : Int)) (low := 1) (high := 12) (by first | assumption | exact ⟨by omega, by omega⟩ | (unfold i64ok at *; omega)) (by first | assumption | exact ⟨by omega, by omega⟩ | (unfold i64ok at *; omega)) (by first | assumption | exact ⟨by omega, by omega⟩ | (unfold i64ok at *; omega))) ?_)
     rintro _ w169 ⟨rfl, m169⟩
     refine ⟨_, rfl, fun _ F170 => ?_⟩
     have S169 := At.frame0 S5.at' m169
     clear m169
     refine l_op (f_as F170 rfl rfl rfl rfl rfl fun _ F171 => ?_)
     refine s_end (x_normal (wp_ret ?_))
     refine x_done (v := .bool (inB ((key.size : Nat) : Int) 1 12)) F171 (results_1 Tryz.results89 (.tmp (F171.ev 2 rfl))) ?_
     exact ⟨(by rw [(show (inB ((key.size : Nat) : Int) 1 12) = (nameOk key) from by first | exact (nameOk_bad (j := k) (by omega) (by unfold nb; exact decide_eq_false (by omega))).symm | exact (nameOk_all (fun j hj => hk_1 j (by omega))).symm)]), (Mv.pick (S5.trans S169) [] rfl)⟩
theorem impl_nameKey_c {w : World} {H : Nat → Prop} {name : ByteArray} (Q0 : okS name) (p0 : name.size ≤ 12) :
    Calls Tryz.prog 92 #[.string name] w fun e w' => e = .returned (.string ((⟨#[110, 47]⟩ : ByteArray) ++ name)) ∧ Mv [] w [] w' ∧ okS ((⟨#[110, 47]⟩ : ByteArray) ++ name) := by
 have uU : True := (fun _ _ _ => trivial) H Q0 p0
 clear uU
 refine calls_enter 5 Tryz.func92 rfl Tryz.ntmps92 (Nat.le_of_ble_eq_true rfl) (fun _ F0i => ?_)
 have F0 : Fr 5 [(0, .string name)] _ := F0i
 clear F0i
 refine wp_seq (wp_region_lit (l_op (f_val F0 rfl rfl (r_assign rfl rfl) rfl fun _ F1 => ?_)))
 refine s_end (x_normal (wp_seq (wp_region_lit (l_op (f_mv F1 rfl rfl rfl rfl rfl fun _ F2 => ?_)))))
 have k3 : (⟨#[110, 47]⟩ : ByteArray).size + name.size ≤ 9223372036854775807 := by have e : (⟨#[110, 47]⟩ : ByteArray).size = 2 := rfl; omega
 refine l_op (f_val F2 rfl rfl (r_cat rfl rfl (F2.ev 3 rfl) k3) rfl fun _ F4 => ?_)
 refine l_op (f_as F4 rfl rfl rfl rfl rfl fun _ F5 => ?_)
 refine s_end (x_normal (wp_ret ?_))
 refine x_done (v := .string ((⟨#[110, 47]⟩ : ByteArray) ++ name)) F5 (results_1 Tryz.results92 (.tmp (F5.ev 2 rfl))) ?_
 exact ⟨rfl, (Mv.pick (Mv.refl (At.nil w)) [] rfl), (okS_cat k3)⟩
theorem impl_Mach_fileOf_c {w : World} {H : Nat → Prop} {m : MachD} {m_Sa : Option Addr} {m_Sn m_Sc : Nat} {m_Ra : Option Addr} {m_Rn m_Rc : Nat} {m_Wa : Option Addr} {m_Wn m_Wc : Nat} {m_b : Nat} {name : ByteArray} (Q9 : okS name) (tab0 : Tb 0 H w) (tab1 : Tb 1 H w) (p0 : bdC 34359738368 m) (hA : At w [bx m_b [.slice m_Sa m_Sn m_Sc, .slice m_Ra m_Rn m_Rc, .slice m_Wa m_Wn m_Wc] 29, ow 73 2 encC okC (.slice m_Sa m_Sn m_Sc) m.store, ow 9 1 encS okS (.slice m_Ra m_Rn m_Rc) m.touch.reads, ow 9 1 encS okS (.slice m_Wa m_Wn m_Wc) m.touch.writes]) (hD : ∀ b, H b → ¬ fps [bx m_b [.slice m_Sa m_Sn m_Sc, .slice m_Ra m_Rn m_Rc, .slice m_Wa m_Wn m_Wc] 29, ow 73 2 encC okC (.slice m_Sa m_Sn m_Sc) m.store, ow 9 1 encS okS (.slice m_Ra m_Rn m_Rc) m.touch.reads, ow 9 1 encS okS (.slice m_Wa m_Wn m_Wc) m.touch.writes] b) :
    Calls Tryz.prog 61 #[.pointer (some ⟨m_b, 0, none⟩), .string name] w fun e w' => ∃ (Q13 : Option Addr), ∃ (Q15 : Nat), ∃ (Q14 : Nat), ∃ (Q10 : Option Addr), ∃ (Q12 : Nat), ∃ (Q11 : Nat), ∃ (Q16 : Option Addr), ∃ (Q18 : Nat), ∃ (Q17 : Nat), e = .returned (.int .i64 ((fo m name : Nat) : Int)) ∧ Mv [bx m_b [.slice m_Sa m_Sn m_Sc, .slice m_Ra m_Rn m_Rc, .slice m_Wa m_Wn m_Wc] 29, ow 73 2 encC okC (.slice m_Sa m_Sn m_Sc) m.store, ow 9 1 encS okS (.slice m_Ra m_Rn m_Rc) m.touch.reads, ow 9 1 encS okS (.slice m_Wa m_Wn m_Wc) m.touch.writes] w [bx m_b [.slice Q13 Q15 Q14, .slice Q10 Q12 Q11, .slice Q16 Q18 Q17] 29, ow 73 2 encC okC (.slice Q13 Q15 Q14) (foM m name).store, ow 9 1 encS okS (.slice Q10 Q12 Q11) (foM m name).touch.reads, ow 9 1 encS okS (.slice Q16 Q18 Q17) (foM m name).touch.writes] w' := by
 have uU : True := (fun _ => trivial) p0
 clear uU
 have V_tab0 : Tb 0 (V H w [bx m_b [.slice m_Sa m_Sn m_Sc, .slice m_Ra m_Rn m_Rc, .slice m_Wa m_Wn m_Wc] 29, ow 73 2 encC okC (.slice m_Sa m_Sn m_Sc) m.store, ow 9 1 encS okS (.slice m_Ra m_Rn m_Rc) m.touch.reads, ow 9 1 encS okS (.slice m_Wa m_Wn m_Wc) m.touch.writes]) w := Tb.start tab0 hD
 have V_tab1 : Tb 1 (V H w [bx m_b [.slice m_Sa m_Sn m_Sc, .slice m_Ra m_Rn m_Rc, .slice m_Wa m_Wn m_Wc] 29, ow 73 2 encC okC (.slice m_Sa m_Sn m_Sc) m.store, ow 9 1 encS okS (.slice m_Ra m_Rn m_Rc) m.touch.reads, ow 9 1 encS okS (.slice m_Wa m_Wn m_Wc) m.touch.writes]) w := Tb.start tab1 hD
 obtain ⟨lo1, lp1, lq1⟩ := At.ownInv hA ET_24.hk 1 rfl
 obtain ⟨lo2, lp2, lq2⟩ := At.ownInv hA ET_25.hk 2 rfl
 obtain ⟨lo3, lp3, lq3⟩ := At.ownInv hA ET_25.hk 3 rfl
 refine calls_enter 12 Tryz.func61 rfl Tryz.ntmps61 (Nat.le_of_ble_eq_true rfl) (fun _ F0i => ?_)
 have F0 : Fr 12 [(0, .pointer (some ⟨m_b, 0, none⟩)), (1, .string name)] _ := F0i
 clear F0i
 refine wp_seq (wp_region_lit (l_op (f_val F0 rfl rfl (r_assign rfl rfl) rfl fun _ F1 => ?_)))
 refine s_end (x_normal (wp_seq (wp_seq (wp_region_lit (l_op (f_mv F1 rfl rfl rfl rfl rfl fun _ F2 => ?_))))))
 refine l_op (f_call F2 CF_89 rfl rfl rfl rfl (lc (F2.ev 5 rfl) rfl) (impl_NameOk_c (H := fun _ => True) (key := name) Q9) ?_)
 rintro _ w3 ⟨rfl, m3⟩
 refine ⟨_, rfl, fun _ F4 => ?_⟩
 have S3 := At.frame0 hA m3
 clear m3
 refine l_op (f_val F4 rfl rfl (r_not rfl (F4.ev 6 rfl)) rfl fun _ F5 => ?_)
 refine s_end (x_normal (x_condb (b := (!(nameOk name))) (F5.ev 7 rfl) (fun h6 => ?_) (fun h6 => ?_)))
 · skip
   refine wp_seq (wp_region_lit (l_op (f_val F5 rfl rfl (r_assign rfl rfl) rfl fun _ F7 => ?_)))
   refine s_end (x_normal (wp_ret (x_then_ret ?_)))
   refine x_done (v := .int .i64 0) F7 (results_1 Tryz.results61 (.tmp (F7.ev 4 rfl))) ?_
   exact ⟨m_Sa, m_Sn, m_Sc, m_Ra, m_Rn, m_Rc, m_Wa, m_Wn, m_Wc, (by rw [(show 0 = ((fo m name : Nat) : Int) from by first | exact (fo_t (nf ‹_›)).1 | exact (fo_f (nt ‹_›)).1 | (rw [(fo_t (nf ‹_›)).2]) | (rw [(fo_f (nt ‹_›)).2]))]), (Mv.cast (Mv.pick S3 [0, 1, 2, 3] rfl) (by rw [(show m.store = (foM m name).store from by first | exact (fo_t (nf ‹_›)).1 | exact (fo_f (nt ‹_›)).1 | (rw [(fo_t (nf ‹_›)).2]) | (rw [(fo_f (nt ‹_›)).2])), (show m.touch.reads = (foM m name).touch.reads from by first | exact (fo_t (nf ‹_›)).1 | exact (fo_f (nt ‹_›)).1 | (rw [(fo_t (nf ‹_›)).2]) | (rw [(fo_f (nt ‹_›)).2])), (show m.touch.writes = (foM m name).touch.writes from by first | exact (fo_t (nf ‹_›)).1 | exact (fo_f (nt ‹_›)).1 | (rw [(fo_t (nf ‹_›)).2]) | (rw [(fo_f (nt ‹_›)).2]))]; all_goals rfl))⟩
 · skip
   refine wp_skip (x_normal (wp_seq (wp_region_lit (l_op (f_mv F5 rfl rfl rfl rfl rfl fun _ F8 => ?_)))))
   refine l_op (f_mv F8 rfl rfl rfl rfl rfl fun _ F9 => ?_)
   refine l_op (f_call F9 CF_92 rfl rfl rfl rfl (lc (F9.ev 9 rfl) rfl) (impl_nameKey_c (H := fun _ => True) (name := name) Q9 (by exact nameOk_size (nf ‹_›))) ?_)
   rintro _ w10 ⟨rfl, m10, Q19⟩
   refine ⟨_, rfl, fun _ F11 => ?_⟩
   have S10 := At.frame0 S3.at' m10
   clear m10
   refine l_op (f_call F11 CF_62 rfl rfl rfl rfl (lc (F11.ev 8 rfl) (lc (F11.ev 10 rfl) rfl)) (impl_Mach_num_c (m := m) (key := (⟨#[110, 47]⟩ : ByteArray) ++ name) Q19 (Tb.mv V_tab0 (S3.trans S10)) (Tb.mv V_tab1 (S3.trans S10)) (by first | assumption | omega | ((first | apply b1_ | apply b2_ | apply b3_ | skip); (repeat (first | with_reducible apply b4_ | with_reducible apply b5_ | with_reducible apply b6_ | with_reducible refine bdC.fo ?_)); exact bdC.le ‹_› (by first | decide | omega)) | decide | exact Nat.le_trans (keyNum_size _ _ ‹_›) (by decide) | exact Nat.le_trans (keyNum_size _ _ ⟨by omega, by omega⟩) (by decide)) (At.pick (is := [0, 1, 2, 3]) S10.at' rfl) (V_off (is := [0, 1, 2, 3]))) ?_)
   rintro _ w12 ⟨Q3, Q5, Q4, Q0, Q2, Q1, Q6, Q8, Q7, rfl, m12⟩
   refine ⟨_, rfl, fun _ F13 => ?_⟩
   have S12 : Mv _ _ [bx m_b [.slice Q3 Q5 Q4, .slice Q0 Q2 Q1, .slice Q6 Q8 Q7] 29, ow 73 2 encC okC (.slice Q3 Q5 Q4) (lookM m ((⟨#[110, 47]⟩ : ByteArray) ++ name)).store, ow 9 1 encS okS (.slice Q0 Q2 Q1) (lookM m ((⟨#[110, 47]⟩ : ByteArray) ++ name)).touch.reads, ow 9 1 encS okS (.slice Q6 Q8 Q7) (lookM m ((⟨#[110, 47]⟩ : ByteArray) ++ name)).touch.writes] _ := At.frame S10.at' [0, 1, 2, 3] rfl m12
   obtain ⟨Q20, Q23, Q26⟩ := At.ownInv S12.at' ET_24.hk 1 rfl
   obtain ⟨Q21, Q24, Q27⟩ := At.ownInv S12.at' ET_25.hk 2 rfl
   obtain ⟨Q22, Q25, Q28⟩ := At.ownInv S12.at' ET_25.hk 3 rfl
   clear m12
   refine l_op (f_as F13 rfl rfl rfl rfl rfl fun _ F14 => ?_)
   refine s_end (x_normal (wp_ret ?_))
   refine x_done (v := .int .i64 ((numOf (getKey m.store ((⟨#[110, 47]⟩ : ByteArray) ++ name)) : Nat) : Int)) F14 (results_1 Tryz.results61 (.tmp (F14.ev 4 rfl))) ?_
   exact ⟨Q3, Q5, Q4, Q0, Q2, Q1, Q6, Q8, Q7, (by rw [(show ((numOf (getKey m.store ((⟨#[110, 47]⟩ : ByteArray) ++ name)) : Nat) : Int) = ((fo m name : Nat) : Int) from by first | exact (fo_t (nf ‹_›)).1 | exact (fo_f (nt ‹_›)).1 | (rw [(fo_t (nf ‹_›)).2]) | (rw [(fo_f (nt ‹_›)).2]))]), (Mv.cast (Mv.pick (S3.trans (S10.trans S12)) [0, 1, 2, 3] rfl) (by rw [(show (lookM m ((⟨#[110, 47]⟩ : ByteArray) ++ name)).store = (foM m name).store from by first | exact (fo_t (nf ‹_›)).1 | exact (fo_f (nt ‹_›)).1 | (rw [(fo_t (nf ‹_›)).2]) | (rw [(fo_f (nt ‹_›)).2])), (show (lookM m ((⟨#[110, 47]⟩ : ByteArray) ++ name)).touch.reads = (foM m name).touch.reads from by first | exact (fo_t (nf ‹_›)).1 | exact (fo_f (nt ‹_›)).1 | (rw [(fo_t (nf ‹_›)).2]) | (rw [(fo_f (nt ‹_›)).2])), (show (lookM m ((⟨#[110, 47]⟩ : ByteArray) ++ name)).touch.writes = (foM m name).touch.writes from by first | exact (fo_t (nf ‹_›)).1 | exact (fo_f (nt ‹_›)).1 | (rw [(fo_t (nf ‹_›)).2]) | (rw [(fo_f (nt ‹_›)).2]))]; all_goals rfl))⟩
theorem impl_FileOf_c {w : World} {H : Nat → Prop} {m : MachD} {m_Sa : Option Addr} {m_Sn m_Sc : Nat} {m_Ra : Option Addr} {m_Rn m_Rc : Nat} {m_Wa : Option Addr} {m_Wn m_Wc : Nat} {name : ByteArray} (Q27 : Rd 2 encC okC H w (.slice m_Sa m_Sn m_Sc) m.store) (Q28 : Rd 1 encS okS H w (.slice m_Ra m_Rn m_Rc) m.touch.reads) (Q29 : Rd 1 encS okS H w (.slice m_Wa m_Wn m_Wc) m.touch.writes) (Q33 : okS name) (tab0 : Tb 0 H w) (tab1 : Tb 1 H w) (p0 : bdC 17179869184 m) :
    Calls Tryz.prog 29 #[.agg #[.slice m_Sa m_Sn m_Sc, .slice m_Ra m_Rn m_Rc, .slice m_Wa m_Wn m_Wc], .string name] w fun e w' => ∃ (Q21 : Option Addr), ∃ (Q23 : Nat), ∃ (Q22 : Nat), ∃ (Q18 : Option Addr), ∃ (Q20 : Nat), ∃ (Q19 : Nat), ∃ (Q24 : Option Addr), ∃ (Q26 : Nat), ∃ (Q25 : Nat), e = .returned (.tuple #[.agg #[.slice Q21 Q23 Q22, .slice Q18 Q20 Q19, .slice Q24 Q26 Q25], .int .i64 ((fo m name : Nat) : Int)]) ∧ Mv [] w [ow 73 2 encC okC (.slice Q21 Q23 Q22) (foM m name).store, ow 9 1 encS okS (.slice Q18 Q20 Q19) (foM m name).touch.reads, ow 9 1 encS okS (.slice Q24 Q26 Q25) (foM m name).touch.writes] w' := by
 have uU : True := (fun _ => trivial) p0
 clear uU
 have Q30 : Rd 2 encC okC (V H w []) w (.slice m_Sa m_Sn m_Sc) m.store := Rd.start Q27 (fun _ _ => fps_nil _)
 obtain ⟨Q37, Q34, Q58, Q61⟩ := Rd.inv Q27
 have Q31 : Rd 1 encS okS (V H w []) w (.slice m_Ra m_Rn m_Rc) m.touch.reads := Rd.start Q28 (fun _ _ => fps_nil _)
 obtain ⟨Q38, Q35, Q59, Q62⟩ := Rd.inv Q28
 have Q32 : Rd 1 encS okS (V H w []) w (.slice m_Wa m_Wn m_Wc) m.touch.writes := Rd.start Q29 (fun _ _ => fps_nil _)
 obtain ⟨Q39, Q36, Q60, Q63⟩ := Rd.inv Q29
 have V_tab0 : Tb 0 (V H w []) w := Tb.start tab0 (fun _ _ => fps_nil _)
 have V_tab1 : Tb 1 (V H w []) w := Tb.start tab1 (fun _ _ => fps_nil _)
 refine calls_enter 13 Tryz.func29 rfl Tryz.ntmps29 (Nat.le_of_ble_eq_true rfl) (fun _ F0i => ?_)
 have F0 : Fr 13 [(0, .agg #[.slice m_Sa m_Sn m_Sc, .slice m_Ra m_Rn m_Rc, .slice m_Wa m_Wn m_Wc]), (1, .string name)] _ := F0i
 clear F0i
 refine wp_seq (wp_region_lit (l_op (f_box F0 (At.nil w) rfl rfl rfl (F0.ev 0 rfl) rfl rfl fun b1 _ w1 F2 S1 => ?_)))
 refine l_op (f_alloc F2 S1.at' ZI_29 rfl rfl rfl rfl rfl fun b3 _ w3 F4 S3 => ?_)
 refine l_op (f_val F4 rfl rfl (r_assign rfl rfl) rfl fun _ F5 => ?_)
 refine s_end (x_normal (wp_seq (wp_region_lit (l_op (f_val (v := .agg #[.slice m_Sa m_Sn m_Sc, .slice m_Ra m_Rn m_Rc, .slice m_Wa m_Wn m_Wc]) F5 rfl rfl (r_loadB S3.at' 1 TI_29 rfl rfl (F5.ev 2 rfl) rfl rfl (fun h => nomatch h) rfl) rfl fun _ F6 => ?_)))))
 refine l_op (f_call F6 CF_39 rfl rfl rfl rfl (lc (F6.ev 7 rfl) rfl) (impl_Mach_clone_c (m := m) (Rd.mq Q30 (S1.trans S3)) (Rd.mq Q31 (S1.trans S3)) (Rd.mq Q32 (S1.trans S3)) (by first | assumption | omega | ((first | apply b1_ | apply b2_ | apply b3_ | skip); (repeat (first | with_reducible apply b4_ | with_reducible apply b5_ | with_reducible apply b6_ | with_reducible refine bdC.fo ?_)); exact bdC.le ‹_› (by first | decide | omega)) | decide | exact Nat.le_trans (keyNum_size _ _ ‹_›) (by decide) | exact Nat.le_trans (keyNum_size _ _ ⟨by omega, by omega⟩) (by decide)) (by first | assumption | omega | ((first | apply b1_ | apply b2_ | apply b3_ | skip); (repeat (first | with_reducible apply b4_ | with_reducible apply b5_ | with_reducible apply b6_ | with_reducible refine bdC.fo ?_)); exact bdC.le ‹_› (by first | decide | omega)) | decide | exact Nat.le_trans (keyNum_size _ _ ‹_›) (by decide) | exact Nat.le_trans (keyNum_size _ _ ⟨by omega, by omega⟩) (by decide)) (by first | assumption | omega | ((first | apply b1_ | apply b2_ | apply b3_ | skip); (repeat (first | with_reducible apply b4_ | with_reducible apply b5_ | with_reducible apply b6_ | with_reducible refine bdC.fo ?_)); exact bdC.le ‹_› (by first | decide | omega)) | decide | exact Nat.le_trans (keyNum_size _ _ ‹_›) (by decide) | exact Nat.le_trans (keyNum_size _ _ ⟨by omega, by omega⟩) (by decide))) ?_)
 rintro _ w7 ⟨Q12, Q14, Q13, Q9, Q11, Q10, Q15, Q17, Q16, rfl, m7⟩
 refine ⟨_, rfl, fun _ F8 => ?_⟩
 have S7 : Mv _ _ [ow 73 2 encC okC (.slice Q12 Q14 Q13) m.store, ow 9 1 encS okS (.slice Q9 Q11 Q10) m.touch.reads, ow 9 1 encS okS (.slice Q15 Q17 Q16) m.touch.writes, bx b3 [.slice none 0 0, .slice none 0 0, .slice none 0 0] 29, bx b1 [.slice m_Sa m_Sn m_Sc, .slice m_Ra m_Rn m_Rc, .slice m_Wa m_Wn m_Wc] 29] _ := At.frame S3.at' [] rfl m7
 obtain ⟨Q43, Q49, Q55⟩ := At.ownInv S7.at' ET_24.hk 0 rfl
 obtain ⟨Q44, Q50, Q56⟩ := At.ownInv S7.at' ET_25.hk 1 rfl
 obtain ⟨Q45, Q51, Q57⟩ := At.ownInv S7.at' ET_25.hk 2 rfl
 clear m7
 refine l_op (s_store S7.at' 4 TI_29 rfl rfl rfl rfl rfl (F8.ev 2 rfl) (F8.ev 8 rfl) rfl rfl rfl rfl rfl fun w9 S9 => ?_)
 have T10 : Mv _ _ [bx b1 [.slice Q12 Q14 Q13, .slice Q9 Q11 Q10, .slice Q15 Q17 Q16] 29, ow 73 2 encC okC (.slice Q12 Q14 Q13) m.store, ow 9 1 encS okS (.slice Q9 Q11 Q10) m.touch.reads, ow 9 1 encS okS (.slice Q15 Q17 Q16) m.touch.writes, bx b3 [.slice none 0 0, .slice none 0 0, .slice none 0 0] 29] _ := S9
 refine s_end (x_normal (wp_seq (wp_region_lit (l_op (f_mv F8 rfl rfl rfl rfl rfl fun _ F11 => ?_)))))
 refine l_op (f_call F11 CF_61 rfl rfl rfl rfl (lc (F11.ev 2 rfl) (lc (F11.ev 9 rfl) rfl)) (impl_Mach_fileOf_c (m := m) (name := name) Q33 (Tb.mv V_tab0 (S1.trans (S3.trans (S7.trans T10)))) (Tb.mv V_tab1 (S1.trans (S3.trans (S7.trans T10)))) (by first | assumption | omega | ((first | apply b1_ | apply b2_ | apply b3_ | skip); (repeat (first | with_reducible apply b4_ | with_reducible apply b5_ | with_reducible apply b6_ | with_reducible refine bdC.fo ?_)); exact bdC.le ‹_› (by first | decide | omega)) | decide | exact Nat.le_trans (keyNum_size _ _ ‹_›) (by decide) | exact Nat.le_trans (keyNum_size _ _ ⟨by omega, by omega⟩) (by decide)) (At.pick (is := [0, 1, 2, 3]) T10.at' rfl) (V_off (is := [0, 1, 2, 3]))) ?_)
 rintro _ w12 ⟨Q3, Q5, Q4, Q0, Q2, Q1, Q6, Q8, Q7, rfl, m12⟩
 refine ⟨_, rfl, fun _ F13 => ?_⟩
 have S12 : Mv _ _ [bx b1 [.slice Q3 Q5 Q4, .slice Q0 Q2 Q1, .slice Q6 Q8 Q7] 29, ow 73 2 encC okC (.slice Q3 Q5 Q4) (foM m name).store, ow 9 1 encS okS (.slice Q0 Q2 Q1) (foM m name).touch.reads, ow 9 1 encS okS (.slice Q6 Q8 Q7) (foM m name).touch.writes, bx b3 [.slice none 0 0, .slice none 0 0, .slice none 0 0] 29] _ := At.frame T10.at' [0, 1, 2, 3] rfl m12
 obtain ⟨Q40, Q46, Q52⟩ := At.ownInv S12.at' ET_24.hk 1 rfl
 obtain ⟨Q41, Q47, Q53⟩ := At.ownInv S12.at' ET_25.hk 2 rfl
 obtain ⟨Q42, Q48, Q54⟩ := At.ownInv S12.at' ET_25.hk 3 rfl
 clear m12
 refine l_op (f_as F13 rfl rfl rfl rfl rfl fun _ F14 => ?_)
 refine s_end (x_normal (wp_seq (wp_region_lit (l_op (f_val (v := .agg #[.slice Q3 Q5 Q4, .slice Q0 Q2 Q1, .slice Q6 Q8 Q7]) F14 rfl rfl (r_loadB S12.at' 0 TI_29 rfl rfl (F14.ev 2 rfl) rfl rfl (fun h => nomatch h) rfl) rfl fun _ F15 => ?_)))))
 refine l_op (f_mv F15 rfl rfl rfl rfl rfl fun _ F16 => ?_)
 refine l_op (s_store S12.at' 4 TI_29 rfl rfl rfl rfl rfl (F16.ev 4 rfl) (F16.ev 11 rfl) rfl rfl rfl rfl rfl fun w17 S17 => ?_)
 refine l_op (f_as F16 rfl rfl rfl rfl rfl fun _ F18 => ?_)
 refine s_end (x_normal (wp_ret ?_))
 refine x_done (v := .tuple #[.agg #[.slice Q3 Q5 Q4, .slice Q0 Q2 Q1, .slice Q6 Q8 Q7], .int .i64 ((fo m name : Nat) : Int)]) F18 (results_2 Tryz.results29 (.cell (F18.ev 4 rfl) (run_loadVar' TI_29 _ [.slice Q3 Q5 Q4, .slice Q0 Q2 Q1, .slice Q6 Q8 Q7] rfl (fun h => nomatch h) (At.cells S17.at' 0 rfl 0 [.slice Q3 Q5 Q4, .slice Q0 Q2 Q1, .slice Q6 Q8 Q7] rfl))) (.tmp (F18.ev 5 rfl))) ?_
 exact ⟨Q3, Q5, Q4, Q0, Q2, Q1, Q6, Q8, Q7, rfl, (Mv.pick (S1.trans (S3.trans (S7.trans (T10.trans (S12.trans S17))))) [2, 3, 4] rfl)⟩
end Go.Proofs.YtibgmijfnbnfkaaGreatDoor
