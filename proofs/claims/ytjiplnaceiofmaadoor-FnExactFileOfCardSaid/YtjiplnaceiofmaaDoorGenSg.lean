/-
  Walks: names, files.
-/
import Derived.Test.YtjiplnaceiofmaaDoorGenRa
import Derived.Test.YtjiplnaceiofmaaDoorDatVd
namespace Go.Proofs.YtjiplnaceiofmaaDoor
open Go.ChangeShapes Go.WideShapes Go.ChangeAt Go.RowKit
set_option maxRecDepth 100000
set_option maxHeartbeats 1000000
theorem impl_NameOk_c {w : World} {H : Nat → Prop} {key : ByteArray} (h_key : okS key) :
    Calls Tryd.prog 104 #[.string key] w fun e w' => e = .returned (.bool (nameOk key)) ∧ Mv [] w [] w' := by
 have uU : True := (fun _ => trivial) H
 clear uU
 have kz := h_key
 unfold okS at kz
 refine calls_enter 41 Tryd.func104 rfl Tryd.ntmps104 (Nat.le_of_ble_eq_true rfl) (fun _ F0i => ?_)
 have F0 : Fr 41 [(0, .string key)] _ := F0i
 clear F0i
 refine wp_seq (wp_region_lit (l_op (f_val F0 rfl rfl (r_assign rfl rfl) rfl fun _ F1 => ?_)))
 have F2 : Fr 41 [(2, .bool false), (0, .string key)] _ := F1.cut rfl
 clear F0 F1
 refine s_end (x_normal (wp_seq (wp_seq (wp_region_lit (l_op (f_mv F2 rfl rfl rfl rfl rfl fun _ F3 => ?_))))))
 refine l_op (f_val F3 rfl rfl (r_lenS (fun t ht => by cases ht; exact Tryd.underlying9) rfl rfl (F3.ev 5 rfl)) rfl fun _ F4 => ?_)
 refine l_op (f_val F4 rfl rfl (r_move rfl rfl) rfl fun _ F5 => ?_)
 have F6 : Fr 41 [(7, .int .i64 0), (6, .int .i64 ((key.size : Nat) : Int)), (0, .string key)] _ := F5.cut rfl
 clear F2 F3 F4 F5
 refine s_end (x_normal (wp_block ?_))
 refine x_loop (fun (k : Nat) aZ wZ => Fr 41 [(7, .int .i64 ((k : Nat) : Int)), (6, .int .i64 ((key.size : Nat) : Int)), (0, .string key)] aZ ∧ Mv [] w [] wZ ∧ (k ≤ key.size) ∧ (∀ j, j < k → nb (byteAt key j) = true)) (fun (k : Nat) => key.size - k) (0) ?_ ?_
 · exact ⟨F6.cut rfl, (Mv.refl (At.nil w)), by omega, all_none⟩
 · rintro k a7 w7 ⟨F7, S7, hk_0, hk_1⟩
   refine wp_seq (wp_region_lit (l_op (f_val F7 rfl rfl (r_cmp (b := decide (k < key.size)) (.inr (.inr (.inl rfl))) rfl (F7.ev 7 rfl) (F7.ev 6 rfl) (dec_of (by omega))) rfl fun _ F8 => ?_)))
   have F9 : Fr 41 [(8, .bool (decide (k < key.size))), (7, .int .i64 ((k : Nat) : Int)), (6, .int .i64 ((key.size : Nat) : Int)), (0, .string key)] _ := F8.cut rfl
   clear F7 F8
   refine s_end (x_normal (wp_seq (x_cond (p := k < key.size) (F9.ev 8 rfl) (fun h10 => ?_) (fun h10 => ?_))))
   · skip
     refine wp_skip (x_normal (wp_seq (wp_block (wp_seq (wp_region_lit (l_op (f_mv F9 rfl rfl rfl rfl rfl fun _ F11 => ?_)))))))
     refine l_op (f_as F11 rfl rfl rfl rfl rfl fun _ F12 => ?_)
     have F13 : Fr 41 [(3, .int .i64 ((k : Nat) : Int)), (7, .int .i64 ((k : Nat) : Int)), (6, .int .i64 ((key.size : Nat) : Int)), (0, .string key)] _ := F12.cut rfl
     clear F9 F11 F12
     refine s_end (x_normal (wp_seq (wp_region_lit (l_op (f_mv F13 rfl rfl rfl rfl rfl fun _ F14 => ?_)))))
     refine l_op (f_mv F14 rfl rfl rfl rfl rfl fun _ F15 => ?_)
     refine l_op (f_val F15 rfl rfl (r_indexS (i := k) Tryd.underlying9 rfl (F15.ev 10 rfl) (F15.ev 11 rfl) (by omega) (by first | assumption | omega)) rfl fun _ F16 => ?_)
     refine l_op (f_as F16 rfl rfl rfl rfl rfl fun _ F17 => ?_)
     have F18 : Fr 41 [(4, .int .u8 ((byteAt key k : Nat) : Int)), (7, .int .i64 ((k : Nat) : Int)), (6, .int .i64 ((key.size : Nat) : Int)), (0, .string key)] _ := F17.cut rfl
     clear F13 F14 F15 F16 F17
     refine s_end (x_normal (wp_seq (wp_region_lit (l_op (f_mv F18 rfl rfl rfl rfl rfl fun _ F19 => ?_)))))
     refine l_op (f_val F19 rfl rfl (r_cmp (b := decide (byteAt key k ≥ 97)) (.inr (.inr (.inr (.inr (.inr rfl))))) rfl (F19.ev 13 rfl) rfl (dec_of (by omega))) rfl fun _ F20 => ?_)
     refine l_op (f_mv F20 rfl rfl rfl rfl rfl fun _ F21 => ?_)
     rcases Decidable.em (byteAt key k ≥ 97) with h22 | h22
     · rw [decide_eq_true h22] at F21
       refine l_op (f_mv F21 (wanted_g F21 rfl rfl rfl rfl) rfl rfl rfl rfl fun _ F23 => ?_)
       refine l_op (f_val F23 (wanted_g F23 rfl rfl rfl rfl) rfl (r_cmp (b := decide (byteAt key k ≤ 122)) (.inr (.inr (.inr (.inl rfl)))) rfl (F23.ev 16 rfl) rfl (dec_of (by omega))) rfl fun _ F24 => ?_)
       refine l_op (f_val F24 rfl rfl (r_pick (b := true) rfl (F24.ev 15 rfl) (F24.ev 17 rfl)) rfl fun _ F25 => ?_)
       refine l_op (f_val F25 rfl rfl (r_notD rfl (F25.ev 18 rfl)) rfl fun _ F26 => ?_)
       refine l_op (f_mv F26 rfl rfl rfl rfl rfl fun _ F27 => ?_)
       rcases Decidable.em (¬ (byteAt key k ≤ 122)) with h28 | h28
       · rw [decide_eq_true h28] at F27
         refine l_op (f_mv F27 (wanted_g F27 rfl rfl rfl rfl) rfl rfl rfl rfl fun _ F29 => ?_)
         refine l_op (f_val F29 (wanted_g F29 rfl rfl rfl rfl) rfl (r_cmp (b := decide (byteAt key k ≥ 48)) (.inr (.inr (.inr (.inr (.inr rfl))))) rfl (F29.ev 21 rfl) rfl (dec_of (by omega))) rfl fun _ F30 => ?_)
         refine l_op (f_mv F30 (wanted_g F30 rfl rfl rfl rfl) rfl rfl rfl rfl fun _ F31 => ?_)
         rcases Decidable.em (byteAt key k ≥ 48) with h32 | h32
         · rw [decide_eq_true h32] at F31
           refine l_op (f_mv F31 (wanted_g F31 rfl rfl rfl rfl) rfl rfl rfl rfl fun _ F33 => ?_)
           refine l_op (f_val F33 (wanted_g F33 rfl rfl rfl rfl) rfl (r_cmp (b := decide (byteAt key k ≤ 57)) (.inr (.inr (.inr (.inl rfl)))) rfl (F33.ev 24 rfl) rfl (dec_of (by omega))) rfl fun _ F34 => ?_)
           refine l_op (f_val F34 (wanted_g F34 rfl rfl rfl rfl) rfl (r_pick (b := true) rfl (F34.ev 23 rfl) (F34.ev 25 rfl)) rfl fun _ F35 => ?_)
           refine l_op (f_val F35 (wanted_g F35 rfl rfl rfl rfl) rfl (r_notD rfl (F35.ev 26 rfl)) rfl fun _ F36 => ?_)
           refine l_op (f_val F36 rfl rfl (r_pick (b := true) rfl (F36.ev 20 rfl) (F36.ev 27 rfl)) rfl fun _ F37 => ?_)
           refine l_op (f_mv F37 rfl rfl rfl rfl rfl fun _ F38 => ?_)
           rcases Decidable.em (¬ (byteAt key k ≤ 57)) with h39 | h39
           · rw [decide_eq_true h39] at F38
             refine l_op (f_mv F38 (wanted_g F38 rfl rfl rfl rfl) rfl rfl rfl rfl fun _ F40 => ?_)
             refine l_op (f_val F40 (wanted_g F40 rfl rfl rfl rfl) rfl (r_cmp (b := decide (byteAt key k ≠ 46)) (.inr (.inl rfl)) rfl (F40.ev 30 rfl) rfl (dec_of (by omega))) rfl fun _ F41 => ?_)
             refine l_op (f_val F41 rfl rfl (r_pick (b := true) rfl (F41.ev 29 rfl) (F41.ev 31 rfl)) rfl fun _ F42 => ?_)
             refine l_op (f_mv F42 rfl rfl rfl rfl rfl fun _ F43 => ?_)
             rcases Decidable.em (byteAt key k ≠ 46) with h44 | h44
             · rw [decide_eq_true h44] at F43
               refine l_op (f_mv F43 (wanted_g F43 rfl rfl rfl rfl) rfl rfl rfl rfl fun _ F45 => ?_)
               refine l_op (f_val F45 (wanted_g F45 rfl rfl rfl rfl) rfl (r_cmp (b := decide (byteAt key k ≠ 45)) (.inr (.inl rfl)) rfl (F45.ev 34 rfl) rfl (dec_of (by omega))) rfl fun _ F46 => ?_)
               refine l_op (f_val F46 rfl rfl (r_pick (b := true) rfl (F46.ev 33 rfl) (F46.ev 35 rfl)) rfl fun _ F47 => ?_)
               have F48 : Fr 41 [(36, .bool (decide (byteAt key k ≠ 45))), (7, .int .i64 ((k : Nat) : Int)), (6, .int .i64 ((key.size : Nat) : Int)), (0, .string key)] _ := F47.cut rfl
               clear F18 F19 F20 F21 F23 F24 F25 F26 F27 F29 F30 F31 F33 F34 F35 F36 F37 F38 F40 F41 F42 F43 F45 F46 F47
               refine s_end (x_normal (x_cond (p := byteAt key k ≠ 45) (F48.ev 36 rfl) (fun h49 => ?_) (fun h49 => ?_)))
               · skip
                 refine wp_seq (wp_region_lit (l_op (f_val F48 rfl rfl (r_assign rfl rfl) rfl fun _ F50 => ?_)))
                 have F51 : Fr 41 [(2, .bool false)] _ := F50.cut rfl
                 clear F48 F50
                 refine s_end (x_normal (wp_ret (x_block_ret (x_then_ret (x_then_ret (x_block_ret (x_then_ret ?_)))))))
                 refine x_done (v := .bool false) F51 (results_1 Tryd.results104 (.tmp (F51.ev 2 rfl))) ?_
                 exact ⟨(by rw [(show false = (nameOk key) from by first | exact (nameOk_bad (j := k) (by omega) (by unfold nb; exact decide_eq_false (by omega))).symm | exact (nameOk_all (fun j hj => hk_1 j (by omega))).symm)]), (Mv.pick S7 [] rfl)⟩
               · skip
                 refine wp_skip (x_block_normal (x_normal (wp_region_lit (l_op (f_val F48 rfl rfl (r_add (z := ((k + 1 : Nat) : Int)) rfl (F48.ev 7 rfl) rfl (by first | rfl | omega) ⟨by first | omega | (unfold i64ok at *; omega), by first | omega | (unfold i64ok at *; omega)⟩) rfl fun _ F52 => ?_)))))
                 refine l_op (f_mv F52 rfl rfl rfl rfl rfl fun _ F53 => ?_)
                 have F54 : Fr 41 [(7, .int .i64 ((k + 1 : Nat) : Int)), (6, .int .i64 ((key.size : Nat) : Int)), (0, .string key)] _ := F53.cut rfl
                 clear F48 F52 F53
                 refine s_end ?_
                 refine x_normal ⟨k + 1, by omega, F54.cut rfl, (S7.pick [] rfl), by omega, all_step hk_1 (by unfold nb; exact decide_eq_true (by omega))⟩
             · rw [decide_eq_false h44] at F43
               refine l_op (f_skip F43 (wanted_g F43 rfl rfl rfl rfl) rfl rfl fun _ F55 => ?_)
               refine l_op (f_skip F55 (wanted_g F55 rfl rfl rfl rfl) rfl rfl fun _ F56 => ?_)
               refine l_op (f_val F56 rfl rfl (r_pick (b := false) rfl (F56.ev 33 rfl) rfl) rfl fun _ F57 => ?_)
               have F58 : Fr 41 [(36, .bool false), (7, .int .i64 ((k : Nat) : Int)), (6, .int .i64 ((key.size : Nat) : Int)), (0, .string key)] _ := F57.cut rfl
               clear F18 F19 F20 F21 F23 F24 F25 F26 F27 F29 F30 F31 F33 F34 F35 F36 F37 F38 F40 F41 F42 F43 F55 F56 F57
               refine s_end (x_normal (wp_cond_false (F58.ev 36 rfl) (wp_skip (x_block_normal (x_normal (wp_region_lit (l_op (f_val F58 rfl rfl (r_add (z := ((k + 1 : Nat) : Int)) rfl (F58.ev 7 rfl) rfl (by first | rfl | omega) ⟨by first | omega | (unfold i64ok at *; omega), by first | omega | (unfold i64ok at *; omega)⟩) rfl fun _ F59 => ?_))))))))
               refine l_op (f_mv F59 rfl rfl rfl rfl rfl fun _ F60 => ?_)
               have F61 : Fr 41 [(7, .int .i64 ((k + 1 : Nat) : Int)), (6, .int .i64 ((key.size : Nat) : Int)), (0, .string key)] _ := F60.cut rfl
               clear F58 F59 F60
               refine s_end ?_
               refine x_normal ⟨k + 1, by omega, F61.cut rfl, (S7.pick [] rfl), by omega, all_step hk_1 (by unfold nb; exact decide_eq_true (by omega))⟩
           · rw [decide_eq_false h39] at F38
             refine l_op (f_skip F38 (wanted_g F38 rfl rfl rfl rfl) rfl rfl fun _ F62 => ?_)
             refine l_op (f_skip F62 (wanted_g F62 rfl rfl rfl rfl) rfl rfl fun _ F63 => ?_)
             refine l_op (f_val F63 rfl rfl (r_pick (b := false) rfl (F63.ev 29 rfl) rfl) rfl fun _ F64 => ?_)
             refine l_op (f_mv F64 rfl rfl rfl rfl rfl fun _ F65 => ?_)
             refine l_op (f_skip F65 (wanted_g F65 rfl rfl rfl rfl) rfl rfl fun _ F66 => ?_)
             refine l_op (f_skip F66 (wanted_g F66 rfl rfl rfl rfl) rfl rfl fun _ F67 => ?_)
             refine l_op (f_val F67 rfl rfl (r_pick (b := false) rfl (F67.ev 33 rfl) rfl) rfl fun _ F68 => ?_)
             have F69 : Fr 41 [(36, .bool false), (7, .int .i64 ((k : Nat) : Int)), (6, .int .i64 ((key.size : Nat) : Int)), (0, .string key)] _ := F68.cut rfl
             clear F18 F19 F20 F21 F23 F24 F25 F26 F27 F29 F30 F31 F33 F34 F35 F36 F37 F38 F62 F63 F64 F65 F66 F67 F68
             refine s_end (x_normal (wp_cond_false (F69.ev 36 rfl) (wp_skip (x_block_normal (x_normal (wp_region_lit (l_op (f_val F69 rfl rfl (r_add (z := ((k + 1 : Nat) : Int)) rfl (F69.ev 7 rfl) rfl (by first | rfl | omega) ⟨by first | omega | (unfold i64ok at *; omega), by first | omega | (unfold i64ok at *; omega)⟩) rfl fun _ F70 => ?_))))))))
             refine l_op (f_mv F70 rfl rfl rfl rfl rfl fun _ F71 => ?_)
             have F72 : Fr 41 [(7, .int .i64 ((k + 1 : Nat) : Int)), (6, .int .i64 ((key.size : Nat) : Int)), (0, .string key)] _ := F71.cut rfl
             clear F69 F70 F71
             refine s_end ?_
             refine x_normal ⟨k + 1, by omega, F72.cut rfl, (S7.pick [] rfl), by omega, all_step hk_1 (by unfold nb; exact decide_eq_true (by omega))⟩
         · rw [decide_eq_false h32] at F31
           refine l_op (f_skip F31 (wanted_g F31 rfl rfl rfl rfl) rfl rfl fun _ F73 => ?_)
           refine l_op (f_skip F73 (wanted_g F73 rfl rfl rfl rfl) rfl rfl fun _ F74 => ?_)
           refine l_op (f_val F74 (wanted_g F74 rfl rfl rfl rfl) rfl (r_pick (b := false) rfl (F74.ev 23 rfl) rfl) rfl fun _ F75 => ?_)
           refine l_op (f_val F75 (wanted_g F75 rfl rfl rfl rfl) rfl (r_not rfl (F75.ev 26 rfl)) rfl fun _ F76 => ?_)
           refine l_op (f_val F76 rfl rfl (r_pick (b := true) rfl (F76.ev 20 rfl) (F76.ev 27 rfl)) rfl fun _ F77 => ?_)
           refine l_op (f_mv F77 rfl rfl rfl rfl rfl fun _ F78 => ?_)
           refine l_op (f_mv F78 (wanted_g F78 rfl rfl rfl rfl) rfl rfl rfl rfl fun _ F79 => ?_)
           refine l_op (f_val F79 (wanted_g F79 rfl rfl rfl rfl) rfl (r_cmp (b := decide (byteAt key k ≠ 46)) (.inr (.inl rfl)) rfl (F79.ev 30 rfl) rfl (dec_of (by omega))) rfl fun _ F80 => ?_)
           refine l_op (f_val F80 rfl rfl (r_pick (b := true) rfl (F80.ev 29 rfl) (F80.ev 31 rfl)) rfl fun _ F81 => ?_)
           refine l_op (f_mv F81 rfl rfl rfl rfl rfl fun _ F82 => ?_)
           rcases Decidable.em (byteAt key k ≠ 46) with h83 | h83
           · rw [decide_eq_true h83] at F82
             refine l_op (f_mv F82 (wanted_g F82 rfl rfl rfl rfl) rfl rfl rfl rfl fun _ F84 => ?_)
             refine l_op (f_val F84 (wanted_g F84 rfl rfl rfl rfl) rfl (r_cmp (b := decide (byteAt key k ≠ 45)) (.inr (.inl rfl)) rfl (F84.ev 34 rfl) rfl (dec_of (by omega))) rfl fun _ F85 => ?_)
             refine l_op (f_val F85 rfl rfl (r_pick (b := true) rfl (F85.ev 33 rfl) (F85.ev 35 rfl)) rfl fun _ F86 => ?_)
             have F87 : Fr 41 [(36, .bool (decide (byteAt key k ≠ 45))), (7, .int .i64 ((k : Nat) : Int)), (6, .int .i64 ((key.size : Nat) : Int)), (0, .string key)] _ := F86.cut rfl
             clear F18 F19 F20 F21 F23 F24 F25 F26 F27 F29 F30 F31 F73 F74 F75 F76 F77 F78 F79 F80 F81 F82 F84 F85 F86
             refine s_end (x_normal (x_cond (p := byteAt key k ≠ 45) (F87.ev 36 rfl) (fun h88 => ?_) (fun h88 => ?_)))
             · skip
               refine wp_seq (wp_region_lit (l_op (f_val F87 rfl rfl (r_assign rfl rfl) rfl fun _ F89 => ?_)))
               have F90 : Fr 41 [(2, .bool false)] _ := F89.cut rfl
               clear F87 F89
               refine s_end (x_normal (wp_ret (x_block_ret (x_then_ret (x_then_ret (x_block_ret (x_then_ret ?_)))))))
               refine x_done (v := .bool false) F90 (results_1 Tryd.results104 (.tmp (F90.ev 2 rfl))) ?_
               exact ⟨(by rw [(show false = (nameOk key) from by first | exact (nameOk_bad (j := k) (by omega) (by unfold nb; exact decide_eq_false (by omega))).symm | exact (nameOk_all (fun j hj => hk_1 j (by omega))).symm)]), (Mv.pick S7 [] rfl)⟩
             · skip
               refine wp_skip (x_block_normal (x_normal (wp_region_lit (l_op (f_val F87 rfl rfl (r_add (z := ((k + 1 : Nat) : Int)) rfl (F87.ev 7 rfl) rfl (by first | rfl | omega) ⟨by first | omega | (unfold i64ok at *; omega), by first | omega | (unfold i64ok at *; omega)⟩) rfl fun _ F91 => ?_)))))
               refine l_op (f_mv F91 rfl rfl rfl rfl rfl fun _ F92 => ?_)
               have F93 : Fr 41 [(7, .int .i64 ((k + 1 : Nat) : Int)), (6, .int .i64 ((key.size : Nat) : Int)), (0, .string key)] _ := F92.cut rfl
               clear F87 F91 F92
               refine s_end ?_
               refine x_normal ⟨k + 1, by omega, F93.cut rfl, (S7.pick [] rfl), by omega, all_step hk_1 (by unfold nb; exact decide_eq_true (by omega))⟩
           · rw [decide_eq_false h83] at F82
             refine l_op (f_skip F82 (wanted_g F82 rfl rfl rfl rfl) rfl rfl fun _ F94 => ?_)
             refine l_op (f_skip F94 (wanted_g F94 rfl rfl rfl rfl) rfl rfl fun _ F95 => ?_)
             refine l_op (f_val F95 rfl rfl (r_pick (b := false) rfl (F95.ev 33 rfl) rfl) rfl fun _ F96 => ?_)
             have F97 : Fr 41 [(36, .bool false), (7, .int .i64 ((k : Nat) : Int)), (6, .int .i64 ((key.size : Nat) : Int)), (0, .string key)] _ := F96.cut rfl
             clear F18 F19 F20 F21 F23 F24 F25 F26 F27 F29 F30 F31 F73 F74 F75 F76 F77 F78 F79 F80 F81 F82 F94 F95 F96
             refine s_end (x_normal (wp_cond_false (F97.ev 36 rfl) (wp_skip (x_block_normal (x_normal (wp_region_lit (l_op (f_val F97 rfl rfl (r_add (z := ((k + 1 : Nat) : Int)) rfl (F97.ev 7 rfl) rfl (by first | rfl | omega) ⟨by first | omega | (unfold i64ok at *; omega), by first | omega | (unfold i64ok at *; omega)⟩) rfl fun _ F98 => ?_))))))))
             refine l_op (f_mv F98 rfl rfl rfl rfl rfl fun _ F99 => ?_)
             have F100 : Fr 41 [(7, .int .i64 ((k + 1 : Nat) : Int)), (6, .int .i64 ((key.size : Nat) : Int)), (0, .string key)] _ := F99.cut rfl
             clear F97 F98 F99
             refine s_end ?_
             refine x_normal ⟨k + 1, by omega, F100.cut rfl, (S7.pick [] rfl), by omega, all_step hk_1 (by unfold nb; exact decide_eq_true (by omega))⟩
       · rw [decide_eq_false h28] at F27
         refine l_op (f_skip F27 (wanted_g F27 rfl rfl rfl rfl) rfl rfl fun _ F101 => ?_)
         refine l_op (f_skip F101 (wanted_g F101 rfl rfl rfl rfl) rfl rfl fun _ F102 => ?_)
         refine l_op (f_skip F102 (wanted_g F102 rfl rfl rfl rfl) rfl rfl fun _ F103 => ?_)
         refine l_op (f_skip F103 (wanted_u F103 rfl rfl rfl) rfl rfl fun _ F104 => ?_)
         refine l_op (f_skip F104 (wanted_u F104 rfl rfl rfl) rfl rfl fun _ F105 => ?_)
         refine l_op (f_skip F105 (wanted_g F105 rfl rfl rfl rfl) rfl rfl fun _ F106 => ?_)
         refine l_op (f_skip F106 (wanted_g F106 rfl rfl rfl rfl) rfl rfl fun _ F107 => ?_)
         refine l_op (f_val F107 rfl rfl (r_pick (b := false) rfl (F107.ev 20 rfl) rfl) rfl fun _ F108 => ?_)
         refine l_op (f_mv F108 rfl rfl rfl rfl rfl fun _ F109 => ?_)
         refine l_op (f_skip F109 (wanted_g F109 rfl rfl rfl rfl) rfl rfl fun _ F110 => ?_)
         refine l_op (f_skip F110 (wanted_g F110 rfl rfl rfl rfl) rfl rfl fun _ F111 => ?_)
         refine l_op (f_val F111 rfl rfl (r_pick (b := false) rfl (F111.ev 29 rfl) rfl) rfl fun _ F112 => ?_)
         refine l_op (f_mv F112 rfl rfl rfl rfl rfl fun _ F113 => ?_)
         refine l_op (f_skip F113 (wanted_g F113 rfl rfl rfl rfl) rfl rfl fun _ F114 => ?_)
         refine l_op (f_skip F114 (wanted_g F114 rfl rfl rfl rfl) rfl rfl fun _ F115 => ?_)
         refine l_op (f_val F115 rfl rfl (r_pick (b := false) rfl (F115.ev 33 rfl) rfl) rfl fun _ F116 => ?_)
         have F117 : Fr 41 [(36, .bool false), (7, .int .i64 ((k : Nat) : Int)), (6, .int .i64 ((key.size : Nat) : Int)), (0, .string key)] _ := F116.cut rfl
         clear F18 F19 F20 F21 F23 F24 F25 F26 F27 F101 F102 F103 F104 F105 F106 F107 F108 F109 F110 F111 F112 F113 F114 F115 F116
         refine s_end (x_normal (wp_cond_false (F117.ev 36 rfl) (wp_skip (x_block_normal (x_normal (wp_region_lit (l_op (f_val F117 rfl rfl (r_add (z := ((k + 1 : Nat) : Int)) rfl (F117.ev 7 rfl) rfl (by first | rfl | omega) ⟨by first | omega | (unfold i64ok at *; omega), by first | omega | (unfold i64ok at *; omega)⟩) rfl fun _ F118 => ?_))))))))
         refine l_op (f_mv F118 rfl rfl rfl rfl rfl fun _ F119 => ?_)
         have F120 : Fr 41 [(7, .int .i64 ((k + 1 : Nat) : Int)), (6, .int .i64 ((key.size : Nat) : Int)), (0, .string key)] _ := F119.cut rfl
         clear F117 F118 F119
         refine s_end ?_
         refine x_normal ⟨k + 1, by omega, F120.cut rfl, (S7.pick [] rfl), by omega, all_step hk_1 (by unfold nb; exact decide_eq_true (by omega))⟩
     · rw [decide_eq_false h22] at F21
       refine l_op (f_skip F21 (wanted_g F21 rfl rfl rfl rfl) rfl rfl fun _ F121 => ?_)
       refine l_op (f_skip F121 (wanted_g F121 rfl rfl rfl rfl) rfl rfl fun _ F122 => ?_)
       refine l_op (f_val F122 rfl rfl (r_pick (b := false) rfl (F122.ev 15 rfl) rfl) rfl fun _ F123 => ?_)
       refine l_op (f_val F123 rfl rfl (r_not rfl (F123.ev 18 rfl)) rfl fun _ F124 => ?_)
       refine l_op (f_mv F124 rfl rfl rfl rfl rfl fun _ F125 => ?_)
       refine l_op (f_mv F125 (wanted_g F125 rfl rfl rfl rfl) rfl rfl rfl rfl fun _ F126 => ?_)
       refine l_op (f_val F126 (wanted_g F126 rfl rfl rfl rfl) rfl (r_cmp (b := decide (byteAt key k ≥ 48)) (.inr (.inr (.inr (.inr (.inr rfl))))) rfl (F126.ev 21 rfl) rfl (dec_of (by omega))) rfl fun _ F127 => ?_)
       refine l_op (f_mv F127 (wanted_g F127 rfl rfl rfl rfl) rfl rfl rfl rfl fun _ F128 => ?_)
       rcases Decidable.em (byteAt key k ≥ 48) with h129 | h129
       · rw [decide_eq_true h129] at F128
         refine l_op (f_mv F128 (wanted_g F128 rfl rfl rfl rfl) rfl rfl rfl rfl fun _ F130 => ?_)
         refine l_op (f_val F130 (wanted_g F130 rfl rfl rfl rfl) rfl (r_cmp (b := decide (byteAt key k ≤ 57)) (.inr (.inr (.inr (.inl rfl)))) rfl (F130.ev 24 rfl) rfl (dec_of (by omega))) rfl fun _ F131 => ?_)
         refine l_op (f_val F131 (wanted_g F131 rfl rfl rfl rfl) rfl (r_pick (b := true) rfl (F131.ev 23 rfl) (F131.ev 25 rfl)) rfl fun _ F132 => ?_)
         refine l_op (f_val F132 (wanted_g F132 rfl rfl rfl rfl) rfl (r_notD rfl (F132.ev 26 rfl)) rfl fun _ F133 => ?_)
         refine l_op (f_val F133 rfl rfl (r_pick (b := true) rfl (F133.ev 20 rfl) (F133.ev 27 rfl)) rfl fun _ F134 => ?_)
         refine l_op (f_mv F134 rfl rfl rfl rfl rfl fun _ F135 => ?_)
         rcases Decidable.em (¬ (byteAt key k ≤ 57)) with h136 | h136
         · rw [decide_eq_true h136] at F135
           refine l_op (f_mv F135 (wanted_g F135 rfl rfl rfl rfl) rfl rfl rfl rfl fun _ F137 => ?_)
           refine l_op (f_val F137 (wanted_g F137 rfl rfl rfl rfl) rfl (r_cmp (b := decide (byteAt key k ≠ 46)) (.inr (.inl rfl)) rfl (F137.ev 30 rfl) rfl (dec_of (by omega))) rfl fun _ F138 => ?_)
           refine l_op (f_val F138 rfl rfl (r_pick (b := true) rfl (F138.ev 29 rfl) (F138.ev 31 rfl)) rfl fun _ F139 => ?_)
           refine l_op (f_mv F139 rfl rfl rfl rfl rfl fun _ F140 => ?_)
           rcases Decidable.em (byteAt key k ≠ 46) with h141 | h141
           · rw [decide_eq_true h141] at F140
             refine l_op (f_mv F140 (wanted_g F140 rfl rfl rfl rfl) rfl rfl rfl rfl fun _ F142 => ?_)
             refine l_op (f_val F142 (wanted_g F142 rfl rfl rfl rfl) rfl (r_cmp (b := decide (byteAt key k ≠ 45)) (.inr (.inl rfl)) rfl (F142.ev 34 rfl) rfl (dec_of (by omega))) rfl fun _ F143 => ?_)
             refine l_op (f_val F143 rfl rfl (r_pick (b := true) rfl (F143.ev 33 rfl) (F143.ev 35 rfl)) rfl fun _ F144 => ?_)
             have F145 : Fr 41 [(36, .bool (decide (byteAt key k ≠ 45))), (7, .int .i64 ((k : Nat) : Int)), (6, .int .i64 ((key.size : Nat) : Int)), (0, .string key)] _ := F144.cut rfl
             clear F18 F19 F20 F21 F121 F122 F123 F124 F125 F126 F127 F128 F130 F131 F132 F133 F134 F135 F137 F138 F139 F140 F142 F143 F144
             refine s_end (x_normal (x_cond (p := byteAt key k ≠ 45) (F145.ev 36 rfl) (fun h146 => ?_) (fun h146 => ?_)))
             · skip
               refine wp_seq (wp_region_lit (l_op (f_val F145 rfl rfl (r_assign rfl rfl) rfl fun _ F147 => ?_)))
               have F148 : Fr 41 [(2, .bool false)] _ := F147.cut rfl
               clear F145 F147
               refine s_end (x_normal (wp_ret (x_block_ret (x_then_ret (x_then_ret (x_block_ret (x_then_ret ?_)))))))
               refine x_done (v := .bool false) F148 (results_1 Tryd.results104 (.tmp (F148.ev 2 rfl))) ?_
               exact ⟨(by rw [(show false = (nameOk key) from by first | exact (nameOk_bad (j := k) (by omega) (by unfold nb; exact decide_eq_false (by omega))).symm | exact (nameOk_all (fun j hj => hk_1 j (by omega))).symm)]), (Mv.pick S7 [] rfl)⟩
             · skip
               refine wp_skip (x_block_normal (x_normal (wp_region_lit (l_op (f_val F145 rfl rfl (r_add (z := ((k + 1 : Nat) : Int)) rfl (F145.ev 7 rfl) rfl (by first | rfl | omega) ⟨by first | omega | (unfold i64ok at *; omega), by first | omega | (unfold i64ok at *; omega)⟩) rfl fun _ F149 => ?_)))))
               refine l_op (f_mv F149 rfl rfl rfl rfl rfl fun _ F150 => ?_)
               have F151 : Fr 41 [(7, .int .i64 ((k + 1 : Nat) : Int)), (6, .int .i64 ((key.size : Nat) : Int)), (0, .string key)] _ := F150.cut rfl
               clear F145 F149 F150
               refine s_end ?_
               refine x_normal ⟨k + 1, by omega, F151.cut rfl, (S7.pick [] rfl), by omega, all_step hk_1 (by unfold nb; exact decide_eq_true (by omega))⟩
           · rw [decide_eq_false h141] at F140
             refine l_op (f_skip F140 (wanted_g F140 rfl rfl rfl rfl) rfl rfl fun _ F152 => ?_)
             refine l_op (f_skip F152 (wanted_g F152 rfl rfl rfl rfl) rfl rfl fun _ F153 => ?_)
             refine l_op (f_val F153 rfl rfl (r_pick (b := false) rfl (F153.ev 33 rfl) rfl) rfl fun _ F154 => ?_)
             have F155 : Fr 41 [(36, .bool false), (7, .int .i64 ((k : Nat) : Int)), (6, .int .i64 ((key.size : Nat) : Int)), (0, .string key)] _ := F154.cut rfl
             clear F18 F19 F20 F21 F121 F122 F123 F124 F125 F126 F127 F128 F130 F131 F132 F133 F134 F135 F137 F138 F139 F140 F152 F153 F154
             refine s_end (x_normal (wp_cond_false (F155.ev 36 rfl) (wp_skip (x_block_normal (x_normal (wp_region_lit (l_op (f_val F155 rfl rfl (r_add (z := ((k + 1 : Nat) : Int)) rfl (F155.ev 7 rfl) rfl (by first | rfl | omega) ⟨by first | omega | (unfold i64ok at *; omega), by first | omega | (unfold i64ok at *; omega)⟩) rfl fun _ F156 => ?_))))))))
             refine l_op (f_mv F156 rfl rfl rfl rfl rfl fun _ F157 => ?_)
             have F158 : Fr 41 [(7, .int .i64 ((k + 1 : Nat) : Int)), (6, .int .i64 ((key.size : Nat) : Int)), (0, .string key)] _ := F157.cut rfl
             clear F155 F156 F157
             refine s_end ?_
             refine x_normal ⟨k + 1, by omega, F158.cut rfl, (S7.pick [] rfl), by omega, all_step hk_1 (by unfold nb; exact decide_eq_true (by omega))⟩
         · rw [decide_eq_false h136] at F135
           refine l_op (f_skip F135 (wanted_g F135 rfl rfl rfl rfl) rfl rfl fun _ F159 => ?_)
           refine l_op (f_skip F159 (wanted_g F159 rfl rfl rfl rfl) rfl rfl fun _ F160 => ?_)
           refine l_op (f_val F160 rfl rfl (r_pick (b := false) rfl (F160.ev 29 rfl) rfl) rfl fun _ F161 => ?_)
           refine l_op (f_mv F161 rfl rfl rfl rfl rfl fun _ F162 => ?_)
           refine l_op (f_skip F162 (wanted_g F162 rfl rfl rfl rfl) rfl rfl fun _ F163 => ?_)
           refine l_op (f_skip F163 (wanted_g F163 rfl rfl rfl rfl) rfl rfl fun _ F164 => ?_)
           refine l_op (f_val F164 rfl rfl (r_pick (b := false) rfl (F164.ev 33 rfl) rfl) rfl fun _ F165 => ?_)
           have F166 : Fr 41 [(36, .bool false), (7, .int .i64 ((k : Nat) : Int)), (6, .int .i64 ((key.size : Nat) : Int)), (0, .string key)] _ := F165.cut rfl
           clear F18 F19 F20 F21 F121 F122 F123 F124 F125 F126 F127 F128 F130 F131 F132 F133 F134 F135 F159 F160 F161 F162 F163 F164 F165
           refine s_end (x_normal (wp_cond_false (F166.ev 36 rfl) (wp_skip (x_block_normal (x_normal (wp_region_lit (l_op (f_val F166 rfl rfl (r_add (z := ((k + 1 : Nat) : Int)) rfl (F166.ev 7 rfl) rfl (by first | rfl | omega) ⟨by first | omega | (unfold i64ok at *; omega), by first | omega | (unfold i64ok at *; omega)⟩) rfl fun _ F167 => ?_))))))))
           refine l_op (f_mv F167 rfl rfl rfl rfl rfl fun _ F168 => ?_)
           have F169 : Fr 41 [(7, .int .i64 ((k + 1 : Nat) : Int)), (6, .int .i64 ((key.size : Nat) : Int)), (0, .string key)] _ := F168.cut rfl
           clear F166 F167 F168
           refine s_end ?_
           refine x_normal ⟨k + 1, by omega, F169.cut rfl, (S7.pick [] rfl), by omega, all_step hk_1 (by unfold nb; exact decide_eq_true (by omega))⟩
       · rw [decide_eq_false h129] at F128
         refine l_op (f_skip F128 (wanted_g F128 rfl rfl rfl rfl) rfl rfl fun _ F170 => ?_)
         refine l_op (f_skip F170 (wanted_g F170 rfl rfl rfl rfl) rfl rfl fun _ F171 => ?_)
         refine l_op (f_val F171 (wanted_g F171 rfl rfl rfl rfl) rfl (r_pick (b := false) rfl (F171.ev 23 rfl) rfl) rfl fun _ F172 => ?_)
         refine l_op (f_val F172 (wanted_g F172 rfl rfl rfl rfl) rfl (r_not rfl (F172.ev 26 rfl)) rfl fun _ F173 => ?_)
         refine l_op (f_val F173 rfl rfl (r_pick (b := true) rfl (F173.ev 20 rfl) (F173.ev 27 rfl)) rfl fun _ F174 => ?_)
         refine l_op (f_mv F174 rfl rfl rfl rfl rfl fun _ F175 => ?_)
         refine l_op (f_mv F175 (wanted_g F175 rfl rfl rfl rfl) rfl rfl rfl rfl fun _ F176 => ?_)
         refine l_op (f_val F176 (wanted_g F176 rfl rfl rfl rfl) rfl (r_cmp (b := decide (byteAt key k ≠ 46)) (.inr (.inl rfl)) rfl (F176.ev 30 rfl) rfl (dec_of (by omega))) rfl fun _ F177 => ?_)
         refine l_op (f_val F177 rfl rfl (r_pick (b := true) rfl (F177.ev 29 rfl) (F177.ev 31 rfl)) rfl fun _ F178 => ?_)
         refine l_op (f_mv F178 rfl rfl rfl rfl rfl fun _ F179 => ?_)
         rcases Decidable.em (byteAt key k ≠ 46) with h180 | h180
         · rw [decide_eq_true h180] at F179
           refine l_op (f_mv F179 (wanted_g F179 rfl rfl rfl rfl) rfl rfl rfl rfl fun _ F181 => ?_)
           refine l_op (f_val F181 (wanted_g F181 rfl rfl rfl rfl) rfl (r_cmp (b := decide (byteAt key k ≠ 45)) (.inr (.inl rfl)) rfl (F181.ev 34 rfl) rfl (dec_of (by omega))) rfl fun _ F182 => ?_)
           refine l_op (f_val F182 rfl rfl (r_pick (b := true) rfl (F182.ev 33 rfl) (F182.ev 35 rfl)) rfl fun _ F183 => ?_)
           have F184 : Fr 41 [(36, .bool (decide (byteAt key k ≠ 45))), (7, .int .i64 ((k : Nat) : Int)), (6, .int .i64 ((key.size : Nat) : Int)), (0, .string key)] _ := F183.cut rfl
           clear F18 F19 F20 F21 F121 F122 F123 F124 F125 F126 F127 F128 F170 F171 F172 F173 F174 F175 F176 F177 F178 F179 F181 F182 F183
           refine s_end (x_normal (x_cond (p := byteAt key k ≠ 45) (F184.ev 36 rfl) (fun h185 => ?_) (fun h185 => ?_)))
           · skip
             refine wp_seq (wp_region_lit (l_op (f_val F184 rfl rfl (r_assign rfl rfl) rfl fun _ F186 => ?_)))
             have F187 : Fr 41 [(2, .bool false)] _ := F186.cut rfl
             clear F184 F186
             refine s_end (x_normal (wp_ret (x_block_ret (x_then_ret (x_then_ret (x_block_ret (x_then_ret ?_)))))))
             refine x_done (v := .bool false) F187 (results_1 Tryd.results104 (.tmp (F187.ev 2 rfl))) ?_
             exact ⟨(by rw [(show false = (nameOk key) from by first | exact (nameOk_bad (j := k) (by omega) (by unfold nb; exact decide_eq_false (by omega))).symm | exact (nameOk_all (fun j hj => hk_1 j (by omega))).symm)]), (Mv.pick S7 [] rfl)⟩
           · skip
             refine wp_skip (x_block_normal (x_normal (wp_region_lit (l_op (f_val F184 rfl rfl (r_add (z := ((k + 1 : Nat) : Int)) rfl (F184.ev 7 rfl) rfl (by first | rfl | omega) ⟨by first | omega | (unfold i64ok at *; omega), by first | omega | (unfold i64ok at *; omega)⟩) rfl fun _ F188 => ?_)))))
             refine l_op (f_mv F188 rfl rfl rfl rfl rfl fun _ F189 => ?_)
             have F190 : Fr 41 [(7, .int .i64 ((k + 1 : Nat) : Int)), (6, .int .i64 ((key.size : Nat) : Int)), (0, .string key)] _ := F189.cut rfl
             clear F184 F188 F189
             refine s_end ?_
             refine x_normal ⟨k + 1, by omega, F190.cut rfl, (S7.pick [] rfl), by omega, all_step hk_1 (by unfold nb; exact decide_eq_true (by omega))⟩
         · rw [decide_eq_false h180] at F179
           refine l_op (f_skip F179 (wanted_g F179 rfl rfl rfl rfl) rfl rfl fun _ F191 => ?_)
           refine l_op (f_skip F191 (wanted_g F191 rfl rfl rfl rfl) rfl rfl fun _ F192 => ?_)
           refine l_op (f_val F192 rfl rfl (r_pick (b := false) rfl (F192.ev 33 rfl) rfl) rfl fun _ F193 => ?_)
           have F194 : Fr 41 [(36, .bool false), (7, .int .i64 ((k : Nat) : Int)), (6, .int .i64 ((key.size : Nat) : Int)), (0, .string key)] _ := F193.cut rfl
           clear F18 F19 F20 F21 F121 F122 F123 F124 F125 F126 F127 F128 F170 F171 F172 F173 F174 F175 F176 F177 F178 F179 F191 F192 F193
           refine s_end (x_normal (wp_cond_false (F194.ev 36 rfl) (wp_skip (x_block_normal (x_normal (wp_region_lit (l_op (f_val F194 rfl rfl (r_add (z := ((k + 1 : Nat) : Int)) rfl (F194.ev 7 rfl) rfl (by first | rfl | omega) ⟨by first | omega | (unfold i64ok at *; omega), by first | omega | (unfold i64ok at *; omega)⟩) rfl fun _ F195 => ?_))))))))
           refine l_op (f_mv F195 rfl rfl rfl rfl rfl fun _ F196 => ?_)
           have F197 : Fr 41 [(7, .int .i64 ((k + 1 : Nat) : Int)), (6, .int .i64 ((key.size : Nat) : Int)), (0, .string key)] _ := F196.cut rfl
           clear F194 F195 F196
           refine s_end ?_
           refine x_normal ⟨k + 1, by omega, F197.cut rfl, (S7.pick [] rfl), by omega, all_step hk_1 (by unfold nb; exact decide_eq_true (by omega))⟩
   · skip
     refine wp_exit (x_then_exit (x_then_exit (x_block_here (x_normal (wp_seq (wp_region_lit (l_op (f_mv F9 rfl rfl rfl rfl rfl fun _ F198 => ?_))))))))
     refine l_op (f_val F198 rfl rfl (r_lenS (fun t ht => by cases ht; exact Tryd.underlying9) rfl rfl (F198.ev 38 rfl)) rfl fun _ F199 => ?_)
     refine l_op (f_call F199 CF_94 rfl rfl rfl rfl (lc (F199.ev 39 rfl) (lc rfl (lc rfl rfl))) (impl_within_c (H := fun _ => True) (n := ((key.size : Nat) : Int)) (low := 1) (high := 12) (by first | assumption | exact ⟨by omega, by omega⟩ | (unfold i64ok at *; omega)) (by first | assumption | exact ⟨by omega, by omega⟩ | (unfold i64ok at *; omega)) (by first | assumption | exact ⟨by omega, by omega⟩ | (unfold i64ok at *; omega))) ?_)
     rintro _ w200 ⟨rfl, m200⟩
     refine ⟨_, rfl, fun _ F201 => ?_⟩
     have S200 := At.frame0 S7.at' m200
     clear m200
     refine l_op (f_as F201 rfl rfl rfl rfl rfl fun _ F202 => ?_)
     have F203 : Fr 41 [(2, .bool (inB ((key.size : Nat) : Int) 1 12))] _ := F202.cut rfl
     clear F9 F198 F199 F201 F202
     have T204 : Mv _ _ [] _ := S200
     refine s_end (x_normal (wp_ret ?_))
     refine x_done (v := .bool (inB ((key.size : Nat) : Int) 1 12)) F203 (results_1 Tryd.results104 (.tmp (F203.ev 2 rfl))) ?_
     exact ⟨(by rw [(show (inB ((key.size : Nat) : Int) 1 12) = (nameOk key) from by first | exact (nameOk_bad (j := k) (by omega) (by unfold nb; exact decide_eq_false (by omega))).symm | exact (nameOk_all (fun j hj => hk_1 j (by omega))).symm)]), (Mv.pick (S7.trans T204) [] rfl)⟩
theorem spec_NameOk_c {w : World} {H : Nat → Prop} {key : ByteArray} (h_key : okS key) :
    Calls Tryd.prog 126 #[.string key] w fun e w' => e = .returned (.bool (nameOk key)) ∧ Mv [] w [] w' := by
 have uU : True := (fun _ => trivial) H
 clear uU
 have kz := h_key
 unfold okS at kz
 refine calls_enter 35 Tryd.func126 rfl Tryd.ntmps126 (Nat.le_of_ble_eq_true rfl) (fun _ F0i => ?_)
 have F0 : Fr 35 [(0, .string key)] _ := F0i
 clear F0i
 refine wp_seq (wp_region_lit (l_op (f_val F0 rfl rfl (r_assign rfl rfl) rfl fun _ F1 => ?_)))
 have F2 : Fr 35 [(2, .bool false), (0, .string key)] _ := F1.cut rfl
 clear F0 F1
 refine s_end (x_normal (wp_seq (wp_seq (wp_region_lit (l_op (f_val F2 rfl rfl (r_assign rfl rfl) rfl fun _ F3 => ?_))))))
 have F4 : Fr 35 [(3, .int .i64 0), (0, .string key)] _ := F3.cut rfl
 clear F2 F3
 refine s_end (x_normal (wp_block ?_))
 refine x_loop (fun (k : Nat) aZ wZ => Fr 35 [(3, .int .i64 ((k : Nat) : Int)), (0, .string key)] aZ ∧ Mv [] w [] wZ ∧ (k ≤ key.size) ∧ (∀ j, j < k → nb (byteAt key j) = true)) (fun (k : Nat) => key.size - k) (0) ?_ ?_
 · exact ⟨F4.cut rfl, (Mv.refl (At.nil w)), by omega, all_none⟩
 · rintro k a5 w5 ⟨F5, S5, hk_0, hk_1⟩
   refine wp_seq (wp_seq (wp_region_lit (l_op (f_mv F5 rfl rfl rfl rfl rfl fun _ F6 => ?_))))
   refine l_op (f_mv F6 rfl rfl rfl rfl rfl fun _ F7 => ?_)
   refine l_op (f_val F7 rfl rfl (r_lenS (fun t ht => by cases ht; exact Tryd.underlying9) rfl rfl (F7.ev 6 rfl)) rfl fun _ F8 => ?_)
   refine l_op (f_val F8 rfl rfl (r_cmp (b := decide (k < key.size)) (.inr (.inr (.inl rfl))) rfl (F8.ev 5 rfl) (F8.ev 7 rfl) (dec_of (by omega))) rfl fun _ F9 => ?_)
   have F10 : Fr 35 [(8, .bool (decide (k < key.size))), (3, .int .i64 ((k : Nat) : Int)), (0, .string key)] _ := F9.cut rfl
   clear F5 F6 F7 F8 F9
   refine s_end (x_normal (x_cond (p := k < key.size) (F10.ev 8 rfl) (fun h11 => ?_) (fun h11 => ?_)))
   · skip
     refine wp_skip (x_normal (wp_seq (wp_block (wp_seq (wp_region_lit (l_op (f_mv F10 rfl rfl rfl rfl rfl fun _ F12 => ?_)))))))
     refine l_op (f_mv F12 rfl rfl rfl rfl rfl fun _ F13 => ?_)
     refine l_op (f_val F13 rfl rfl (r_indexS (i := k) Tryd.underlying9 rfl (F13.ev 11 rfl) (F13.ev 12 rfl) (by omega) (by first | assumption | omega)) rfl fun _ F14 => ?_)
     refine l_op (f_as F14 rfl rfl rfl rfl rfl fun _ F15 => ?_)
     have F16 : Fr 35 [(4, .int .u8 ((byteAt key k : Nat) : Int)), (3, .int .i64 ((k : Nat) : Int)), (0, .string key)] _ := F15.cut rfl
     clear F10 F12 F13 F14 F15
     refine s_end (x_normal (wp_seq (wp_region_lit (l_op (f_mv F16 rfl rfl rfl rfl rfl fun _ F17 => ?_)))))
     refine l_op (f_val F17 rfl rfl (r_convU8 Tryd.underlying3 Tryd.underlying5 rfl (F17.ev 14 rfl) ⟨by omega, by first | omega | (have := byteAt_lt key k; omega)⟩) rfl fun _ F18 => ?_)
     refine l_op (f_call F18 CF_144 rfl rfl rfl rfl (lc (F18.ev 15 rfl) (lc rfl (lc rfl rfl))) (spec_l01In_c (H := fun _ => True) (x := ((byteAt key k : Nat) : Int)) (least := 97) (most := 122) (by have := byteAt_lt key k; exact ⟨by omega, by omega⟩) (by first | assumption | exact ⟨by omega, by omega⟩ | (unfold i64ok at *; omega)) (by first | assumption | exact ⟨by omega, by omega⟩ | (unfold i64ok at *; omega))) ?_)
     rintro _ w19 ⟨rfl, m19⟩
     refine ⟨_, rfl, fun _ F20 => ?_⟩
     have S19 := At.frame0 S5.at' m19
     clear m19
     refine l_op (f_val F20 rfl rfl (r_not rfl (F20.ev 16 rfl)) rfl fun _ F21 => ?_)
     refine l_op (f_mv F21 rfl rfl rfl rfl rfl fun _ F22 => ?_)
     rcases Bool.eq_false_or_eq_true (!(inB ((byteAt key k : Nat) : Int) 97 122)) with h23 | h23
     · rw [h23] at F22
       refine l_op (f_mv F22 (wanted_g F22 rfl rfl rfl rfl) rfl rfl rfl rfl fun _ F24 => ?_)
       refine l_op (f_val F24 (wanted_g F24 rfl rfl rfl rfl) rfl (r_convU8 Tryd.underlying3 Tryd.underlying5 rfl (F24.ev 19 rfl) ⟨by omega, by first | omega | (have := byteAt_lt key k; omega)⟩) rfl fun _ F25 => ?_)
       refine l_op (f_call F25 CF_144 (wanted_g F25 rfl rfl rfl rfl) rfl rfl rfl (lc (F25.ev 20 rfl) (lc rfl (lc rfl rfl))) (spec_l01In_c (H := fun _ => True) (x := ((byteAt key k : Nat) : Int)) (least := 48) (most := 57) (by have := byteAt_lt key k; exact ⟨by omega, by omega⟩) (by first | assumption | exact ⟨by omega, by omega⟩ | (unfold i64ok at *; omega)) (by first | assumption | exact ⟨by omega, by omega⟩ | (unfold i64ok at *; omega))) ?_)
       rintro _ w26 ⟨rfl, m26⟩
       refine ⟨_, rfl, fun _ F27 => ?_⟩
       have S26 := At.frame0 S19.at' m26
       clear m26
       refine l_op (f_val F27 (wanted_g F27 rfl rfl rfl rfl) rfl (r_not rfl (F27.ev 21 rfl)) rfl fun _ F28 => ?_)
       refine l_op (f_val F28 rfl rfl (r_pick (b := true) rfl (F28.ev 18 rfl) (F28.ev 22 rfl)) rfl fun _ F29 => ?_)
       refine l_op (f_mv F29 rfl rfl rfl rfl rfl fun _ F30 => ?_)
       rcases Bool.eq_false_or_eq_true (!(inB ((byteAt key k : Nat) : Int) 48 57)) with h31 | h31
       · rw [h31] at F30
         refine l_op (f_mv F30 (wanted_g F30 rfl rfl rfl rfl) rfl rfl rfl rfl fun _ F32 => ?_)
         refine l_op (f_val F32 (wanted_g F32 rfl rfl rfl rfl) rfl (r_cmp (b := decide (byteAt key k ≠ 46)) (.inr (.inl rfl)) rfl (F32.ev 25 rfl) rfl (dec_of (by omega))) rfl fun _ F33 => ?_)
         refine l_op (f_val F33 rfl rfl (r_pick (b := true) rfl (F33.ev 24 rfl) (F33.ev 26 rfl)) rfl fun _ F34 => ?_)
         refine l_op (f_mv F34 rfl rfl rfl rfl rfl fun _ F35 => ?_)
         rcases Decidable.em (byteAt key k ≠ 46) with h36 | h36
         · rw [decide_eq_true h36] at F35
           refine l_op (f_mv F35 (wanted_g F35 rfl rfl rfl rfl) rfl rfl rfl rfl fun _ F37 => ?_)
           refine l_op (f_val F37 (wanted_g F37 rfl rfl rfl rfl) rfl (r_cmp (b := decide (byteAt key k ≠ 45)) (.inr (.inl rfl)) rfl (F37.ev 29 rfl) rfl (dec_of (by omega))) rfl fun _ F38 => ?_)
           refine l_op (f_val F38 rfl rfl (r_pick (b := true) rfl (F38.ev 28 rfl) (F38.ev 30 rfl)) rfl fun _ F39 => ?_)
           have F40 : Fr 35 [(31, .bool (decide (byteAt key k ≠ 45))), (3, .int .i64 ((k : Nat) : Int)), (0, .string key)] _ := F39.cut rfl
           clear F16 F17 F18 F20 F21 F22 F24 F25 F27 F28 F29 F30 F32 F33 F34 F35 F37 F38 F39
           have T41 : Mv _ _ [] _ := S26
           refine s_end (x_normal (x_cond (p := byteAt key k ≠ 45) (F40.ev 31 rfl) (fun h42 => ?_) (fun h42 => ?_)))
           · skip
             refine wp_seq (wp_region_lit (l_op (f_val F40 rfl rfl (r_assign rfl rfl) rfl fun _ F43 => ?_)))
             have F44 : Fr 35 [(2, .bool false)] _ := F43.cut rfl
             clear F40 F43
             refine s_end (x_normal (wp_ret (x_block_ret (x_then_ret (x_then_ret (x_block_ret (x_then_ret ?_)))))))
             refine x_done (v := .bool false) F44 (results_1 Tryd.results126 (.tmp (F44.ev 2 rfl))) ?_
             exact ⟨(by rw [(show false = (nameOk key) from by first | exact (nameOk_bad (j := k) (by omega) (by rw [nb_in]; simp_all)).symm | exact (nameOk_all (fun j hj => hk_1 j (by omega))).symm)]), (Mv.pick (S5.trans (S19.trans T41)) [] rfl)⟩
           · skip
             refine wp_skip (x_block_normal (x_normal (wp_region_lit (l_op (f_mv F40 rfl rfl rfl rfl rfl fun _ F45 => ?_)))))
             refine l_op (f_val F45 rfl rfl (r_add (z := ((k + 1 : Nat) : Int)) rfl (F45.ev 9 rfl) rfl (by first | rfl | omega) ⟨by first | omega | (unfold i64ok at *; omega), by first | omega | (unfold i64ok at *; omega)⟩) rfl fun _ F46 => ?_)
             refine l_op (f_as F46 rfl rfl rfl rfl rfl fun _ F47 => ?_)
             have F48 : Fr 35 [(3, .int .i64 ((k + 1 : Nat) : Int)), (0, .string key)] _ := F47.cut rfl
             clear F40 F45 F46 F47
             refine s_end ?_
             refine x_normal ⟨k + 1, by omega, F48.cut rfl, ((S5.trans (S19.trans T41)).pick [] rfl), by omega, all_step hk_1 (by rw [nb_in]; simp_all)⟩
         · rw [decide_eq_false h36] at F35
           refine l_op (f_skip F35 (wanted_g F35 rfl rfl rfl rfl) rfl rfl fun _ F49 => ?_)
           refine l_op (f_skip F49 (wanted_g F49 rfl rfl rfl rfl) rfl rfl fun _ F50 => ?_)
           refine l_op (f_val F50 rfl rfl (r_pick (b := false) rfl (F50.ev 28 rfl) rfl) rfl fun _ F51 => ?_)
           have F52 : Fr 35 [(31, .bool false), (3, .int .i64 ((k : Nat) : Int)), (0, .string key)] _ := F51.cut rfl
           clear F16 F17 F18 F20 F21 F22 F24 F25 F27 F28 F29 F30 F32 F33 F34 F35 F49 F50 F51
           have T53 : Mv _ _ [] _ := S26
           refine s_end (x_normal (wp_cond_false (F52.ev 31 rfl) (wp_skip (x_block_normal (x_normal (wp_region_lit (l_op (f_mv F52 rfl rfl rfl rfl rfl fun _ F54 => ?_))))))))
           refine l_op (f_val F54 rfl rfl (r_add (z := ((k + 1 : Nat) : Int)) rfl (F54.ev 9 rfl) rfl (by first | rfl | omega) ⟨by first | omega | (unfold i64ok at *; omega), by first | omega | (unfold i64ok at *; omega)⟩) rfl fun _ F55 => ?_)
           refine l_op (f_as F55 rfl rfl rfl rfl rfl fun _ F56 => ?_)
           have F57 : Fr 35 [(3, .int .i64 ((k + 1 : Nat) : Int)), (0, .string key)] _ := F56.cut rfl
           clear F52 F54 F55 F56
           refine s_end ?_
           refine x_normal ⟨k + 1, by omega, F57.cut rfl, ((S5.trans (S19.trans T53)).pick [] rfl), by omega, all_step hk_1 (by rw [nb_in]; simp_all)⟩
       · rw [h31] at F30
         refine l_op (f_skip F30 (wanted_g F30 rfl rfl rfl rfl) rfl rfl fun _ F58 => ?_)
         refine l_op (f_skip F58 (wanted_g F58 rfl rfl rfl rfl) rfl rfl fun _ F59 => ?_)
         refine l_op (f_val F59 rfl rfl (r_pick (b := false) rfl (F59.ev 24 rfl) rfl) rfl fun _ F60 => ?_)
         refine l_op (f_mv F60 rfl rfl rfl rfl rfl fun _ F61 => ?_)
         refine l_op (f_skip F61 (wanted_g F61 rfl rfl rfl rfl) rfl rfl fun _ F62 => ?_)
         refine l_op (f_skip F62 (wanted_g F62 rfl rfl rfl rfl) rfl rfl fun _ F63 => ?_)
         refine l_op (f_val F63 rfl rfl (r_pick (b := false) rfl (F63.ev 28 rfl) rfl) rfl fun _ F64 => ?_)
         have F65 : Fr 35 [(31, .bool false), (3, .int .i64 ((k : Nat) : Int)), (0, .string key)] _ := F64.cut rfl
         clear F16 F17 F18 F20 F21 F22 F24 F25 F27 F28 F29 F30 F58 F59 F60 F61 F62 F63 F64
         have T66 : Mv _ _ [] _ := S26
         refine s_end (x_normal (wp_cond_false (F65.ev 31 rfl) (wp_skip (x_block_normal (x_normal (wp_region_lit (l_op (f_mv F65 rfl rfl rfl rfl rfl fun _ F67 => ?_))))))))
         refine l_op (f_val F67 rfl rfl (r_add (z := ((k + 1 : Nat) : Int)) rfl (F67.ev 9 rfl) rfl (by first | rfl | omega) ⟨by first | omega | (unfold i64ok at *; omega), by first | omega | (unfold i64ok at *; omega)⟩) rfl fun _ F68 => ?_)
         refine l_op (f_as F68 rfl rfl rfl rfl rfl fun _ F69 => ?_)
         have F70 : Fr 35 [(3, .int .i64 ((k + 1 : Nat) : Int)), (0, .string key)] _ := F69.cut rfl
         clear F65 F67 F68 F69
         refine s_end ?_
         refine x_normal ⟨k + 1, by omega, F70.cut rfl, ((S5.trans (S19.trans T66)).pick [] rfl), by omega, all_step hk_1 (by rw [nb_in]; simp_all)⟩
     · rw [h23] at F22
       refine l_op (f_skip F22 (wanted_g F22 rfl rfl rfl rfl) rfl rfl fun _ F71 => ?_)
       refine l_op (f_skip F71 (wanted_g F71 rfl rfl rfl rfl) rfl rfl fun _ F72 => ?_)
       refine l_op (f_skip F72 (wanted_g F72 rfl rfl rfl rfl) rfl rfl fun _ F73 => ?_)
       refine l_op (f_skip F73 (wanted_g F73 rfl rfl rfl rfl) rfl rfl fun _ F74 => ?_)
       refine l_op (f_val F74 rfl rfl (r_pick (b := false) rfl (F74.ev 18 rfl) rfl) rfl fun _ F75 => ?_)
       refine l_op (f_mv F75 rfl rfl rfl rfl rfl fun _ F76 => ?_)
       refine l_op (f_skip F76 (wanted_g F76 rfl rfl rfl rfl) rfl rfl fun _ F77 => ?_)
       refine l_op (f_skip F77 (wanted_g F77 rfl rfl rfl rfl) rfl rfl fun _ F78 => ?_)
       refine l_op (f_val F78 rfl rfl (r_pick (b := false) rfl (F78.ev 24 rfl) rfl) rfl fun _ F79 => ?_)
       refine l_op (f_mv F79 rfl rfl rfl rfl rfl fun _ F80 => ?_)
       refine l_op (f_skip F80 (wanted_g F80 rfl rfl rfl rfl) rfl rfl fun _ F81 => ?_)
       refine l_op (f_skip F81 (wanted_g F81 rfl rfl rfl rfl) rfl rfl fun _ F82 => ?_)
       refine l_op (f_val F82 rfl rfl (r_pick (b := false) rfl (F82.ev 28 rfl) rfl) rfl fun _ F83 => ?_)
       have F84 : Fr 35 [(31, .bool false), (3, .int .i64 ((k : Nat) : Int)), (0, .string key)] _ := F83.cut rfl
       clear F16 F17 F18 F20 F21 F22 F71 F72 F73 F74 F75 F76 F77 F78 F79 F80 F81 F82 F83
       have T85 : Mv _ _ [] _ := S19
       refine s_end (x_normal (wp_cond_false (F84.ev 31 rfl) (wp_skip (x_block_normal (x_normal (wp_region_lit (l_op (f_mv F84 rfl rfl rfl rfl rfl fun _ F86 => ?_))))))))
       refine l_op (f_val F86 rfl rfl (r_add (z := ((k + 1 : Nat) : Int)) rfl (F86.ev 9 rfl) rfl (by first | rfl | omega) ⟨by first | omega | (unfold i64ok at *; omega), by first | omega | (unfold i64ok at *; omega)⟩) rfl fun _ F87 => ?_)
       refine l_op (f_as F87 rfl rfl rfl rfl rfl fun _ F88 => ?_)
       have F89 : Fr 35 [(3, .int .i64 ((k + 1 : Nat) : Int)), (0, .string key)] _ := F88.cut rfl
       clear F84 F86 F87 F88
       refine s_end ?_
       refine x_normal ⟨k + 1, by omega, F89.cut rfl, ((S5.trans T85).pick [] rfl), by omega, all_step hk_1 (by rw [nb_in]; simp_all)⟩
   · skip
     refine wp_exit (x_then_exit (x_then_exit (x_block_here (x_normal (wp_seq (wp_region_lit (l_op (f_mv F10 rfl rfl rfl rfl rfl fun _ F90 => ?_))))))))
     refine l_op (f_val F90 rfl rfl (r_lenS (fun t ht => by cases ht; exact Tryd.underlying9) rfl rfl (F90.ev 32 rfl)) rfl fun _ F91 => ?_)
     refine l_op (f_call F91 CF_144 rfl rfl rfl rfl (lc (F91.ev 33 rfl) (lc rfl (lc rfl rfl))) (spec_l01In_c (H := fun _ => True) (x := ((key.size : Nat) : Int)) (least := 1) (most := 12) (by first | assumption | exact ⟨by omega, by omega⟩ | (unfold i64ok at *; omega)) (by first | assumption | exact ⟨by omega, by omega⟩ | (unfold i64ok at *; omega)) (by first | assumption | exact ⟨by omega, by omega⟩ | (unfold i64ok at *; omega))) ?_)
     rintro _ w92 ⟨rfl, m92⟩
     refine ⟨_, rfl, fun _ F93 => ?_⟩
     have S92 := At.frame0 S5.at' m92
     clear m92
     refine l_op (f_as F93 rfl rfl rfl rfl rfl fun _ F94 => ?_)
     have F95 : Fr 35 [(2, .bool (inB ((key.size : Nat) : Int) 1 12))] _ := F94.cut rfl
     clear F10 F90 F91 F93 F94
     have T96 : Mv _ _ [] _ := S92
     refine s_end (x_normal (wp_ret ?_))
     refine x_done (v := .bool (inB ((key.size : Nat) : Int) 1 12)) F95 (results_1 Tryd.results126 (.tmp (F95.ev 2 rfl))) ?_
     exact ⟨(by rw [(show (inB ((key.size : Nat) : Int) 1 12) = (nameOk key) from by first | exact (nameOk_bad (j := k) (by omega) (by rw [nb_in]; simp_all)).symm | exact (nameOk_all (fun j hj => hk_1 j (by omega))).symm)]), (Mv.pick (S5.trans T96) [] rfl)⟩
theorem impl_nameKey_c {w : World} {H : Nat → Prop} {name : ByteArray} (h_name : okS name) (p0 : name.size ≤ 12) :
    Calls Tryd.prog 105 #[.string name] w fun e w' => e = .returned (.string ((⟨#[110, 47]⟩ : ByteArray) ++ name)) ∧ Mv [] w [] w' ∧ okS ((⟨#[110, 47]⟩ : ByteArray) ++ name) := by
 have uU : True := (fun _ _ _ => trivial) H h_name p0
 clear uU
 refine calls_enter 5 Tryd.func105 rfl Tryd.ntmps105 (Nat.le_of_ble_eq_true rfl) (fun _ F0i => ?_)
 have F0 : Fr 5 [(0, .string name)] _ := F0i
 clear F0i
 refine wp_seq (wp_region_lit (l_op (f_val F0 rfl rfl (r_assign rfl rfl) rfl fun _ F1 => ?_)))
 have F2 : Fr 5 [(2, .string (⟨#[]⟩ : ByteArray)), (0, .string name)] _ := F1.cut rfl
 clear F0 F1
 refine s_end (x_normal (wp_seq (wp_region_lit (l_op (f_mv F2 rfl rfl rfl rfl rfl fun _ F3 => ?_)))))
 have k4 : (⟨#[110, 47]⟩ : ByteArray).size + name.size ≤ 9223372036854775807 := by have e : (⟨#[110, 47]⟩ : ByteArray).size = 2 := rfl; omega
 refine l_op (f_val F3 rfl rfl (r_cat rfl rfl (F3.ev 3 rfl) k4) rfl fun _ F5 => ?_)
 refine l_op (f_as F5 rfl rfl rfl rfl rfl fun _ F6 => ?_)
 have F7 : Fr 5 [(2, .string ((⟨#[110, 47]⟩ : ByteArray) ++ name))] _ := F6.cut rfl
 clear F2 F3 F5 F6
 refine s_end (x_normal (wp_ret ?_))
 refine x_done (v := .string ((⟨#[110, 47]⟩ : ByteArray) ++ name)) F7 (results_1 Tryd.results105 (.tmp (F7.ev 2 rfl))) ?_
 exact ⟨rfl, (Mv.pick (Mv.refl (At.nil w)) [] rfl), (okS_cat k4)⟩
theorem impl_Mach_fileOf_c {w : World} {H : Nat → Prop} {m : MachD} {m_store_a : Option Addr} {m_store_n m_store_c : Nat} {m_touch_reads_a : Option Addr} {m_touch_reads_n m_touch_reads_c : Nat} {m_touch_writes_a : Option Addr} {m_touch_writes_n m_touch_writes_c : Nat} {m_b : Nat} {name : ByteArray} (h_name : okS name) (tab0 : Tb 0 H w) (tab1 : Tb 1 H w) (p0 : bdC 34359738368 m) (hA : At w [bx m_b [.slice m_store_a m_store_n m_store_c, .slice m_touch_reads_a m_touch_reads_n m_touch_reads_c, .slice m_touch_writes_a m_touch_writes_n m_touch_writes_c] 31, ow 81 2 encC okC (.slice m_store_a m_store_n m_store_c) m.store, ow 9 1 encS okS (.slice m_touch_reads_a m_touch_reads_n m_touch_reads_c) m.touch.reads, ow 9 1 encS okS (.slice m_touch_writes_a m_touch_writes_n m_touch_writes_c) m.touch.writes]) (hD : ∀ b, H b → ¬ fps [bx m_b [.slice m_store_a m_store_n m_store_c, .slice m_touch_reads_a m_touch_reads_n m_touch_reads_c, .slice m_touch_writes_a m_touch_writes_n m_touch_writes_c] 31, ow 81 2 encC okC (.slice m_store_a m_store_n m_store_c) m.store, ow 9 1 encS okS (.slice m_touch_reads_a m_touch_reads_n m_touch_reads_c) m.touch.reads, ow 9 1 encS okS (.slice m_touch_writes_a m_touch_writes_n m_touch_writes_c) m.touch.writes] b) :
    Calls Tryd.prog 62 #[.pointer (some ⟨m_b, 0, none⟩), .string name] w fun e w' => ∃ (q_m_store_a : Option Addr), ∃ (q_m_store_n : Nat), ∃ (q_m_store_c : Nat), ∃ (q_m_touch_reads_a : Option Addr), ∃ (q_m_touch_reads_n : Nat), ∃ (q_m_touch_reads_c : Nat), ∃ (q_m_touch_writes_a : Option Addr), ∃ (q_m_touch_writes_n : Nat), ∃ (q_m_touch_writes_c : Nat), e = .returned (.int .i64 ((fo m name : Nat) : Int)) ∧ Mv [bx m_b [.slice m_store_a m_store_n m_store_c, .slice m_touch_reads_a m_touch_reads_n m_touch_reads_c, .slice m_touch_writes_a m_touch_writes_n m_touch_writes_c] 31, ow 81 2 encC okC (.slice m_store_a m_store_n m_store_c) m.store, ow 9 1 encS okS (.slice m_touch_reads_a m_touch_reads_n m_touch_reads_c) m.touch.reads, ow 9 1 encS okS (.slice m_touch_writes_a m_touch_writes_n m_touch_writes_c) m.touch.writes] w [bx m_b [.slice q_m_store_a q_m_store_n q_m_store_c, .slice q_m_touch_reads_a q_m_touch_reads_n q_m_touch_reads_c, .slice q_m_touch_writes_a q_m_touch_writes_n q_m_touch_writes_c] 31, ow 81 2 encC okC (.slice q_m_store_a q_m_store_n q_m_store_c) (foM m name).store, ow 9 1 encS okS (.slice q_m_touch_reads_a q_m_touch_reads_n q_m_touch_reads_c) (foM m name).touch.reads, ow 9 1 encS okS (.slice q_m_touch_writes_a q_m_touch_writes_n q_m_touch_writes_c) (foM m name).touch.writes] w' := by
 have uU : True := (fun _ => trivial) p0
 clear uU
 have V_tab0 : Tb 0 (V H w [bx m_b [.slice m_store_a m_store_n m_store_c, .slice m_touch_reads_a m_touch_reads_n m_touch_reads_c, .slice m_touch_writes_a m_touch_writes_n m_touch_writes_c] 31, ow 81 2 encC okC (.slice m_store_a m_store_n m_store_c) m.store, ow 9 1 encS okS (.slice m_touch_reads_a m_touch_reads_n m_touch_reads_c) m.touch.reads, ow 9 1 encS okS (.slice m_touch_writes_a m_touch_writes_n m_touch_writes_c) m.touch.writes]) w := Tb.start tab0 hD
 have V_tab1 : Tb 1 (V H w [bx m_b [.slice m_store_a m_store_n m_store_c, .slice m_touch_reads_a m_touch_reads_n m_touch_reads_c, .slice m_touch_writes_a m_touch_writes_n m_touch_writes_c] 31, ow 81 2 encC okC (.slice m_store_a m_store_n m_store_c) m.store, ow 9 1 encS okS (.slice m_touch_reads_a m_touch_reads_n m_touch_reads_c) m.touch.reads, ow 9 1 encS okS (.slice m_touch_writes_a m_touch_writes_n m_touch_writes_c) m.touch.writes]) w := Tb.start tab1 hD
 obtain ⟨lo1, lp1, lq1⟩ := At.ownInv hA ET_26.hk 1 rfl
 obtain ⟨lo2, lp2, lq2⟩ := At.ownInv hA ET_27.hk 2 rfl
 obtain ⟨lo3, lp3, lq3⟩ := At.ownInv hA ET_27.hk 3 rfl
 refine calls_enter 12 Tryd.func62 rfl Tryd.ntmps62 (Nat.le_of_ble_eq_true rfl) (fun _ F0i => ?_)
 have F0 : Fr 12 [(0, .pointer (some ⟨m_b, 0, none⟩)), (1, .string name)] _ := F0i
 clear F0i
 refine wp_seq (wp_region_lit (l_op (f_val F0 rfl rfl (r_assign rfl rfl) rfl fun _ F1 => ?_)))
 have F2 : Fr 12 [(4, .int .i64 0), (0, .pointer (some ⟨m_b, 0, none⟩)), (1, .string name)] _ := F1.cut rfl
 clear F0 F1
 refine s_end (x_normal (wp_seq (wp_seq (wp_region_lit (l_op (f_mv F2 rfl rfl rfl rfl rfl fun _ F3 => ?_))))))
 refine l_op (f_call F3 CF_104 rfl rfl rfl rfl (lc (F3.ev 5 rfl) rfl) (impl_NameOk_c (H := fun _ => True) (key := name) h_name) ?_)
 rintro _ w4 ⟨rfl, m4⟩
 refine ⟨_, rfl, fun _ F5 => ?_⟩
 have S4 := At.frame0 hA m4
 clear m4
 refine l_op (f_val F5 rfl rfl (r_not rfl (F5.ev 6 rfl)) rfl fun _ F6 => ?_)
 have F7 : Fr 12 [(7, .bool (!(nameOk name))), (0, .pointer (some ⟨m_b, 0, none⟩)), (1, .string name)] _ := F6.cut rfl
 clear F2 F3 F5 F6
 have T8 : Mv _ _ [bx m_b [.slice m_store_a m_store_n m_store_c, .slice m_touch_reads_a m_touch_reads_n m_touch_reads_c, .slice m_touch_writes_a m_touch_writes_n m_touch_writes_c] 31, ow 81 2 encC okC (.slice m_store_a m_store_n m_store_c) m.store, ow 9 1 encS okS (.slice m_touch_reads_a m_touch_reads_n m_touch_reads_c) m.touch.reads, ow 9 1 encS okS (.slice m_touch_writes_a m_touch_writes_n m_touch_writes_c) m.touch.writes] _ := S4
 refine s_end (x_normal (x_condb (b := (!(nameOk name))) (F7.ev 7 rfl) (fun h9 => ?_) (fun h9 => ?_)))
 · skip
   refine wp_seq (wp_region_lit (l_op (f_val F7 rfl rfl (r_assign rfl rfl) rfl fun _ F10 => ?_)))
   have F11 : Fr 12 [(4, .int .i64 0)] _ := F10.cut rfl
   clear F7 F10
   refine s_end (x_normal (wp_ret (x_then_ret ?_)))
   refine x_done (v := .int .i64 0) F11 (results_1 Tryd.results62 (.tmp (F11.ev 4 rfl))) ?_
   exact ⟨m_store_a, m_store_n, m_store_c, m_touch_reads_a, m_touch_reads_n, m_touch_reads_c, m_touch_writes_a, m_touch_writes_n, m_touch_writes_c, (by rw [(show 0 = ((fo m name : Nat) : Int) from by first | exact (fo_t (nf (by assumption))).1 | exact (fo_f (nt (by assumption))).1 | (rw [(fo_t (nf (by assumption))).2]) | (rw [(fo_f (nt (by assumption))).2]))]), (Mv.cast (Mv.pick T8 [0, 1, 2, 3] rfl) (by rw [(show m.store = (foM m name).store from by first | exact (fo_t (nf (by assumption))).1 | exact (fo_f (nt (by assumption))).1 | (rw [(fo_t (nf (by assumption))).2]) | (rw [(fo_f (nt (by assumption))).2])), (show m.touch.reads = (foM m name).touch.reads from by first | exact (fo_t (nf (by assumption))).1 | exact (fo_f (nt (by assumption))).1 | (rw [(fo_t (nf (by assumption))).2]) | (rw [(fo_f (nt (by assumption))).2])), (show m.touch.writes = (foM m name).touch.writes from by first | exact (fo_t (nf (by assumption))).1 | exact (fo_f (nt (by assumption))).1 | (rw [(fo_t (nf (by assumption))).2]) | (rw [(fo_f (nt (by assumption))).2]))]; all_goals rfl))⟩
 · skip
   refine wp_skip (x_normal (wp_seq (wp_region_lit (l_op (f_mv F7 rfl rfl rfl rfl rfl fun _ F12 => ?_)))))
   refine l_op (f_mv F12 rfl rfl rfl rfl rfl fun _ F13 => ?_)
   refine l_op (f_call F13 CF_105 rfl rfl rfl rfl (lc (F13.ev 9 rfl) rfl) (impl_nameKey_c (H := fun _ => True) (name := name) h_name (by exact nameOk_size (nf (by assumption)))) ?_)
   rintro _ w14 ⟨rfl, m14, ok_r0_14⟩
   refine ⟨_, rfl, fun _ F15 => ?_⟩
   have S14 := At.frame0 T8.at' m14
   clear m14
   refine l_op (f_call F15 CF_57 rfl rfl rfl rfl (lc (F15.ev 8 rfl) (lc (F15.ev 10 rfl) rfl)) (impl_Mach_num_c (m := m) (key := (⟨#[110, 47]⟩ : ByteArray) ++ name) ok_r0_14 (Tb.mv V_tab0 (T8.trans S14)) (Tb.mv V_tab1 (T8.trans S14)) (by first | assumption | omega | (refine bdC.s ?_; (repeat (first | with_reducible refine bdC.look ?_ | with_reducible refine bdC.lay ?_ | with_reducible refine bdC.set ?_ | with_reducible refine bdC.fo ?_)); exact bdC.le (by assumption) (by first | decide | omega)) | (refine bdC.r ?_; (repeat (first | with_reducible refine bdC.look ?_ | with_reducible refine bdC.lay ?_ | with_reducible refine bdC.set ?_ | with_reducible refine bdC.fo ?_)); exact bdC.le (by assumption) (by first | decide | omega)) | (refine bdC.w ?_; (repeat (first | with_reducible refine bdC.look ?_ | with_reducible refine bdC.lay ?_ | with_reducible refine bdC.set ?_ | with_reducible refine bdC.fo ?_)); exact bdC.le (by assumption) (by first | decide | omega)) | ((repeat (first | with_reducible refine bdC.look ?_ | with_reducible refine bdC.lay ?_ | with_reducible refine bdC.set ?_ | with_reducible refine bdC.fo ?_)); exact bdC.le (by assumption) (by first | decide | omega)) | decide | exact Nat.le_trans (keyNum_size _ _ (by assumption)) (by decide) | exact Nat.le_trans (keyNum_size _ _ ⟨by omega, by omega⟩) (by decide)) (At.pick (is := [0, 1, 2, 3]) S14.at' rfl) (V_off (is := [0, 1, 2, 3]))) ?_)
   rintro _ w16 ⟨qm_store_a_16, qm_store_n_16, qm_store_c_16, qm_touch_reads_a_16, qm_touch_reads_n_16, qm_touch_reads_c_16, qm_touch_writes_a_16, qm_touch_writes_n_16, qm_touch_writes_c_16, rfl, m16⟩
   refine ⟨_, rfl, fun _ F17 => ?_⟩
   have S16 : Mv _ _ [bx m_b [.slice qm_store_a_16 qm_store_n_16 qm_store_c_16, .slice qm_touch_reads_a_16 qm_touch_reads_n_16 qm_touch_reads_c_16, .slice qm_touch_writes_a_16 qm_touch_writes_n_16 qm_touch_writes_c_16] 31, ow 81 2 encC okC (.slice qm_store_a_16 qm_store_n_16 qm_store_c_16) (lookM m ((⟨#[110, 47]⟩ : ByteArray) ++ name)).store, ow 9 1 encS okS (.slice qm_touch_reads_a_16 qm_touch_reads_n_16 qm_touch_reads_c_16) (lookM m ((⟨#[110, 47]⟩ : ByteArray) ++ name)).touch.reads, ow 9 1 encS okS (.slice qm_touch_writes_a_16 qm_touch_writes_n_16 qm_touch_writes_c_16) (lookM m ((⟨#[110, 47]⟩ : ByteArray) ++ name)).touch.writes] _ := At.frame S14.at' [0, 1, 2, 3] rfl m16
   obtain ⟨lo16_1, lp16_1, lq16_1⟩ := At.ownInv S16.at' ET_26.hk 1 rfl
   obtain ⟨lo16_2, lp16_2, lq16_2⟩ := At.ownInv S16.at' ET_27.hk 2 rfl
   obtain ⟨lo16_3, lp16_3, lq16_3⟩ := At.ownInv S16.at' ET_27.hk 3 rfl
   clear m16
   refine l_op (f_as F17 rfl rfl rfl rfl rfl fun _ F18 => ?_)
   have F19 : Fr 12 [(4, .int .i64 ((numOf (getKey m.store ((⟨#[110, 47]⟩ : ByteArray) ++ name)) : Nat) : Int))] _ := F18.cut rfl
   clear F7 F12 F13 F15 F17 F18
   refine s_end (x_normal (wp_ret ?_))
   refine x_done (v := .int .i64 ((numOf (getKey m.store ((⟨#[110, 47]⟩ : ByteArray) ++ name)) : Nat) : Int)) F19 (results_1 Tryd.results62 (.tmp (F19.ev 4 rfl))) ?_
   exact ⟨qm_store_a_16, qm_store_n_16, qm_store_c_16, qm_touch_reads_a_16, qm_touch_reads_n_16, qm_touch_reads_c_16, qm_touch_writes_a_16, qm_touch_writes_n_16, qm_touch_writes_c_16, (by rw [(show ((numOf (getKey m.store ((⟨#[110, 47]⟩ : ByteArray) ++ name)) : Nat) : Int) = ((fo m name : Nat) : Int) from by first | exact (fo_t (nf (by assumption))).1 | exact (fo_f (nt (by assumption))).1 | (rw [(fo_t (nf (by assumption))).2]) | (rw [(fo_f (nt (by assumption))).2]))]), (Mv.cast (Mv.pick (T8.trans (S14.trans S16)) [0, 1, 2, 3] rfl) (by rw [(show (lookM m ((⟨#[110, 47]⟩ : ByteArray) ++ name)).store = (foM m name).store from by first | exact (fo_t (nf (by assumption))).1 | exact (fo_f (nt (by assumption))).1 | (rw [(fo_t (nf (by assumption))).2]) | (rw [(fo_f (nt (by assumption))).2])), (show (lookM m ((⟨#[110, 47]⟩ : ByteArray) ++ name)).touch.reads = (foM m name).touch.reads from by first | exact (fo_t (nf (by assumption))).1 | exact (fo_f (nt (by assumption))).1 | (rw [(fo_t (nf (by assumption))).2]) | (rw [(fo_f (nt (by assumption))).2])), (show (lookM m ((⟨#[110, 47]⟩ : ByteArray) ++ name)).touch.writes = (foM m name).touch.writes from by first | exact (fo_t (nf (by assumption))).1 | exact (fo_f (nt (by assumption))).1 | (rw [(fo_t (nf (by assumption))).2]) | (rw [(fo_f (nt (by assumption))).2]))]; all_goals rfl))⟩
theorem impl_FileOf_c {w : World} {H : Nat → Prop} {m : MachD} {m_store_a : Option Addr} {m_store_n m_store_c : Nat} {m_touch_reads_a : Option Addr} {m_touch_reads_n m_touch_reads_c : Nat} {m_touch_writes_a : Option Addr} {m_touch_writes_n m_touch_writes_c : Nat} {name : ByteArray} (v_m_store : Rd 2 encC okC H w (.slice m_store_a m_store_n m_store_c) m.store) (v_m_touch_reads : Rd 1 encS okS H w (.slice m_touch_reads_a m_touch_reads_n m_touch_reads_c) m.touch.reads) (v_m_touch_writes : Rd 1 encS okS H w (.slice m_touch_writes_a m_touch_writes_n m_touch_writes_c) m.touch.writes) (h_name : okS name) (tab0 : Tb 0 H w) (tab1 : Tb 1 H w) (p0 : bdC 17179869184 m) :
    Calls Tryd.prog 27 #[.agg #[.slice m_store_a m_store_n m_store_c, .slice m_touch_reads_a m_touch_reads_n m_touch_reads_c, .slice m_touch_writes_a m_touch_writes_n m_touch_writes_c], .string name] w fun e w' => ∃ (r0_store_a : Option Addr), ∃ (r0_store_n : Nat), ∃ (r0_store_c : Nat), ∃ (r0_touch_reads_a : Option Addr), ∃ (r0_touch_reads_n : Nat), ∃ (r0_touch_reads_c : Nat), ∃ (r0_touch_writes_a : Option Addr), ∃ (r0_touch_writes_n : Nat), ∃ (r0_touch_writes_c : Nat), e = .returned (.tuple #[.agg #[.slice r0_store_a r0_store_n r0_store_c, .slice r0_touch_reads_a r0_touch_reads_n r0_touch_reads_c, .slice r0_touch_writes_a r0_touch_writes_n r0_touch_writes_c], .int .i64 ((fo m name : Nat) : Int)]) ∧ Mv [] w [ow 81 2 encC okC (.slice r0_store_a r0_store_n r0_store_c) (foM m name).store, ow 9 1 encS okS (.slice r0_touch_reads_a r0_touch_reads_n r0_touch_reads_c) (foM m name).touch.reads, ow 9 1 encS okS (.slice r0_touch_writes_a r0_touch_writes_n r0_touch_writes_c) (foM m name).touch.writes] w' := by
 have uU : True := (fun _ => trivial) p0
 clear uU
 have V_v_m_store : Rd 2 encC okC (V H w []) w (.slice m_store_a m_store_n m_store_c) m.store := Rd.start v_m_store (fun _ _ => fps_nil _)
 obtain ⟨ln_m_store, le_m_store, mx_m_store, ni_m_store⟩ := Rd.inv v_m_store
 have V_v_m_touch_reads : Rd 1 encS okS (V H w []) w (.slice m_touch_reads_a m_touch_reads_n m_touch_reads_c) m.touch.reads := Rd.start v_m_touch_reads (fun _ _ => fps_nil _)
 obtain ⟨ln_m_touch_reads, le_m_touch_reads, mx_m_touch_reads, ni_m_touch_reads⟩ := Rd.inv v_m_touch_reads
 have V_v_m_touch_writes : Rd 1 encS okS (V H w []) w (.slice m_touch_writes_a m_touch_writes_n m_touch_writes_c) m.touch.writes := Rd.start v_m_touch_writes (fun _ _ => fps_nil _)
 obtain ⟨ln_m_touch_writes, le_m_touch_writes, mx_m_touch_writes, ni_m_touch_writes⟩ := Rd.inv v_m_touch_writes
 have V_tab0 : Tb 0 (V H w []) w := Tb.start tab0 (fun _ _ => fps_nil _)
 have V_tab1 : Tb 1 (V H w []) w := Tb.start tab1 (fun _ _ => fps_nil _)
 refine calls_enter 13 Tryd.func27 rfl Tryd.ntmps27 (Nat.le_of_ble_eq_true rfl) (fun _ F0i => ?_)
 have F0 : Fr 13 [(0, .agg #[.slice m_store_a m_store_n m_store_c, .slice m_touch_reads_a m_touch_reads_n m_touch_reads_c, .slice m_touch_writes_a m_touch_writes_n m_touch_writes_c]), (1, .string name)] _ := F0i
 clear F0i
 refine wp_seq (wp_region_lit (l_op (f_box F0 (At.nil w) rfl rfl rfl (F0.ev 0 rfl) rfl rfl fun b1 _ w1 F2 S1 => ?_)))
 refine l_op (f_alloc F2 S1.at' ZI_31 rfl rfl rfl rfl rfl fun b3 _ w3 F4 S3 => ?_)
 refine l_op (f_val F4 rfl rfl (r_assign rfl rfl) rfl fun _ F5 => ?_)
 have F6 : Fr 13 [(5, .int .i64 0), (4, .pointer (some ⟨b3, 0, none⟩)), (2, .pointer (some ⟨b1, 0, none⟩)), (1, .string name)] _ := F5.cut rfl
 clear F0 F2 F4 F5
 have T7 : Mv _ _ [bx b3 [.slice none 0 0, .slice none 0 0, .slice none 0 0] 31, bx b1 [.slice m_store_a m_store_n m_store_c, .slice m_touch_reads_a m_touch_reads_n m_touch_reads_c, .slice m_touch_writes_a m_touch_writes_n m_touch_writes_c] 31] _ := S3
 refine s_end (x_normal (wp_seq (wp_region_lit (l_op (f_val (v := .agg #[.slice m_store_a m_store_n m_store_c, .slice m_touch_reads_a m_touch_reads_n m_touch_reads_c, .slice m_touch_writes_a m_touch_writes_n m_touch_writes_c]) F6 rfl rfl (r_loadB T7.at' 1 TI_31 rfl rfl (F6.ev 2 rfl) rfl rfl (fun h => nomatch h) rfl) rfl fun _ F8 => ?_)))))
 refine l_op (f_call F8 CF_52 rfl rfl rfl rfl (lc (F8.ev 7 rfl) rfl) (impl_Mach_clone_c (m := m) (Rd.mv (Nat.succ_pos _) V_v_m_store (S1.trans T7)) (Rd.mv (Nat.succ_pos _) V_v_m_touch_reads (S1.trans T7)) (Rd.mv (Nat.succ_pos _) V_v_m_touch_writes (S1.trans T7)) (by first | assumption | omega | (refine bdC.s ?_; (repeat (first | with_reducible refine bdC.look ?_ | with_reducible refine bdC.lay ?_ | with_reducible refine bdC.set ?_ | with_reducible refine bdC.fo ?_)); exact bdC.le (by assumption) (by first | decide | omega)) | (refine bdC.r ?_; (repeat (first | with_reducible refine bdC.look ?_ | with_reducible refine bdC.lay ?_ | with_reducible refine bdC.set ?_ | with_reducible refine bdC.fo ?_)); exact bdC.le (by assumption) (by first | decide | omega)) | (refine bdC.w ?_; (repeat (first | with_reducible refine bdC.look ?_ | with_reducible refine bdC.lay ?_ | with_reducible refine bdC.set ?_ | with_reducible refine bdC.fo ?_)); exact bdC.le (by assumption) (by first | decide | omega)) | ((repeat (first | with_reducible refine bdC.look ?_ | with_reducible refine bdC.lay ?_ | with_reducible refine bdC.set ?_ | with_reducible refine bdC.fo ?_)); exact bdC.le (by assumption) (by first | decide | omega)) | decide | exact Nat.le_trans (keyNum_size _ _ (by assumption)) (by decide) | exact Nat.le_trans (keyNum_size _ _ ⟨by omega, by omega⟩) (by decide)) (by first | assumption | omega | (refine bdC.s ?_; (repeat (first | with_reducible refine bdC.look ?_ | with_reducible refine bdC.lay ?_ | with_reducible refine bdC.set ?_ | with_reducible refine bdC.fo ?_)); exact bdC.le (by assumption) (by first | decide | omega)) | (refine bdC.r ?_; (repeat (first | with_reducible refine bdC.look ?_ | with_reducible refine bdC.lay ?_ | with_reducible refine bdC.set ?_ | with_reducible refine bdC.fo ?_)); exact bdC.le (by assumption) (by first | decide | omega)) | (refine bdC.w ?_; (repeat (first | with_reducible refine bdC.look ?_ | with_reducible refine bdC.lay ?_ | with_reducible refine bdC.set ?_ | with_reducible refine bdC.fo ?_)); exact bdC.le (by assumption) (by first | decide | omega)) | ((repeat (first | with_reducible refine bdC.look ?_ | with_reducible refine bdC.lay ?_ | with_reducible refine bdC.set ?_ | with_reducible refine bdC.fo ?_)); exact bdC.le (by assumption) (by first | decide | omega)) | decide | exact Nat.le_trans (keyNum_size _ _ (by assumption)) (by decide) | exact Nat.le_trans (keyNum_size _ _ ⟨by omega, by omega⟩) (by decide)) (by first | assumption | omega | (refine bdC.s ?_; (repeat (first | with_reducible refine bdC.look ?_ | with_reducible refine bdC.lay ?_ | with_reducible refine bdC.set ?_ | with_reducible refine bdC.fo ?_)); exact bdC.le (by assumption) (by first | decide | omega)) | (refine bdC.r ?_; (repeat (first | with_reducible refine bdC.look ?_ | with_reducible refine bdC.lay ?_ | with_reducible refine bdC.set ?_ | with_reducible refine bdC.fo ?_)); exact bdC.le (by assumption) (by first | decide | omega)) | (refine bdC.w ?_; (repeat (first | with_reducible refine bdC.look ?_ | with_reducible refine bdC.lay ?_ | with_reducible refine bdC.set ?_ | with_reducible refine bdC.fo ?_)); exact bdC.le (by assumption) (by first | decide | omega)) | ((repeat (first | with_reducible refine bdC.look ?_ | with_reducible refine bdC.lay ?_ | with_reducible refine bdC.set ?_ | with_reducible refine bdC.fo ?_)); exact bdC.le (by assumption) (by first | decide | omega)) | decide | exact Nat.le_trans (keyNum_size _ _ (by assumption)) (by decide) | exact Nat.le_trans (keyNum_size _ _ ⟨by omega, by omega⟩) (by decide))) ?_)
 rintro _ w9 ⟨r0_store_a_9, r0_store_n_9, r0_store_c_9, r0_touch_reads_a_9, r0_touch_reads_n_9, r0_touch_reads_c_9, r0_touch_writes_a_9, r0_touch_writes_n_9, r0_touch_writes_c_9, rfl, m9⟩
 refine ⟨_, rfl, fun _ F10 => ?_⟩
 have S9 : Mv _ _ [ow 81 2 encC okC (.slice r0_store_a_9 r0_store_n_9 r0_store_c_9) m.store, ow 9 1 encS okS (.slice r0_touch_reads_a_9 r0_touch_reads_n_9 r0_touch_reads_c_9) m.touch.reads, ow 9 1 encS okS (.slice r0_touch_writes_a_9 r0_touch_writes_n_9 r0_touch_writes_c_9) m.touch.writes, bx b3 [.slice none 0 0, .slice none 0 0, .slice none 0 0] 31, bx b1 [.slice m_store_a m_store_n m_store_c, .slice m_touch_reads_a m_touch_reads_n m_touch_reads_c, .slice m_touch_writes_a m_touch_writes_n m_touch_writes_c] 31] _ := At.frame T7.at' [] rfl m9
 obtain ⟨lo9_0, lp9_0, lq9_0⟩ := At.ownInv S9.at' ET_26.hk 0 rfl
 obtain ⟨lo9_1, lp9_1, lq9_1⟩ := At.ownInv S9.at' ET_27.hk 1 rfl
 obtain ⟨lo9_2, lp9_2, lq9_2⟩ := At.ownInv S9.at' ET_27.hk 2 rfl
 clear m9
 refine l_op (s_store S9.at' 4 TI_31 rfl rfl rfl rfl rfl (F10.ev 2 rfl) (F10.ev 8 rfl) rfl rfl rfl rfl rfl fun w11 S11 => ?_)
 have F12 : Fr 13 [(8, .agg #[.slice r0_store_a_9 r0_store_n_9 r0_store_c_9, .slice r0_touch_reads_a_9 r0_touch_reads_n_9 r0_touch_reads_c_9, .slice r0_touch_writes_a_9 r0_touch_writes_n_9 r0_touch_writes_c_9]), (4, .pointer (some ⟨b3, 0, none⟩)), (2, .pointer (some ⟨b1, 0, none⟩)), (1, .string name)] _ := F10.cut rfl
 clear F6 F8 F10
 have T13 : Mv _ _ [bx b1 [.slice r0_store_a_9 r0_store_n_9 r0_store_c_9, .slice r0_touch_reads_a_9 r0_touch_reads_n_9 r0_touch_reads_c_9, .slice r0_touch_writes_a_9 r0_touch_writes_n_9 r0_touch_writes_c_9] 31, ow 81 2 encC okC (.slice r0_store_a_9 r0_store_n_9 r0_store_c_9) m.store, ow 9 1 encS okS (.slice r0_touch_reads_a_9 r0_touch_reads_n_9 r0_touch_reads_c_9) m.touch.reads, ow 9 1 encS okS (.slice r0_touch_writes_a_9 r0_touch_writes_n_9 r0_touch_writes_c_9) m.touch.writes, bx b3 [.slice none 0 0, .slice none 0 0, .slice none 0 0] 31] _ := S11
 refine s_end (x_normal (wp_seq (wp_region_lit (l_op (f_mv F12 rfl rfl rfl rfl rfl fun _ F14 => ?_)))))
 refine l_op (f_call F14 CF_62 rfl rfl rfl rfl (lc (F14.ev 2 rfl) (lc (F14.ev 9 rfl) rfl)) (impl_Mach_fileOf_c (m := m) (name := name) h_name (Tb.mv V_tab0 (S1.trans (T7.trans (S9.trans T13)))) (Tb.mv V_tab1 (S1.trans (T7.trans (S9.trans T13)))) (by first | assumption | omega | (refine bdC.s ?_; (repeat (first | with_reducible refine bdC.look ?_ | with_reducible refine bdC.lay ?_ | with_reducible refine bdC.set ?_ | with_reducible refine bdC.fo ?_)); exact bdC.le (by assumption) (by first | decide | omega)) | (refine bdC.r ?_; (repeat (first | with_reducible refine bdC.look ?_ | with_reducible refine bdC.lay ?_ | with_reducible refine bdC.set ?_ | with_reducible refine bdC.fo ?_)); exact bdC.le (by assumption) (by first | decide | omega)) | (refine bdC.w ?_; (repeat (first | with_reducible refine bdC.look ?_ | with_reducible refine bdC.lay ?_ | with_reducible refine bdC.set ?_ | with_reducible refine bdC.fo ?_)); exact bdC.le (by assumption) (by first | decide | omega)) | ((repeat (first | with_reducible refine bdC.look ?_ | with_reducible refine bdC.lay ?_ | with_reducible refine bdC.set ?_ | with_reducible refine bdC.fo ?_)); exact bdC.le (by assumption) (by first | decide | omega)) | decide | exact Nat.le_trans (keyNum_size _ _ (by assumption)) (by decide) | exact Nat.le_trans (keyNum_size _ _ ⟨by omega, by omega⟩) (by decide)) (At.pick (is := [0, 1, 2, 3]) T13.at' rfl) (V_off (is := [0, 1, 2, 3]))) ?_)
 rintro _ w15 ⟨qm_store_a_15, qm_store_n_15, qm_store_c_15, qm_touch_reads_a_15, qm_touch_reads_n_15, qm_touch_reads_c_15, qm_touch_writes_a_15, qm_touch_writes_n_15, qm_touch_writes_c_15, rfl, m15⟩
 refine ⟨_, rfl, fun _ F16 => ?_⟩
 have S15 : Mv _ _ [bx b1 [.slice qm_store_a_15 qm_store_n_15 qm_store_c_15, .slice qm_touch_reads_a_15 qm_touch_reads_n_15 qm_touch_reads_c_15, .slice qm_touch_writes_a_15 qm_touch_writes_n_15 qm_touch_writes_c_15] 31, ow 81 2 encC okC (.slice qm_store_a_15 qm_store_n_15 qm_store_c_15) (foM m name).store, ow 9 1 encS okS (.slice qm_touch_reads_a_15 qm_touch_reads_n_15 qm_touch_reads_c_15) (foM m name).touch.reads, ow 9 1 encS okS (.slice qm_touch_writes_a_15 qm_touch_writes_n_15 qm_touch_writes_c_15) (foM m name).touch.writes, bx b3 [.slice none 0 0, .slice none 0 0, .slice none 0 0] 31] _ := At.frame T13.at' [0, 1, 2, 3] rfl m15
 obtain ⟨lo15_1, lp15_1, lq15_1⟩ := At.ownInv S15.at' ET_26.hk 1 rfl
 obtain ⟨lo15_2, lp15_2, lq15_2⟩ := At.ownInv S15.at' ET_27.hk 2 rfl
 obtain ⟨lo15_3, lp15_3, lq15_3⟩ := At.ownInv S15.at' ET_27.hk 3 rfl
 clear m15
 refine l_op (f_as F16 rfl rfl rfl rfl rfl fun _ F17 => ?_)
 have F18 : Fr 13 [(6, .int .i64 ((fo m name : Nat) : Int)), (4, .pointer (some ⟨b3, 0, none⟩)), (2, .pointer (some ⟨b1, 0, none⟩))] _ := F17.cut rfl
 clear F12 F14 F16 F17
 refine s_end (x_normal (wp_seq (wp_region_lit (l_op (f_val (v := .agg #[.slice qm_store_a_15 qm_store_n_15 qm_store_c_15, .slice qm_touch_reads_a_15 qm_touch_reads_n_15 qm_touch_reads_c_15, .slice qm_touch_writes_a_15 qm_touch_writes_n_15 qm_touch_writes_c_15]) F18 rfl rfl (r_loadB S15.at' 0 TI_31 rfl rfl (F18.ev 2 rfl) rfl rfl (fun h => nomatch h) rfl) rfl fun _ F19 => ?_)))))
 refine l_op (f_mv F19 rfl rfl rfl rfl rfl fun _ F20 => ?_)
 refine l_op (s_store S15.at' 4 TI_31 rfl rfl rfl rfl rfl (F20.ev 4 rfl) (F20.ev 11 rfl) rfl rfl rfl rfl rfl fun w21 S21 => ?_)
 refine l_op (f_as F20 rfl rfl rfl rfl rfl fun _ F22 => ?_)
 have F23 : Fr 13 [(5, .int .i64 ((fo m name : Nat) : Int)), (4, .pointer (some ⟨b3, 0, none⟩))] _ := F22.cut rfl
 clear F18 F19 F20 F22
 have T24 : Mv _ _ [bx b3 [.slice qm_store_a_15 qm_store_n_15 qm_store_c_15, .slice qm_touch_reads_a_15 qm_touch_reads_n_15 qm_touch_reads_c_15, .slice qm_touch_writes_a_15 qm_touch_writes_n_15 qm_touch_writes_c_15] 31, bx b1 [.slice qm_store_a_15 qm_store_n_15 qm_store_c_15, .slice qm_touch_reads_a_15 qm_touch_reads_n_15 qm_touch_reads_c_15, .slice qm_touch_writes_a_15 qm_touch_writes_n_15 qm_touch_writes_c_15] 31, ow 81 2 encC okC (.slice qm_store_a_15 qm_store_n_15 qm_store_c_15) (foM m name).store, ow 9 1 encS okS (.slice qm_touch_reads_a_15 qm_touch_reads_n_15 qm_touch_reads_c_15) (foM m name).touch.reads, ow 9 1 encS okS (.slice qm_touch_writes_a_15 qm_touch_writes_n_15 qm_touch_writes_c_15) (foM m name).touch.writes] _ := S21
 refine s_end (x_normal (wp_ret ?_))
 refine x_done (v := .tuple #[.agg #[.slice qm_store_a_15 qm_store_n_15 qm_store_c_15, .slice qm_touch_reads_a_15 qm_touch_reads_n_15 qm_touch_reads_c_15, .slice qm_touch_writes_a_15 qm_touch_writes_n_15 qm_touch_writes_c_15], .int .i64 ((fo m name : Nat) : Int)]) F23 (results_2 Tryd.results27 (.cell (F23.ev 4 rfl) (run_loadVar' TI_31 _ [.slice qm_store_a_15 qm_store_n_15 qm_store_c_15, .slice qm_touch_reads_a_15 qm_touch_reads_n_15 qm_touch_reads_c_15, .slice qm_touch_writes_a_15 qm_touch_writes_n_15 qm_touch_writes_c_15] rfl (fun h => nomatch h) (At.cells T24.at' 0 rfl 0 [.slice qm_store_a_15 qm_store_n_15 qm_store_c_15, .slice qm_touch_reads_a_15 qm_touch_reads_n_15 qm_touch_reads_c_15, .slice qm_touch_writes_a_15 qm_touch_writes_n_15 qm_touch_writes_c_15] rfl))) (.tmp (F23.ev 5 rfl))) ?_
 exact ⟨qm_store_a_15, qm_store_n_15, qm_store_c_15, qm_touch_reads_a_15, qm_touch_reads_n_15, qm_touch_reads_c_15, qm_touch_writes_a_15, qm_touch_writes_n_15, qm_touch_writes_c_15, rfl, (Mv.pick (S1.trans (T7.trans (S9.trans (T13.trans (S15.trans T24))))) [2, 3, 4] rfl)⟩
theorem spec_l06FileOf_c {w : World} {H : Nat → Prop} {m : MachD} {m_store_a : Option Addr} {m_store_n m_store_c : Nat} {m_touch_reads_a : Option Addr} {m_touch_reads_n m_touch_reads_c : Nat} {m_touch_writes_a : Option Addr} {m_touch_writes_n m_touch_writes_c : Nat} {name : ByteArray} (v_m_store : Rd 2 encC okC H w (.slice m_store_a m_store_n m_store_c) m.store) (v_m_touch_reads : Rd 1 encS okS H w (.slice m_touch_reads_a m_touch_reads_n m_touch_reads_c) m.touch.reads) (v_m_touch_writes : Rd 1 encS okS H w (.slice m_touch_writes_a m_touch_writes_n m_touch_writes_c) m.touch.writes) (h_name : okS name) (p0 : bdC 34359738368 m) :
    Calls Tryd.prog 90 #[.agg #[.slice m_store_a m_store_n m_store_c, .slice m_touch_reads_a m_touch_reads_n m_touch_reads_c, .slice m_touch_writes_a m_touch_writes_n m_touch_writes_c], .string name] w fun e w' => ∃ (r0_store_a : Option Addr), ∃ (r0_store_n : Nat), ∃ (r0_store_c : Nat), ∃ (r0_touch_reads_a : Option Addr), ∃ (r0_touch_reads_n : Nat), ∃ (r0_touch_reads_c : Nat), ∃ (r0_touch_writes_a : Option Addr), ∃ (r0_touch_writes_n : Nat), ∃ (r0_touch_writes_c : Nat), e = .returned (.tuple #[.agg #[.slice r0_store_a r0_store_n r0_store_c, .slice r0_touch_reads_a r0_touch_reads_n r0_touch_reads_c, .slice r0_touch_writes_a r0_touch_writes_n r0_touch_writes_c], .int .i64 ((fo m name : Nat) : Int)]) ∧ Mv [] w [] w' ∧ Rd 2 encC okC (Fsh H w) w' (.slice r0_store_a r0_store_n r0_store_c) (foM m name).store ∧ Rd 1 encS okS (Fsh H w) w' (.slice r0_touch_reads_a r0_touch_reads_n r0_touch_reads_c) (foM m name).touch.reads ∧ Rd 1 encS okS (Fsh H w) w' (.slice r0_touch_writes_a r0_touch_writes_n r0_touch_writes_c) (foM m name).touch.writes := by
 have uU : True := (fun _ => trivial) p0
 clear uU
 have V_v_m_store : Rd 2 encC okC (V H w []) w (.slice m_store_a m_store_n m_store_c) m.store := Rd.start v_m_store (fun _ _ => fps_nil _)
 obtain ⟨ln_m_store, le_m_store, mx_m_store, ni_m_store⟩ := Rd.inv v_m_store
 have V_v_m_touch_reads : Rd 1 encS okS (V H w []) w (.slice m_touch_reads_a m_touch_reads_n m_touch_reads_c) m.touch.reads := Rd.start v_m_touch_reads (fun _ _ => fps_nil _)
 obtain ⟨ln_m_touch_reads, le_m_touch_reads, mx_m_touch_reads, ni_m_touch_reads⟩ := Rd.inv v_m_touch_reads
 have V_v_m_touch_writes : Rd 1 encS okS (V H w []) w (.slice m_touch_writes_a m_touch_writes_n m_touch_writes_c) m.touch.writes := Rd.start v_m_touch_writes (fun _ _ => fps_nil _)
 obtain ⟨ln_m_touch_writes, le_m_touch_writes, mx_m_touch_writes, ni_m_touch_writes⟩ := Rd.inv v_m_touch_writes
 refine calls_enter 16 Tryd.func90 rfl Tryd.ntmps90 (Nat.le_of_ble_eq_true rfl) (fun _ F0i => ?_)
 have F0 : Fr 16 [(0, .agg #[.slice m_store_a m_store_n m_store_c, .slice m_touch_reads_a m_touch_reads_n m_touch_reads_c, .slice m_touch_writes_a m_touch_writes_n m_touch_writes_c]), (1, .string name)] _ := F0i
 clear F0i
 refine wp_seq (wp_region_lit (l_op (f_box F0 (At.nil w) rfl rfl rfl (F0.ev 0 rfl) rfl rfl fun b1 _ w1 F2 S1 => ?_)))
 refine l_op (f_alloc F2 S1.at' ZI_31 rfl rfl rfl rfl rfl fun b3 _ w3 F4 S3 => ?_)
 refine l_op (f_val F4 rfl rfl (r_assign rfl rfl) rfl fun _ F5 => ?_)
 have F6 : Fr 16 [(5, .int .i64 0), (4, .pointer (some ⟨b3, 0, none⟩)), (2, .pointer (some ⟨b1, 0, none⟩)), (1, .string name)] _ := F5.cut rfl
 clear F0 F2 F4 F5
 have T7 : Mv _ _ [bx b3 [.slice none 0 0, .slice none 0 0, .slice none 0 0] 31, bx b1 [.slice m_store_a m_store_n m_store_c, .slice m_touch_reads_a m_touch_reads_n m_touch_reads_c, .slice m_touch_writes_a m_touch_writes_n m_touch_writes_c] 31] _ := S3
 refine s_end (x_normal (wp_seq (wp_seq (wp_region_lit (l_op (f_mv F6 rfl rfl rfl rfl rfl fun _ F8 => ?_))))))
 refine l_op (f_call F8 CF_126 rfl rfl rfl rfl (lc (F8.ev 6 rfl) rfl) (spec_NameOk_c (H := fun _ => True) (key := name) h_name) ?_)
 rintro _ w9 ⟨rfl, m9⟩
 refine ⟨_, rfl, fun _ F10 => ?_⟩
 have S9 := At.frame0 T7.at' m9
 clear m9
 refine l_op (f_val F10 rfl rfl (r_not rfl (F10.ev 7 rfl)) rfl fun _ F11 => ?_)
 have F12 : Fr 16 [(8, .bool (!(nameOk name))), (4, .pointer (some ⟨b3, 0, none⟩)), (2, .pointer (some ⟨b1, 0, none⟩)), (1, .string name)] _ := F11.cut rfl
 clear F6 F8 F10 F11
 have T13 : Mv _ _ [bx b3 [.slice none 0 0, .slice none 0 0, .slice none 0 0] 31, bx b1 [.slice m_store_a m_store_n m_store_c, .slice m_touch_reads_a m_touch_reads_n m_touch_reads_c, .slice m_touch_writes_a m_touch_writes_n m_touch_writes_c] 31] _ := S9
 refine s_end (x_normal (x_condb (b := (!(nameOk name))) (F12.ev 8 rfl) (fun h14 => ?_) (fun h14 => ?_)))
 · skip
   refine wp_seq (wp_region_lit (l_op (f_val (v := .agg #[.slice m_store_a m_store_n m_store_c, .slice m_touch_reads_a m_touch_reads_n m_touch_reads_c, .slice m_touch_writes_a m_touch_writes_n m_touch_writes_c]) F12 rfl rfl (r_loadB T13.at' 1 TI_31 rfl rfl (F12.ev 2 rfl) rfl rfl (fun h => nomatch h) rfl) rfl fun _ F15 => ?_)))
   refine l_op (s_store T13.at' 0 TI_31 rfl rfl rfl rfl rfl (F15.ev 4 rfl) (F15.ev 9 rfl) rfl rfl rfl rfl rfl fun w16 S16 => ?_)
   refine l_op (f_val F15 rfl rfl (r_assign rfl rfl) rfl fun _ F17 => ?_)
   have F18 : Fr 16 [(5, .int .i64 0), (4, .pointer (some ⟨b3, 0, none⟩))] _ := F17.cut rfl
   clear F12 F15 F17
   have T19 : Mv _ _ [bx b3 [.slice m_store_a m_store_n m_store_c, .slice m_touch_reads_a m_touch_reads_n m_touch_reads_c, .slice m_touch_writes_a m_touch_writes_n m_touch_writes_c] 31, bx b1 [.slice m_store_a m_store_n m_store_c, .slice m_touch_reads_a m_touch_reads_n m_touch_reads_c, .slice m_touch_writes_a m_touch_writes_n m_touch_writes_c] 31] _ := S16
   refine s_end (x_normal (wp_ret (x_then_ret ?_)))
   refine x_done (v := .tuple #[.agg #[.slice m_store_a m_store_n m_store_c, .slice m_touch_reads_a m_touch_reads_n m_touch_reads_c, .slice m_touch_writes_a m_touch_writes_n m_touch_writes_c], .int .i64 0]) F18 (results_2 Tryd.results90 (.cell (F18.ev 4 rfl) (run_loadVar' TI_31 _ [.slice m_store_a m_store_n m_store_c, .slice m_touch_reads_a m_touch_reads_n m_touch_reads_c, .slice m_touch_writes_a m_touch_writes_n m_touch_writes_c] rfl (fun h => nomatch h) (At.cells T19.at' 0 rfl 0 [.slice m_store_a m_store_n m_store_c, .slice m_touch_reads_a m_touch_reads_n m_touch_reads_c, .slice m_touch_writes_a m_touch_writes_n m_touch_writes_c] rfl))) (.tmp (F18.ev 5 rfl))) ?_
   exact ⟨m_store_a, m_store_n, m_store_c, m_touch_reads_a, m_touch_reads_n, m_touch_reads_c, m_touch_writes_a, m_touch_writes_n, m_touch_writes_c, (by rw [(show 0 = ((fo m name : Nat) : Int) from by first | exact (fo_t (nf (by assumption))).1 | exact (fo_f (nt (by assumption))).1 | (rw [(fo_t (nf (by assumption))).2]) | (rw [(fo_f (nt (by assumption))).2]))]), (Mv.pick (S1.trans (T7.trans (T13.trans T19))) [] rfl), (Rd.cast (Rd.give (Rd.mv (Nat.succ_pos _) V_v_m_store (S1.trans (T7.trans (T13.trans T19))))) (show m.store = (foM m name).store from by first | exact (fo_t (nf (by assumption))).1 | exact (fo_f (nt (by assumption))).1 | (rw [(fo_t (nf (by assumption))).2]) | (rw [(fo_f (nt (by assumption))).2]))), (Rd.cast (Rd.give (Rd.mv (Nat.succ_pos _) V_v_m_touch_reads (S1.trans (T7.trans (T13.trans T19))))) (show m.touch.reads = (foM m name).touch.reads from by first | exact (fo_t (nf (by assumption))).1 | exact (fo_f (nt (by assumption))).1 | (rw [(fo_t (nf (by assumption))).2]) | (rw [(fo_f (nt (by assumption))).2]))), (Rd.cast (Rd.give (Rd.mv (Nat.succ_pos _) V_v_m_touch_writes (S1.trans (T7.trans (T13.trans T19))))) (show m.touch.writes = (foM m name).touch.writes from by first | exact (fo_t (nf (by assumption))).1 | exact (fo_f (nt (by assumption))).1 | (rw [(fo_t (nf (by assumption))).2]) | (rw [(fo_f (nt (by assumption))).2])))⟩
 · skip
   refine wp_skip (x_normal (wp_seq (wp_region_lit (l_op (f_val (v := .agg #[.slice m_store_a m_store_n m_store_c, .slice m_touch_reads_a m_touch_reads_n m_touch_reads_c, .slice m_touch_writes_a m_touch_writes_n m_touch_writes_c]) F12 rfl rfl (r_loadB T13.at' 1 TI_31 rfl rfl (F12.ev 2 rfl) rfl rfl (fun h => nomatch h) rfl) rfl fun _ F20 => ?_)))))
   refine l_op (f_mv F20 rfl rfl rfl rfl rfl fun _ F21 => ?_)
   have k22 : (⟨#[110, 47]⟩ : ByteArray).size + name.size ≤ 9223372036854775807 := by have hz := nameOk_size (nf (by assumption)); have e : (⟨#[110, 47]⟩ : ByteArray).size = 2 := rfl; omega
   refine l_op (f_val F21 rfl rfl (r_cat rfl rfl (F21.ev 11 rfl) k22) rfl fun _ F23 => ?_)
   refine l_op (f_call F23 CF_116 rfl rfl rfl rfl (lc (F23.ev 10 rfl) (lc (F23.ev 12 rfl) rfl)) (spec_l05NumAt_c (m := m) (key := (⟨#[110, 47]⟩ : ByteArray) ++ name) (Rd.mv (Nat.succ_pos _) V_v_m_store (S1.trans (T7.trans T13))) (Rd.mv (Nat.succ_pos _) V_v_m_touch_reads (S1.trans (T7.trans T13))) (Rd.mv (Nat.succ_pos _) V_v_m_touch_writes (S1.trans (T7.trans T13))) (okS_cat k22) (by first | assumption | omega | (refine bdC.s ?_; (repeat (first | with_reducible refine bdC.look ?_ | with_reducible refine bdC.lay ?_ | with_reducible refine bdC.set ?_ | with_reducible refine bdC.fo ?_)); exact bdC.le (by assumption) (by first | decide | omega)) | (refine bdC.r ?_; (repeat (first | with_reducible refine bdC.look ?_ | with_reducible refine bdC.lay ?_ | with_reducible refine bdC.set ?_ | with_reducible refine bdC.fo ?_)); exact bdC.le (by assumption) (by first | decide | omega)) | (refine bdC.w ?_; (repeat (first | with_reducible refine bdC.look ?_ | with_reducible refine bdC.lay ?_ | with_reducible refine bdC.set ?_ | with_reducible refine bdC.fo ?_)); exact bdC.le (by assumption) (by first | decide | omega)) | ((repeat (first | with_reducible refine bdC.look ?_ | with_reducible refine bdC.lay ?_ | with_reducible refine bdC.set ?_ | with_reducible refine bdC.fo ?_)); exact bdC.le (by assumption) (by first | decide | omega)) | decide | exact Nat.le_trans (keyNum_size _ _ (by assumption)) (by decide) | exact Nat.le_trans (keyNum_size _ _ ⟨by omega, by omega⟩) (by decide))) ?_)
   rintro _ w24 ⟨r0_store_a_24, r0_store_n_24, r0_store_c_24, r0_touch_reads_a_24, r0_touch_reads_n_24, r0_touch_reads_c_24, r0_touch_writes_a_24, r0_touch_writes_n_24, r0_touch_writes_c_24, rfl, m24, v24_0, v24_1, v24_2⟩
   refine ⟨_, rfl, fun _ F25 => ?_⟩
   have S24 := At.frame0 T13.at' m24
   have V24_0 := Rd.got0 T13.at' ((S1.trans (T7.trans T13)).kp.size) v24_0 S24
   obtain ⟨ln24_0, le24_0, mx24_0, ni24_0⟩ := Rd.inv V24_0
   have V24_1 := Rd.got0 T13.at' ((S1.trans (T7.trans T13)).kp.size) v24_1 S24
   obtain ⟨ln24_1, le24_1, mx24_1, ni24_1⟩ := Rd.inv V24_1
   have V24_2 := Rd.got0 T13.at' ((S1.trans (T7.trans T13)).kp.size) v24_2 S24
   obtain ⟨ln24_2, le24_2, mx24_2, ni24_2⟩ := Rd.inv V24_2
   clear m24 v24_0 v24_1 v24_2
   refine l_op (f_val (v := .agg #[.slice r0_store_a_24 r0_store_n_24 r0_store_c_24, .slice r0_touch_reads_a_24 r0_touch_reads_n_24 r0_touch_reads_c_24, .slice r0_touch_writes_a_24 r0_touch_writes_n_24 r0_touch_writes_c_24]) F25 rfl rfl (r_extract rfl (F25.ev 13 rfl) rfl) rfl fun _ F26 => ?_)
   refine l_op (f_val (v := .int .i64 ((numOf (getKey m.store ((⟨#[110, 47]⟩ : ByteArray) ++ name)) : Nat) : Int)) F26 rfl rfl (r_extract rfl (F26.ev 13 rfl) rfl) rfl fun _ F27 => ?_)
   refine l_op (s_store S24.at' 0 TI_31 rfl rfl rfl rfl rfl (F27.ev 4 rfl) (F27.ev 14 rfl) rfl rfl rfl rfl rfl fun w28 S28 => ?_)
   refine l_op (f_as F27 rfl rfl rfl rfl rfl fun _ F29 => ?_)
   have F30 : Fr 16 [(5, .int .i64 ((numOf (getKey m.store ((⟨#[110, 47]⟩ : ByteArray) ++ name)) : Nat) : Int)), (4, .pointer (some ⟨b3, 0, none⟩))] _ := F29.cut rfl
   clear F12 F20 F21 F23 F25 F26 F27 F29
   have T31 : Mv _ _ [bx b3 [.slice r0_store_a_24 r0_store_n_24 r0_store_c_24, .slice r0_touch_reads_a_24 r0_touch_reads_n_24 r0_touch_reads_c_24, .slice r0_touch_writes_a_24 r0_touch_writes_n_24 r0_touch_writes_c_24] 31, bx b1 [.slice m_store_a m_store_n m_store_c, .slice m_touch_reads_a m_touch_reads_n m_touch_reads_c, .slice m_touch_writes_a m_touch_writes_n m_touch_writes_c] 31] _ := S28
   refine s_end (x_normal (wp_ret ?_))
   refine x_done (v := .tuple #[.agg #[.slice r0_store_a_24 r0_store_n_24 r0_store_c_24, .slice r0_touch_reads_a_24 r0_touch_reads_n_24 r0_touch_reads_c_24, .slice r0_touch_writes_a_24 r0_touch_writes_n_24 r0_touch_writes_c_24], .int .i64 ((numOf (getKey m.store ((⟨#[110, 47]⟩ : ByteArray) ++ name)) : Nat) : Int)]) F30 (results_2 Tryd.results90 (.cell (F30.ev 4 rfl) (run_loadVar' TI_31 _ [.slice r0_store_a_24 r0_store_n_24 r0_store_c_24, .slice r0_touch_reads_a_24 r0_touch_reads_n_24 r0_touch_reads_c_24, .slice r0_touch_writes_a_24 r0_touch_writes_n_24 r0_touch_writes_c_24] rfl (fun h => nomatch h) (At.cells T31.at' 0 rfl 0 [.slice r0_store_a_24 r0_store_n_24 r0_store_c_24, .slice r0_touch_reads_a_24 r0_touch_reads_n_24 r0_touch_reads_c_24, .slice r0_touch_writes_a_24 r0_touch_writes_n_24 r0_touch_writes_c_24] rfl))) (.tmp (F30.ev 5 rfl))) ?_
   exact ⟨r0_store_a_24, r0_store_n_24, r0_store_c_24, r0_touch_reads_a_24, r0_touch_reads_n_24, r0_touch_reads_c_24, r0_touch_writes_a_24, r0_touch_writes_n_24, r0_touch_writes_c_24, (by rw [(show ((numOf (getKey m.store ((⟨#[110, 47]⟩ : ByteArray) ++ name)) : Nat) : Int) = ((fo m name : Nat) : Int) from by first | exact (fo_t (nf (by assumption))).1 | exact (fo_f (nt (by assumption))).1 | (rw [(fo_t (nf (by assumption))).2]) | (rw [(fo_f (nt (by assumption))).2]))]), (Mv.pick (S1.trans (T7.trans (T13.trans (S24.trans T31)))) [] rfl), (Rd.cast (Rd.give (Rd.mv (Nat.succ_pos _) V24_0 T31)) (show (lookM m ((⟨#[110, 47]⟩ : ByteArray) ++ name)).store = (foM m name).store from by first | exact (fo_t (nf (by assumption))).1 | exact (fo_f (nt (by assumption))).1 | (rw [(fo_t (nf (by assumption))).2]) | (rw [(fo_f (nt (by assumption))).2]))), (Rd.cast (Rd.give (Rd.mv (Nat.succ_pos _) V24_1 T31)) (show (lookM m ((⟨#[110, 47]⟩ : ByteArray) ++ name)).touch.reads = (foM m name).touch.reads from by first | exact (fo_t (nf (by assumption))).1 | exact (fo_f (nt (by assumption))).1 | (rw [(fo_t (nf (by assumption))).2]) | (rw [(fo_f (nt (by assumption))).2]))), (Rd.cast (Rd.give (Rd.mv (Nat.succ_pos _) V24_2 T31)) (show (lookM m ((⟨#[110, 47]⟩ : ByteArray) ++ name)).touch.writes = (foM m name).touch.writes from by first | exact (fo_t (nf (by assumption))).1 | exact (fo_f (nt (by assumption))).1 | (rw [(fo_t (nf (by assumption))).2]) | (rw [(fo_f (nt (by assumption))).2])))⟩
theorem spec_FileOf_c {w : World} {H : Nat → Prop} {m : MachD} {m_store_a : Option Addr} {m_store_n m_store_c : Nat} {m_touch_reads_a : Option Addr} {m_touch_reads_n m_touch_reads_c : Nat} {m_touch_writes_a : Option Addr} {m_touch_writes_n m_touch_writes_c : Nat} {name : ByteArray} (v_m_store : Rd 2 encC okC H w (.slice m_store_a m_store_n m_store_c) m.store) (v_m_touch_reads : Rd 1 encS okS H w (.slice m_touch_reads_a m_touch_reads_n m_touch_reads_c) m.touch.reads) (v_m_touch_writes : Rd 1 encS okS H w (.slice m_touch_writes_a m_touch_writes_n m_touch_writes_c) m.touch.writes) (h_name : okS name) (p0 : bdC 17179869184 m) :
    Calls Tryd.prog 48 #[.agg #[.slice m_store_a m_store_n m_store_c, .slice m_touch_reads_a m_touch_reads_n m_touch_reads_c, .slice m_touch_writes_a m_touch_writes_n m_touch_writes_c], .string name] w fun e w' => ∃ (r0_store_a : Option Addr), ∃ (r0_store_n : Nat), ∃ (r0_store_c : Nat), ∃ (r0_touch_reads_a : Option Addr), ∃ (r0_touch_reads_n : Nat), ∃ (r0_touch_reads_c : Nat), ∃ (r0_touch_writes_a : Option Addr), ∃ (r0_touch_writes_n : Nat), ∃ (r0_touch_writes_c : Nat), e = .returned (.tuple #[.agg #[.slice r0_store_a r0_store_n r0_store_c, .slice r0_touch_reads_a r0_touch_reads_n r0_touch_reads_c, .slice r0_touch_writes_a r0_touch_writes_n r0_touch_writes_c], .int .i64 ((fo m name : Nat) : Int)]) ∧ Mv [] w [] w' ∧ Rd 2 encC okC (Fsh H w) w' (.slice r0_store_a r0_store_n r0_store_c) (foM m name).store ∧ Rd 1 encS okS (Fsh H w) w' (.slice r0_touch_reads_a r0_touch_reads_n r0_touch_reads_c) (foM m name).touch.reads ∧ Rd 1 encS okS (Fsh H w) w' (.slice r0_touch_writes_a r0_touch_writes_n r0_touch_writes_c) (foM m name).touch.writes := by
 have uU : True := (fun _ => trivial) p0
 clear uU
 have V_v_m_store : Rd 2 encC okC (V H w []) w (.slice m_store_a m_store_n m_store_c) m.store := Rd.start v_m_store (fun _ _ => fps_nil _)
 obtain ⟨ln_m_store, le_m_store, mx_m_store, ni_m_store⟩ := Rd.inv v_m_store
 have V_v_m_touch_reads : Rd 1 encS okS (V H w []) w (.slice m_touch_reads_a m_touch_reads_n m_touch_reads_c) m.touch.reads := Rd.start v_m_touch_reads (fun _ _ => fps_nil _)
 obtain ⟨ln_m_touch_reads, le_m_touch_reads, mx_m_touch_reads, ni_m_touch_reads⟩ := Rd.inv v_m_touch_reads
 have V_v_m_touch_writes : Rd 1 encS okS (V H w []) w (.slice m_touch_writes_a m_touch_writes_n m_touch_writes_c) m.touch.writes := Rd.start v_m_touch_writes (fun _ _ => fps_nil _)
 obtain ⟨ln_m_touch_writes, le_m_touch_writes, mx_m_touch_writes, ni_m_touch_writes⟩ := Rd.inv v_m_touch_writes
 refine calls_enter 12 Tryd.func48 rfl Tryd.ntmps48 (Nat.le_of_ble_eq_true rfl) (fun _ F0i => ?_)
 have F0 : Fr 12 [(0, .agg #[.slice m_store_a m_store_n m_store_c, .slice m_touch_reads_a m_touch_reads_n m_touch_reads_c, .slice m_touch_writes_a m_touch_writes_n m_touch_writes_c]), (1, .string name)] _ := F0i
 clear F0i
 refine wp_seq (wp_region_lit (l_op (f_box F0 (At.nil w) rfl rfl rfl (F0.ev 0 rfl) rfl rfl fun b1 _ w1 F2 S1 => ?_)))
 refine l_op (f_alloc F2 S1.at' ZI_31 rfl rfl rfl rfl rfl fun b3 _ w3 F4 S3 => ?_)
 refine l_op (f_val F4 rfl rfl (r_assign rfl rfl) rfl fun _ F5 => ?_)
 have F6 : Fr 12 [(5, .int .i64 0), (4, .pointer (some ⟨b3, 0, none⟩)), (2, .pointer (some ⟨b1, 0, none⟩)), (1, .string name)] _ := F5.cut rfl
 clear F0 F2 F4 F5
 have T7 : Mv _ _ [bx b3 [.slice none 0 0, .slice none 0 0, .slice none 0 0] 31, bx b1 [.slice m_store_a m_store_n m_store_c, .slice m_touch_reads_a m_touch_reads_n m_touch_reads_c, .slice m_touch_writes_a m_touch_writes_n m_touch_writes_c] 31] _ := S3
 refine s_end (x_normal (wp_seq (wp_region_lit (l_op (f_val (v := .agg #[.slice m_store_a m_store_n m_store_c, .slice m_touch_reads_a m_touch_reads_n m_touch_reads_c, .slice m_touch_writes_a m_touch_writes_n m_touch_writes_c]) F6 rfl rfl (r_loadB T7.at' 1 TI_31 rfl rfl (F6.ev 2 rfl) rfl rfl (fun h => nomatch h) rfl) rfl fun _ F8 => ?_)))))
 refine l_op (f_call F8 CF_79 rfl rfl rfl rfl (lc (F8.ev 6 rfl) rfl) (spec_l04Copy_c (m := m) (Rd.mv (Nat.succ_pos _) V_v_m_store (S1.trans T7)) (Rd.mv (Nat.succ_pos _) V_v_m_touch_reads (S1.trans T7)) (Rd.mv (Nat.succ_pos _) V_v_m_touch_writes (S1.trans T7)) (by first | assumption | omega | (refine bdC.s ?_; (repeat (first | with_reducible refine bdC.look ?_ | with_reducible refine bdC.lay ?_ | with_reducible refine bdC.set ?_ | with_reducible refine bdC.fo ?_)); exact bdC.le (by assumption) (by first | decide | omega)) | (refine bdC.r ?_; (repeat (first | with_reducible refine bdC.look ?_ | with_reducible refine bdC.lay ?_ | with_reducible refine bdC.set ?_ | with_reducible refine bdC.fo ?_)); exact bdC.le (by assumption) (by first | decide | omega)) | (refine bdC.w ?_; (repeat (first | with_reducible refine bdC.look ?_ | with_reducible refine bdC.lay ?_ | with_reducible refine bdC.set ?_ | with_reducible refine bdC.fo ?_)); exact bdC.le (by assumption) (by first | decide | omega)) | ((repeat (first | with_reducible refine bdC.look ?_ | with_reducible refine bdC.lay ?_ | with_reducible refine bdC.set ?_ | with_reducible refine bdC.fo ?_)); exact bdC.le (by assumption) (by first | decide | omega)) | decide | exact Nat.le_trans (keyNum_size _ _ (by assumption)) (by decide) | exact Nat.le_trans (keyNum_size _ _ ⟨by omega, by omega⟩) (by decide)) (by first | assumption | omega | (refine bdC.s ?_; (repeat (first | with_reducible refine bdC.look ?_ | with_reducible refine bdC.lay ?_ | with_reducible refine bdC.set ?_ | with_reducible refine bdC.fo ?_)); exact bdC.le (by assumption) (by first | decide | omega)) | (refine bdC.r ?_; (repeat (first | with_reducible refine bdC.look ?_ | with_reducible refine bdC.lay ?_ | with_reducible refine bdC.set ?_ | with_reducible refine bdC.fo ?_)); exact bdC.le (by assumption) (by first | decide | omega)) | (refine bdC.w ?_; (repeat (first | with_reducible refine bdC.look ?_ | with_reducible refine bdC.lay ?_ | with_reducible refine bdC.set ?_ | with_reducible refine bdC.fo ?_)); exact bdC.le (by assumption) (by first | decide | omega)) | ((repeat (first | with_reducible refine bdC.look ?_ | with_reducible refine bdC.lay ?_ | with_reducible refine bdC.set ?_ | with_reducible refine bdC.fo ?_)); exact bdC.le (by assumption) (by first | decide | omega)) | decide | exact Nat.le_trans (keyNum_size _ _ (by assumption)) (by decide) | exact Nat.le_trans (keyNum_size _ _ ⟨by omega, by omega⟩) (by decide)) (by first | assumption | omega | (refine bdC.s ?_; (repeat (first | with_reducible refine bdC.look ?_ | with_reducible refine bdC.lay ?_ | with_reducible refine bdC.set ?_ | with_reducible refine bdC.fo ?_)); exact bdC.le (by assumption) (by first | decide | omega)) | (refine bdC.r ?_; (repeat (first | with_reducible refine bdC.look ?_ | with_reducible refine bdC.lay ?_ | with_reducible refine bdC.set ?_ | with_reducible refine bdC.fo ?_)); exact bdC.le (by assumption) (by first | decide | omega)) | (refine bdC.w ?_; (repeat (first | with_reducible refine bdC.look ?_ | with_reducible refine bdC.lay ?_ | with_reducible refine bdC.set ?_ | with_reducible refine bdC.fo ?_)); exact bdC.le (by assumption) (by first | decide | omega)) | ((repeat (first | with_reducible refine bdC.look ?_ | with_reducible refine bdC.lay ?_ | with_reducible refine bdC.set ?_ | with_reducible refine bdC.fo ?_)); exact bdC.le (by assumption) (by first | decide | omega)) | decide | exact Nat.le_trans (keyNum_size _ _ (by assumption)) (by decide) | exact Nat.le_trans (keyNum_size _ _ ⟨by omega, by omega⟩) (by decide))) ?_)
 rintro _ w9 ⟨r0_store_a_9, r0_store_n_9, r0_store_c_9, r0_touch_reads_a_9, r0_touch_reads_n_9, r0_touch_reads_c_9, r0_touch_writes_a_9, r0_touch_writes_n_9, r0_touch_writes_c_9, rfl, m9, v9_0, v9_1, v9_2⟩
 refine ⟨_, rfl, fun _ F10 => ?_⟩
 have S9 := At.frame0 T7.at' m9
 have V9_0 := Rd.got0 T7.at' ((S1.trans T7).kp.size) v9_0 S9
 obtain ⟨ln9_0, le9_0, mx9_0, ni9_0⟩ := Rd.inv V9_0
 have V9_1 := Rd.got0 T7.at' ((S1.trans T7).kp.size) v9_1 S9
 obtain ⟨ln9_1, le9_1, mx9_1, ni9_1⟩ := Rd.inv V9_1
 have V9_2 := Rd.got0 T7.at' ((S1.trans T7).kp.size) v9_2 S9
 obtain ⟨ln9_2, le9_2, mx9_2, ni9_2⟩ := Rd.inv V9_2
 clear m9 v9_0 v9_1 v9_2
 refine l_op (f_mv F10 rfl rfl rfl rfl rfl fun _ F11 => ?_)
 refine l_op (f_call F11 CF_90 rfl rfl rfl rfl (lc (F11.ev 7 rfl) (lc (F11.ev 8 rfl) rfl)) (spec_l06FileOf_c (m := m) (name := name) V9_0 V9_1 V9_2 h_name (by first | assumption | omega | (refine bdC.s ?_; (repeat (first | with_reducible refine bdC.look ?_ | with_reducible refine bdC.lay ?_ | with_reducible refine bdC.set ?_ | with_reducible refine bdC.fo ?_)); exact bdC.le (by assumption) (by first | decide | omega)) | (refine bdC.r ?_; (repeat (first | with_reducible refine bdC.look ?_ | with_reducible refine bdC.lay ?_ | with_reducible refine bdC.set ?_ | with_reducible refine bdC.fo ?_)); exact bdC.le (by assumption) (by first | decide | omega)) | (refine bdC.w ?_; (repeat (first | with_reducible refine bdC.look ?_ | with_reducible refine bdC.lay ?_ | with_reducible refine bdC.set ?_ | with_reducible refine bdC.fo ?_)); exact bdC.le (by assumption) (by first | decide | omega)) | ((repeat (first | with_reducible refine bdC.look ?_ | with_reducible refine bdC.lay ?_ | with_reducible refine bdC.set ?_ | with_reducible refine bdC.fo ?_)); exact bdC.le (by assumption) (by first | decide | omega)) | decide | exact Nat.le_trans (keyNum_size _ _ (by assumption)) (by decide) | exact Nat.le_trans (keyNum_size _ _ ⟨by omega, by omega⟩) (by decide))) ?_)
 rintro _ w12 ⟨r0_store_a_12, r0_store_n_12, r0_store_c_12, r0_touch_reads_a_12, r0_touch_reads_n_12, r0_touch_reads_c_12, r0_touch_writes_a_12, r0_touch_writes_n_12, r0_touch_writes_c_12, rfl, m12, v12_0, v12_1, v12_2⟩
 refine ⟨_, rfl, fun _ F13 => ?_⟩
 have S12 := At.frame0 S9.at' m12
 have V12_0 := Rd.got0 S9.at' ((S1.trans (T7.trans S9)).kp.size) v12_0 S12
 obtain ⟨ln12_0, le12_0, mx12_0, ni12_0⟩ := Rd.inv V12_0
 have V12_1 := Rd.got0 S9.at' ((S1.trans (T7.trans S9)).kp.size) v12_1 S12
 obtain ⟨ln12_1, le12_1, mx12_1, ni12_1⟩ := Rd.inv V12_1
 have V12_2 := Rd.got0 S9.at' ((S1.trans (T7.trans S9)).kp.size) v12_2 S12
 obtain ⟨ln12_2, le12_2, mx12_2, ni12_2⟩ := Rd.inv V12_2
 clear m12 v12_0 v12_1 v12_2
 refine l_op (f_val (v := .agg #[.slice r0_store_a_12 r0_store_n_12 r0_store_c_12, .slice r0_touch_reads_a_12 r0_touch_reads_n_12 r0_touch_reads_c_12, .slice r0_touch_writes_a_12 r0_touch_writes_n_12 r0_touch_writes_c_12]) F13 rfl rfl (r_extract rfl (F13.ev 9 rfl) rfl) rfl fun _ F14 => ?_)
 refine l_op (f_val (v := .int .i64 ((fo m name : Nat) : Int)) F14 rfl rfl (r_extract rfl (F14.ev 9 rfl) rfl) rfl fun _ F15 => ?_)
 refine l_op (s_store S12.at' 0 TI_31 rfl rfl rfl rfl rfl (F15.ev 4 rfl) (F15.ev 10 rfl) rfl rfl rfl rfl rfl fun w16 S16 => ?_)
 refine l_op (f_as F15 rfl rfl rfl rfl rfl fun _ F17 => ?_)
 have F18 : Fr 12 [(5, .int .i64 ((fo m name : Nat) : Int)), (4, .pointer (some ⟨b3, 0, none⟩))] _ := F17.cut rfl
 clear F6 F8 F10 F11 F13 F14 F15 F17
 have T19 : Mv _ _ [bx b3 [.slice r0_store_a_12 r0_store_n_12 r0_store_c_12, .slice r0_touch_reads_a_12 r0_touch_reads_n_12 r0_touch_reads_c_12, .slice r0_touch_writes_a_12 r0_touch_writes_n_12 r0_touch_writes_c_12] 31, bx b1 [.slice m_store_a m_store_n m_store_c, .slice m_touch_reads_a m_touch_reads_n m_touch_reads_c, .slice m_touch_writes_a m_touch_writes_n m_touch_writes_c] 31] _ := S16
 refine s_end (x_normal (wp_ret ?_))
 refine x_done (v := .tuple #[.agg #[.slice r0_store_a_12 r0_store_n_12 r0_store_c_12, .slice r0_touch_reads_a_12 r0_touch_reads_n_12 r0_touch_reads_c_12, .slice r0_touch_writes_a_12 r0_touch_writes_n_12 r0_touch_writes_c_12], .int .i64 ((fo m name : Nat) : Int)]) F18 (results_2 Tryd.results48 (.cell (F18.ev 4 rfl) (run_loadVar' TI_31 _ [.slice r0_store_a_12 r0_store_n_12 r0_store_c_12, .slice r0_touch_reads_a_12 r0_touch_reads_n_12 r0_touch_reads_c_12, .slice r0_touch_writes_a_12 r0_touch_writes_n_12 r0_touch_writes_c_12] rfl (fun h => nomatch h) (At.cells T19.at' 0 rfl 0 [.slice r0_store_a_12 r0_store_n_12 r0_store_c_12, .slice r0_touch_reads_a_12 r0_touch_reads_n_12 r0_touch_reads_c_12, .slice r0_touch_writes_a_12 r0_touch_writes_n_12 r0_touch_writes_c_12] rfl))) (.tmp (F18.ev 5 rfl))) ?_
 exact ⟨r0_store_a_12, r0_store_n_12, r0_store_c_12, r0_touch_reads_a_12, r0_touch_reads_n_12, r0_touch_reads_c_12, r0_touch_writes_a_12, r0_touch_writes_n_12, r0_touch_writes_c_12, rfl, (Mv.pick (S1.trans (T7.trans (S9.trans (S12.trans T19)))) [] rfl), (Rd.give (Rd.mv (Nat.succ_pos _) V12_0 T19)), (Rd.give (Rd.mv (Nat.succ_pos _) V12_1 T19)), (Rd.give (Rd.mv (Nat.succ_pos _) V12_2 T19))⟩
end Go.Proofs.YtjiplnaceiofmaaDoor
