/-
  Walks: a key is put into a store.
-/
import Derived.Test.YtipdbeklopjbmaaGreatDoorP05
import Derived.Test.YtipdbeklopjbmaaGreatDoorP10

namespace Go.Proofs.YtipdbeklopjbmaaGreatDoor
open Go.ChangeShapes Go.WideShapes Go.ChangeAt Go.RowKit
set_option maxRecDepth 100000
set_option maxHeartbeats 1000000
theorem slices_Insert_Simpl_Cell_impl_Cell_c {w : World} {H : Nat → Prop} {s : List CellD} {s_a : Option Addr} {s_n s_c : Nat} {i : Int} {v_b : Nat} {v : CellD} (h_i : i64ok i) (p0 : 0 ≤ i) (p1 : i ≤ s.length) (p2 : s.length ≤ 549755813888) (hA : At w [ow 91 2 encC okC (.slice s_a s_n s_c) s, ow 91 2 encC okC (.slice (some ⟨v_b, 0, none⟩) 1 1) ([v])]) :
    Calls Tryz.prog 102 #[.slice s_a s_n s_c, .int .i64 i, .slice (some ⟨v_b, 0, none⟩) 1 1] w fun e w' => ∃ (r0_a : Option Addr), ∃ (r0_n : Nat), ∃ (r0_c : Nat), e = .returned (.slice r0_a r0_n r0_c) ∧ Mv [ow 91 2 encC okC (.slice s_a s_n s_c) s, ow 91 2 encC okC (.slice (some ⟨v_b, 0, none⟩) 1 1) ([v])] w [ow 91 2 encC okC (.slice r0_a r0_n r0_c) (insAt s i.toNat v)] w' := by
  have uU : True := (fun _ _ _ _ => trivial) H h_i p1 p2
  clear uU
  have hO := hA.ok _ (List.mem_cons_self ..)
  have hO2 := hA.ok _ (List.mem_cons_of_mem _ (List.mem_cons_self ..))
  obtain ⟨hv, hv2⟩ := own_lit cellT.hk hO2
  have hl : s.length = s_n := by obtain ⟨_, _, e, _⟩ := (Own.rd cellT.hk hO).inv; cases e; rfl
  obtain ⟨j, rfl⟩ := Int.eq_ofNat_of_zero_le p0
  refine (insertCells_c _ j v v_b w s hO (by omega) (by omega) hv2 hv (fun b hb e => ?_)).mono ?_
  · subst e
    exact hA.apartAt (i := 0) (j := 1) rfl rfl (by decide) b (show Value.ownBlock _ = some b by simpa using hb) rfl
  · rintro e w' ⟨v', rfl, h1, h2, h3⟩
    have hm : Mv _ w _ w' := hA.frame [0] rfl (mv_of_own h1 h2 h3)
    obtain ⟨r0_a, r0_n, r0_c, rfl⟩ : ∃ a n c, v' = .slice a n c := by obtain ⟨a, c, e, _⟩ := (Own.rd cellT.hk h1).inv; exact ⟨_, _, _, e⟩
    exact ⟨r0_a, r0_n, r0_c, rfl, hm.pick [0] rfl⟩
theorem spec_KeyOk_c {w : World} {H : Nat → Prop} {key : ByteArray} (Q0 : okS key) :
    Calls Tryz.prog 132 #[.string key] w fun e w' => e = .returned (.bool (keyOk key)) ∧ Mv [] w [] w' := by
 have uU : True := (fun _ => trivial) H
 clear uU
 have kz := Q0
 unfold okS at kz
 refine calls_enter 25 Tryz.func132 rfl Tryz.ntmps132 (Nat.le_of_ble_eq_true rfl) (fun _ F0i => ?_)
 have F0 : Fr 25 [(0, .string key)] _ := F0i
 clear F0i
 refine wp_seq (wp_region_lit (l_op (f_val F0 rfl rfl (r_assign rfl rfl) rfl fun _ F1 => ?_)))
 refine s_end (x_normal (wp_seq (wp_seq (wp_region_lit (l_op (f_val F1 rfl rfl (r_assign rfl rfl) rfl fun _ F2 => ?_))))))
 refine s_end (x_normal (wp_block ?_))
 refine x_loop (fun (k : Nat) aZ wZ => Fr 25 [(3, .int .i64 ((k : Nat) : Int)), (0, .string key)] aZ ∧ Mv [] w [] wZ ∧ (k ≤ key.size) ∧ (∀ j, j < k → kb (byteAt key j) = true)) (fun (k : Nat) => key.size - k) (0) ?_ ?_
 · exact ⟨F2.cut rfl, (Mv.refl (At.nil w)), by omega, all_none⟩
 · rintro k a3 w3 ⟨F3, S3, hk_0, hk_1⟩
   refine wp_seq (wp_seq (wp_region_lit (l_op (f_mv F3 rfl rfl rfl rfl rfl fun _ F4 => ?_))))
   refine l_op (f_mv F4 rfl rfl rfl rfl rfl fun _ F5 => ?_)
   refine l_op (f_val F5 rfl rfl (r_lenS (fun t ht => by cases ht; exact Tryz.underlying9) rfl rfl (F5.ev 5 rfl)) rfl fun _ F6 => ?_)
   refine l_op (f_val F6 rfl rfl (r_cmp (b := decide (k < key.size)) (.inr (.inr (.inl rfl))) rfl (F6.ev 4 rfl) (F6.ev 6 rfl) (dec_of (by omega))) rfl fun _ F7 => ?_)
   refine s_end (x_normal (x_cond (p := k < key.size) (F7.ev 7 rfl) (fun h8 => ?_) (fun h8 => ?_)))
   · skip
     refine wp_skip (x_normal (wp_seq (wp_block (wp_seq (wp_region_lit (l_op (f_mv F7 rfl rfl rfl rfl rfl fun _ F9 => ?_)))))))
     refine l_op (f_mv F9 rfl rfl rfl rfl rfl fun _ F10 => ?_)
     refine l_op (f_val F10 rfl rfl (r_indexS (i := k) Tryz.underlying9 rfl (F10.ev 10 rfl) (F10.ev 11 rfl) (by omega) (by first | assumption | omega)) rfl fun _ F11 => ?_)
     refine l_op (f_val F11 rfl rfl (r_convU8 Tryz.underlying3 Tryz.underlying5 rfl (F11.ev 12 rfl) ⟨by omega, by first | omega | (have := byteAt_lt key k; omega)⟩) rfl fun _ F12 => ?_)
     refine l_op (f_call F12 CF_87 rfl rfl rfl rfl (lc (F12.ev 13 rfl) (lc rfl (lc rfl rfl))) (spec_l01In_c (H := fun _ => True) (x := ((byteAt key k : Nat) : Int)) (least := 33) (most := 126) (by have := byteAt_lt key k; exact ⟨by omega, by omega⟩) (by first | assumption | exact ⟨by omega, by omega⟩ | (unfold i64ok at *; omega)) (by first | assumption | exact ⟨by omega, by omega⟩ | (unfold i64ok at *; omega))) ?_)
     rintro _ w13 ⟨rfl, m13⟩
     refine ⟨_, rfl, fun _ F14 => ?_⟩
     have S13 := At.frame0 S3.at' m13
     clear m13
     refine l_op (f_val F14 rfl rfl (r_not rfl (F14.ev 14 rfl)) rfl fun _ F15 => ?_)
     refine l_op (f_mv F15 rfl rfl rfl rfl rfl fun _ F16 => ?_)
     rcases Bool.eq_false_or_eq_true (!(inB ((byteAt key k : Nat) : Int) 33 126)) with h17 | h17
     · rw [h17] at F16
       refine l_op (f_skip F16 (wanted_g F16 rfl rfl rfl rfl) rfl rfl fun _ F18 => ?_)
       refine l_op (f_skip F18 (wanted_g F18 rfl rfl rfl rfl) rfl rfl fun _ F19 => ?_)
       refine l_op (f_skip F19 (wanted_g F19 rfl rfl rfl rfl) rfl rfl fun _ F20 => ?_)
       refine l_op (f_skip F20 (wanted_g F20 rfl rfl rfl rfl) rfl rfl fun _ F21 => ?_)
       refine l_op (f_val F21 rfl rfl (r_pick (b := true) rfl (F21.ev 16 rfl) rfl) rfl fun _ F22 => ?_)
       refine s_end (x_normal (wp_cond_true (F22.ev 21 rfl) (wp_seq (wp_region_lit (l_op (f_val F22 rfl rfl (r_assign rfl rfl) rfl fun _ F23 => ?_))))))
       refine s_end (x_normal (wp_ret (x_block_ret (x_then_ret (x_then_ret (x_block_ret (x_then_ret ?_)))))))
       refine x_done (v := .bool false) F23 (results_1 Tryz.results132 (.tmp (F23.ev 2 rfl))) ?_
       exact ⟨(by rw [(show false = (keyOk key) from by first | exact (keyOk_bad (j := k) (by omega) (by rw [kb_in]; simp_all)).symm | exact (keyOk_all (fun j hj => hk_1 j (by omega))).symm)]), (Mv.pick (S3.trans S13) [] rfl)⟩
     · rw [h17] at F16
       refine l_op (f_mv F16 (wanted_g F16 rfl rfl rfl rfl) rfl rfl rfl rfl fun _ F24 => ?_)
       refine l_op (f_mv F24 (wanted_g F24 rfl rfl rfl rfl) rfl rfl rfl rfl fun _ F25 => ?_)
       refine l_op (f_val F25 (wanted_g F25 rfl rfl rfl rfl) rfl (r_indexS (i := k) Tryz.underlying9 rfl (F25.ev 17 rfl) (F25.ev 18 rfl) (by omega) (by first | assumption | omega)) rfl fun _ F26 => ?_)
       refine l_op (f_val F26 (wanted_g F26 rfl rfl rfl rfl) rfl (r_cmp (b := decide (byteAt key k = 42)) (.inl rfl) rfl (F26.ev 19 rfl) rfl (dec_of (by omega))) rfl fun _ F27 => ?_)
       refine l_op (f_val F27 rfl rfl (r_pick (b := false) rfl (F27.ev 16 rfl) (F27.ev 20 rfl)) rfl fun _ F28 => ?_)
       refine s_end (x_normal (x_cond (p := byteAt key k = 42) (F28.ev 21 rfl) (fun h29 => ?_) (fun h29 => ?_)))
       · skip
         refine wp_seq (wp_region_lit (l_op (f_val F28 rfl rfl (r_assign rfl rfl) rfl fun _ F30 => ?_)))
         refine s_end (x_normal (wp_ret (x_block_ret (x_then_ret (x_then_ret (x_block_ret (x_then_ret ?_)))))))
         refine x_done (v := .bool false) F30 (results_1 Tryz.results132 (.tmp (F30.ev 2 rfl))) ?_
         exact ⟨(by rw [(show false = (keyOk key) from by first | exact (keyOk_bad (j := k) (by omega) (by rw [kb_in]; simp_all)).symm | exact (keyOk_all (fun j hj => hk_1 j (by omega))).symm)]), (Mv.pick (S3.trans S13) [] rfl)⟩
       · skip
         refine wp_skip (x_block_normal (x_normal (wp_region_lit (l_op (f_mv F28 rfl rfl rfl rfl rfl fun _ F31 => ?_)))))
         refine l_op (f_val F31 rfl rfl (r_add (z := ((k + 1 : Nat) : Int)) rfl (F31.ev 8 rfl) rfl (by first | rfl | omega) ⟨by first | omega | (unfold i64ok at *; omega), by first | omega | (unfold i64ok at *; omega)⟩) rfl fun _ F32 => ?_)
         refine l_op (f_as F32 rfl rfl rfl rfl rfl fun _ F33 => ?_)
         refine s_end ?_
         refine x_normal ⟨k + 1, by omega, F33.cut rfl, ((S3.trans S13).pick [] rfl), by omega, all_step hk_1 (by rw [kb_in]; simp_all)⟩
   · skip
     refine wp_exit (x_then_exit (x_then_exit (x_block_here (x_normal (wp_seq (wp_region_lit (l_op (f_mv F7 rfl rfl rfl rfl rfl fun _ F34 => ?_))))))))
     refine l_op (f_val F34 rfl rfl (r_lenS (fun t ht => by cases ht; exact Tryz.underlying9) rfl rfl (F34.ev 22 rfl)) rfl fun _ F35 => ?_)
     refine l_op (f_call F35 CF_87 rfl rfl rfl rfl (lc (F35.ev 23 rfl) (lc rfl (lc rfl rfl))) (spec_l01In_c (H := fun _ => True) (x := ((key.size : Nat) : Int)) (least := 1) (most := 40) (by first | assumption | exact ⟨by omega, by omega⟩ | (unfold i64ok at *; omega)) (by first | assumption | exact ⟨by omega, by omega⟩ | (unfold i64ok at *; omega)) (by first | assumption | exact ⟨by omega, by omega⟩ | (unfold i64ok at *; omega))) ?_)
     rintro _ w36 ⟨rfl, m36⟩
     refine ⟨_, rfl, fun _ F37 => ?_⟩
     have S36 := At.frame0 S3.at' m36
     clear m36
     refine l_op (f_as F37 rfl rfl rfl rfl rfl fun _ F38 => ?_)
     refine s_end (x_normal (wp_ret ?_))
     refine x_done (v := .bool (inB ((key.size : Nat) : Int) 1 40)) F38 (results_1 Tryz.results132 (.tmp (F38.ev 2 rfl))) ?_
     exact ⟨(by rw [(show (inB ((key.size : Nat) : Int) 1 40) = (keyOk key) from by first | exact (keyOk_bad (j := k) (by omega) (by rw [kb_in]; simp_all)).symm | exact (keyOk_all (fun j hj => hk_1 j (by omega))).symm)]), (Mv.pick (S3.trans S36) [] rfl)⟩
theorem impl_KeyOk_c {w : World} {H : Nat → Prop} {key : ByteArray} (Q0 : okS key) :
    Calls Tryz.prog 97 #[.string key] w fun e w' => e = .returned (.bool (keyOk key)) ∧ Mv [] w [] w' := by
 have uU : True := (fun _ => trivial) H
 clear uU
 have kz := Q0
 unfold okS at kz
 refine calls_enter 29 Tryz.func97 rfl Tryz.ntmps97 (Nat.le_of_ble_eq_true rfl) (fun _ F0i => ?_)
 have F0 : Fr 29 [(0, .string key)] _ := F0i
 clear F0i
 refine wp_seq (wp_region_lit (l_op (f_val F0 rfl rfl (r_assign rfl rfl) rfl fun _ F1 => ?_)))
 refine s_end (x_normal (wp_seq (wp_seq (wp_region_lit (l_op (f_mv F1 rfl rfl rfl rfl rfl fun _ F2 => ?_))))))
 refine l_op (f_val F2 rfl rfl (r_lenS (fun t ht => by cases ht; exact Tryz.underlying9) rfl rfl (F2.ev 4 rfl)) rfl fun _ F3 => ?_)
 refine l_op (f_val F3 rfl rfl (r_move rfl rfl) rfl fun _ F4 => ?_)
 refine s_end (x_normal (wp_block ?_))
 refine x_loop (fun (k : Nat) aZ wZ => Fr 29 [(6, .int .i64 ((k : Nat) : Int)), (5, .int .i64 ((key.size : Nat) : Int)), (0, .string key)] aZ ∧ Mv [] w [] wZ ∧ (k ≤ key.size) ∧ (∀ j, j < k → kb (byteAt key j) = true)) (fun (k : Nat) => key.size - k) (0) ?_ ?_
 · exact ⟨F4.cut rfl, (Mv.refl (At.nil w)), by omega, all_none⟩
 · rintro k a5 w5 ⟨F5, S5, hk_0, hk_1⟩
   refine wp_seq (wp_region_lit (l_op (f_val F5 rfl rfl (r_cmp (b := decide (k < key.size)) (.inr (.inr (.inl rfl))) rfl (F5.ev 6 rfl) (F5.ev 5 rfl) (dec_of (by omega))) rfl fun _ F6 => ?_)))
   refine s_end (x_normal (wp_seq (x_cond (p := k < key.size) (F6.ev 7 rfl) (fun h7 => ?_) (fun h7 => ?_))))
   · skip
     refine wp_skip (x_normal (wp_seq (wp_block (wp_seq (wp_region_lit (l_op (f_mv F6 rfl rfl rfl rfl rfl fun _ F8 => ?_)))))))
     refine l_op (f_as F8 rfl rfl rfl rfl rfl fun _ F9 => ?_)
     refine s_end (x_normal (wp_seq (wp_region_lit (l_op (f_mv F9 rfl rfl rfl rfl rfl fun _ F10 => ?_)))))
     refine l_op (f_mv F10 rfl rfl rfl rfl rfl fun _ F11 => ?_)
     refine l_op (f_val F11 rfl rfl (r_indexS (i := k) Tryz.underlying9 rfl (F11.ev 9 rfl) (F11.ev 10 rfl) (by omega) (by first | assumption | omega)) rfl fun _ F12 => ?_)
     refine l_op (f_val F12 rfl rfl (r_cmp (b := decide (byteAt key k < 33)) (.inr (.inr (.inl rfl))) rfl (F12.ev 11 rfl) rfl (dec_of (by omega))) rfl fun _ F13 => ?_)
     refine l_op (f_mv F13 rfl rfl rfl rfl rfl fun _ F14 => ?_)
     rcases Decidable.em (byteAt key k < 33) with h15 | h15
     · rw [decide_eq_true h15] at F14
       refine l_op (f_skip F14 (wanted_g F14 rfl rfl rfl rfl) rfl rfl fun _ F16 => ?_)
       refine l_op (f_skip F16 (wanted_g F16 rfl rfl rfl rfl) rfl rfl fun _ F17 => ?_)
       refine l_op (f_skip F17 (wanted_g F17 rfl rfl rfl rfl) rfl rfl fun _ F18 => ?_)
       refine l_op (f_skip F18 (wanted_g F18 rfl rfl rfl rfl) rfl rfl fun _ F19 => ?_)
       refine l_op (f_val F19 rfl rfl (r_pick (b := true) rfl (F19.ev 13 rfl) rfl) rfl fun _ F20 => ?_)
       refine l_op (f_mv F20 rfl rfl rfl rfl rfl fun _ F21 => ?_)
       refine l_op (f_skip F21 (wanted_g F21 rfl rfl rfl rfl) rfl rfl fun _ F22 => ?_)
       refine l_op (f_skip F22 (wanted_g F22 rfl rfl rfl rfl) rfl rfl fun _ F23 => ?_)
       refine l_op (f_skip F23 (wanted_g F23 rfl rfl rfl rfl) rfl rfl fun _ F24 => ?_)
       refine l_op (f_skip F24 (wanted_g F24 rfl rfl rfl rfl) rfl rfl fun _ F25 => ?_)
       refine l_op (f_val F25 rfl rfl (r_pick (b := true) rfl (F25.ev 19 rfl) rfl) rfl fun _ F26 => ?_)
       refine s_end (x_normal (wp_cond_true (F26.ev 24 rfl) (wp_seq (wp_region_lit (l_op (f_val F26 rfl rfl (r_assign rfl rfl) rfl fun _ F27 => ?_))))))
       refine s_end (x_normal (wp_ret (x_block_ret (x_then_ret (x_then_ret (x_block_ret (x_then_ret ?_)))))))
       refine x_done (v := .bool false) F27 (results_1 Tryz.results97 (.tmp (F27.ev 2 rfl))) ?_
       exact ⟨(by rw [(show false = (keyOk key) from by first | exact (keyOk_bad (j := k) (by omega) (by unfold kb; exact decide_eq_false (by omega))).symm | exact (keyOk_all (fun j hj => hk_1 j (by omega))).symm)]), (Mv.pick S5 [] rfl)⟩
     · rw [decide_eq_false h15] at F14
       refine l_op (f_mv F14 (wanted_g F14 rfl rfl rfl rfl) rfl rfl rfl rfl fun _ F28 => ?_)
       refine l_op (f_mv F28 (wanted_g F28 rfl rfl rfl rfl) rfl rfl rfl rfl fun _ F29 => ?_)
       refine l_op (f_val F29 (wanted_g F29 rfl rfl rfl rfl) rfl (r_indexS (i := k) Tryz.underlying9 rfl (F29.ev 14 rfl) (F29.ev 15 rfl) (by omega) (by first | assumption | omega)) rfl fun _ F30 => ?_)
       refine l_op (f_val F30 (wanted_g F30 rfl rfl rfl rfl) rfl (r_cmp (b := decide (byteAt key k > 126)) (.inr (.inr (.inr (.inr (.inl rfl))))) rfl (F30.ev 16 rfl) rfl (dec_of (by omega))) rfl fun _ F31 => ?_)
       refine l_op (f_val F31 rfl rfl (r_pick (b := false) rfl (F31.ev 13 rfl) (F31.ev 17 rfl)) rfl fun _ F32 => ?_)
       refine l_op (f_mv F32 rfl rfl rfl rfl rfl fun _ F33 => ?_)
       rcases Decidable.em (byteAt key k > 126) with h34 | h34
       · rw [decide_eq_true h34] at F33
         refine l_op (f_skip F33 (wanted_g F33 rfl rfl rfl rfl) rfl rfl fun _ F35 => ?_)
         refine l_op (f_skip F35 (wanted_g F35 rfl rfl rfl rfl) rfl rfl fun _ F36 => ?_)
         refine l_op (f_skip F36 (wanted_g F36 rfl rfl rfl rfl) rfl rfl fun _ F37 => ?_)
         refine l_op (f_skip F37 (wanted_g F37 rfl rfl rfl rfl) rfl rfl fun _ F38 => ?_)
         refine l_op (f_val F38 rfl rfl (r_pick (b := true) rfl (F38.ev 19 rfl) rfl) rfl fun _ F39 => ?_)
         refine s_end (x_normal (wp_cond_true (F39.ev 24 rfl) (wp_seq (wp_region_lit (l_op (f_val F39 rfl rfl (r_assign rfl rfl) rfl fun _ F40 => ?_))))))
         refine s_end (x_normal (wp_ret (x_block_ret (x_then_ret (x_then_ret (x_block_ret (x_then_ret ?_)))))))
         refine x_done (v := .bool false) F40 (results_1 Tryz.results97 (.tmp (F40.ev 2 rfl))) ?_
         exact ⟨(by rw [(show false = (keyOk key) from by first | exact (keyOk_bad (j := k) (by omega) (by unfold kb; exact decide_eq_false (by omega))).symm | exact (keyOk_all (fun j hj => hk_1 j (by omega))).symm)]), (Mv.pick S5 [] rfl)⟩
       · rw [decide_eq_false h34] at F33
         refine l_op (f_mv F33 (wanted_g F33 rfl rfl rfl rfl) rfl rfl rfl rfl fun _ F41 => ?_)
         refine l_op (f_mv F41 (wanted_g F41 rfl rfl rfl rfl) rfl rfl rfl rfl fun _ F42 => ?_)
         refine l_op (f_val F42 (wanted_g F42 rfl rfl rfl rfl) rfl (r_indexS (i := k) Tryz.underlying9 rfl (F42.ev 20 rfl) (F42.ev 21 rfl) (by omega) (by first | assumption | omega)) rfl fun _ F43 => ?_)
         refine l_op (f_val F43 (wanted_g F43 rfl rfl rfl rfl) rfl (r_cmp (b := decide (byteAt key k = 42)) (.inl rfl) rfl (F43.ev 22 rfl) rfl (dec_of (by omega))) rfl fun _ F44 => ?_)
         refine l_op (f_val F44 rfl rfl (r_pick (b := false) rfl (F44.ev 19 rfl) (F44.ev 23 rfl)) rfl fun _ F45 => ?_)
         refine s_end (x_normal (x_cond (p := byteAt key k = 42) (F45.ev 24 rfl) (fun h46 => ?_) (fun h46 => ?_)))
         · skip
           refine wp_seq (wp_region_lit (l_op (f_val F45 rfl rfl (r_assign rfl rfl) rfl fun _ F47 => ?_)))
           refine s_end (x_normal (wp_ret (x_block_ret (x_then_ret (x_then_ret (x_block_ret (x_then_ret ?_)))))))
           refine x_done (v := .bool false) F47 (results_1 Tryz.results97 (.tmp (F47.ev 2 rfl))) ?_
           exact ⟨(by rw [(show false = (keyOk key) from by first | exact (keyOk_bad (j := k) (by omega) (by unfold kb; exact decide_eq_false (by omega))).symm | exact (keyOk_all (fun j hj => hk_1 j (by omega))).symm)]), (Mv.pick S5 [] rfl)⟩
         · skip
           refine wp_skip (x_block_normal (x_normal (wp_region_lit (l_op (f_val F45 rfl rfl (r_add (z := ((k + 1 : Nat) : Int)) rfl (F45.ev 6 rfl) rfl (by first | rfl | omega) ⟨by first | omega | (unfold i64ok at *; omega), by first | omega | (unfold i64ok at *; omega)⟩) rfl fun _ F48 => ?_)))))
           refine l_op (f_mv F48 rfl rfl rfl rfl rfl fun _ F49 => ?_)
           refine s_end ?_
           refine x_normal ⟨k + 1, by omega, F49.cut rfl, (S5.pick [] rfl), by omega, all_step hk_1 (by unfold kb; exact decide_eq_true (by omega))⟩
   · skip
     refine wp_exit (x_then_exit (x_then_exit (x_block_here (x_normal (wp_seq (wp_region_lit (l_op (f_mv F6 rfl rfl rfl rfl rfl fun _ F50 => ?_))))))))
     refine l_op (f_val F50 rfl rfl (r_lenS (fun t ht => by cases ht; exact Tryz.underlying9) rfl rfl (F50.ev 26 rfl)) rfl fun _ F51 => ?_)
     refine l_op (f_call F51 CF_93 rfl rfl rfl rfl (lc (F51.ev 27 rfl) (lc rfl (lc rfl rfl))) (impl_within_c (H := fun _ => True) (n := ((key.size : Nat) : Int)) (low := 1) (high := 40) (by first | assumption | exact ⟨by omega, by omega⟩ | (unfold i64ok at *; omega)) (by first | assumption | exact ⟨by omega, by omega⟩ | (unfold i64ok at *; omega)) (by first | assumption | exact ⟨by omega, by omega⟩ | (unfold i64ok at *; omega))) ?_)
     rintro _ w52 ⟨rfl, m52⟩
     refine ⟨_, rfl, fun _ F53 => ?_⟩
     have S52 := At.frame0 S5.at' m52
     clear m52
     refine l_op (f_as F53 rfl rfl rfl rfl rfl fun _ F54 => ?_)
     refine s_end (x_normal (wp_ret ?_))
     refine x_done (v := .bool (inB ((key.size : Nat) : Int) 1 40)) F54 (results_1 Tryz.results97 (.tmp (F54.ev 2 rfl))) ?_
     exact ⟨(by rw [(show (inB ((key.size : Nat) : Int) 1 40) = (keyOk key) from by first | exact (keyOk_bad (j := k) (by omega) (by unfold kb; exact decide_eq_false (by omega))).symm | exact (keyOk_all (fun j hj => hk_1 j (by omega))).symm)]), (Mv.pick (S5.trans S52) [] rfl)⟩
theorem impl_put_1_c {w : World} {H : Nat → Prop} {c : CellD} {key_b : Nat} {key : ByteArray} (Q0 : okS c.key) (Q1 : okS c.val) (Q2 : okS key) (hA : At w [bx key_b [.string key] 9]) :
    Calls Tryz.prog 99 #[.agg #[.string c.key, .string c.val], .pointer (some ⟨key_b, 0, none⟩)] w fun e w' => e = .returned (.bool (decide (c.key = key))) ∧ Mv [bx key_b [.string key] 9] w [bx key_b [.string key] 9] w' := by
 have uU : True := (fun _ _ _ _ => trivial) H Q0 Q1 Q2
 clear uU
 refine calls_enter 8 Tryz.func99 rfl Tryz.ntmps99 (Nat.le_of_ble_eq_true rfl) (fun _ F0i => ?_)
 have F0 : Fr 8 [(0, .agg #[.string c.key, .string c.val]), (1, .pointer (some ⟨key_b, 0, none⟩))] _ := F0i
 clear F0i
 refine wp_seq (wp_region_lit (l_op (f_box F0 hA rfl rfl rfl (F0.ev 0 rfl) rfl rfl fun b1 _ w1 F2 S1 => ?_)))
 refine l_op (f_val F2 rfl rfl (r_assign rfl rfl) rfl fun _ F3 => ?_)
 refine s_end (x_normal (wp_seq (wp_region_lit (l_op (f_val F3 rfl rfl (r_field FI_91_0 rfl (F3.ev 2 rfl) rfl) rfl fun _ F4 => ?_)))))
 refine l_op (f_val (v := .string c.key) F4 rfl rfl (r_loadB S1.at' 0 TI_9 rfl rfl (F4.ev 4 rfl) rfl rfl (fun _ => rfl) rfl) rfl fun _ F5 => ?_)
 refine l_op (f_val (v := .string key) F5 rfl rfl (r_loadB S1.at' 1 TI_9 rfl rfl (F5.ev 1 rfl) rfl rfl (fun _ => rfl) rfl) rfl fun _ F6 => ?_)
 refine l_op (f_val F6 rfl rfl (r_cmps (b := (decide (c.key = key))) (.inl rfl) rfl (F6.ev 5 rfl) (F6.ev 6 rfl) rfl) rfl fun _ F7 => ?_)
 refine l_op (f_as F7 rfl rfl rfl rfl rfl fun _ F8 => ?_)
 refine s_end (x_normal (wp_ret ?_))
 refine x_done (v := .bool (decide (c.key = key))) F8 (results_1 Tryz.results99 (.tmp (F8.ev 3 rfl))) ?_
 exact ⟨rfl, (Mv.pick S1 [1] rfl)⟩
theorem impl_put_2_c {w : World} {H : Nat → Prop} {c : CellD} {key_b : Nat} {key : ByteArray} (Q0 : okS c.key) (Q1 : okS c.val) (Q2 : okS key) (hA : At w [bx key_b [.string key] 9]) :
    Calls Tryz.prog 101 #[.agg #[.string c.key, .string c.val], .pointer (some ⟨key_b, 0, none⟩)] w fun e w' => e = .returned (.bool (!leS c.key key)) ∧ Mv [bx key_b [.string key] 9] w [bx key_b [.string key] 9] w' := by
 have uU : True := (fun _ _ _ _ => trivial) H Q0 Q1 Q2
 clear uU
 refine calls_enter 8 Tryz.func101 rfl Tryz.ntmps101 (Nat.le_of_ble_eq_true rfl) (fun _ F0i => ?_)
 have F0 : Fr 8 [(0, .agg #[.string c.key, .string c.val]), (1, .pointer (some ⟨key_b, 0, none⟩))] _ := F0i
 clear F0i
 refine wp_seq (wp_region_lit (l_op (f_box F0 hA rfl rfl rfl (F0.ev 0 rfl) rfl rfl fun b1 _ w1 F2 S1 => ?_)))
 refine l_op (f_val F2 rfl rfl (r_assign rfl rfl) rfl fun _ F3 => ?_)
 refine s_end (x_normal (wp_seq (wp_region_lit (l_op (f_val F3 rfl rfl (r_field FI_91_0 rfl (F3.ev 2 rfl) rfl) rfl fun _ F4 => ?_)))))
 refine l_op (f_val (v := .string c.key) F4 rfl rfl (r_loadB S1.at' 0 TI_9 rfl rfl (F4.ev 4 rfl) rfl rfl (fun _ => rfl) rfl) rfl fun _ F5 => ?_)
 refine l_op (f_val (v := .string key) F5 rfl rfl (r_loadB S1.at' 1 TI_9 rfl rfl (F5.ev 1 rfl) rfl rfl (fun _ => rfl) rfl) rfl fun _ F6 => ?_)
 refine l_op (f_val F6 rfl rfl (r_cmps (b := (!leS c.key key)) (.inr (.inr (.inr (.inr (.inl rfl))))) rfl (F6.ev 5 rfl) (F6.ev 6 rfl) rfl) rfl fun _ F7 => ?_)
 refine l_op (f_as F7 rfl rfl rfl rfl rfl fun _ F8 => ?_)
 refine s_end (x_normal (wp_ret ?_))
 refine x_done (v := .bool (!leS c.key key)) F8 (results_1 Tryz.results101 (.tmp (F8.ev 3 rfl))) ?_
 exact ⟨rfl, (Mv.pick S1 [1] rfl)⟩
theorem IndexFunc_impl_put_1_c {w : World} {H : Nat → Prop} {s : List CellD} {s_a : Option Addr} {s_n s_c : Nat} {f_b : Nat} {f : ByteArray} (v_s : Rd 2 encC okC H w (.slice s_a s_n s_c) s) (h_f : okS f) (hA : At w [bx f_b [.string f] 9]) (hD : ∀ b, H b → ¬ fps [bx f_b [.string f] 9] b) :
    Calls Tryz.prog 100 #[.slice s_a s_n s_c, .func (.func 99) #[] #[.pointer (some ⟨f_b, 0, none⟩)]] w fun e w' => e = .returned (.int .i64 (idxP (fun c : CellD => decide (c.key = f)) s)) ∧ Mv [bx f_b [.string f] 9] w [bx f_b [.string f] 9] w' ∧ i64ok (idxP (fun c : CellD => decide (c.key = f)) s) := by
 have Q0 : Rd 2 encC okC (V H w [bx f_b [.string f] 9]) w (.slice s_a s_n s_c) s := Rd.start v_s hD
 obtain ⟨ln_s, le_s, mx_s, ni_s⟩ := Rd.inv v_s
 refine calls_enter 19 Tryz.func100 rfl Tryz.ntmps100 (Nat.le_of_ble_eq_true rfl) (fun _ F0i => ?_)
 have F0 : Fr 19 [(0, .slice s_a s_n s_c), (1, .func (.func 99) #[] #[.pointer (some ⟨f_b, 0, none⟩)])] _ := F0i
 clear F0i
 refine wp_seq (wp_region_lit (l_op (f_val F0 rfl rfl (r_assign rfl rfl) rfl fun _ F1 => ?_)))
 refine s_end (x_normal (wp_seq (wp_seq (wp_region_lit (l_op (f_mv F1 rfl rfl rfl rfl rfl fun _ F2 => ?_))))))
 refine l_op (f_val F2 rfl rfl (r_len Tryz.underlying28 rfl (F2.ev 6 rfl)) rfl fun _ F3 => ?_)
 refine l_op (f_val F3 rfl rfl (r_move rfl rfl) rfl fun _ F4 => ?_)
 refine s_end (x_normal (wp_block ?_))
 refine x_loop (fun (k : Nat) aZ wZ => Fr 19 [(8, .int .i64 ((k : Nat) : Int)), (7, .int .i64 ((s_n : Nat) : Int)), (0, .slice s_a s_n s_c), (1, .func (.func 99) #[] #[.pointer (some ⟨f_b, 0, none⟩)])] aZ ∧ Mv [bx f_b [.string f] 9] w [bx f_b [.string f] 9] wZ ∧ (k ≤ s_n) ∧ (∀ j, j < k → ∀ c, nth s j = some c → (decide (c.key = f)) = false)) (fun (k : Nat) => s_n - k) (0) ?_ ?_
 · exact ⟨F4.cut rfl, (Mv.refl hA), by omega, all_none⟩
 · rintro k a5 w5 ⟨F5, S5, hk_0, hk_1⟩
   refine wp_seq (wp_region_lit (l_op (f_val F5 rfl rfl (r_cmp (b := decide (k < s_n)) (.inr (.inr (.inl rfl))) rfl (F5.ev 8 rfl) (F5.ev 7 rfl) (dec_of (by omega))) rfl fun _ F6 => ?_)))
   refine s_end (x_normal (wp_seq (x_cond (p := k < s_n) (F6.ev 9 rfl) (fun h7 => ?_) (fun h7 => ?_))))
   · skip
     refine wp_skip (x_normal (wp_seq (wp_block (wp_seq (wp_region_lit (l_op (f_mv F6 rfl rfl rfl rfl rfl fun _ F8 => ?_)))))))
     refine l_op (f_as F8 rfl rfl rfl rfl rfl fun _ F9 => ?_)
     refine s_end (x_normal (wp_seq (wp_region_lit (l_op (f_mv F9 rfl rfl rfl rfl rfl fun _ F10 => ?_)))))
     refine l_op (f_mv F10 rfl rfl rfl rfl rfl fun _ F11 => ?_)
     refine l_op (f_mv F11 rfl rfl rfl rfl rfl fun _ F12 => ?_)
     obtain ⟨B13, O13, x1, ad13, hx1, okx1, ln13, cl13⟩ := Rd.at (Rd.mq Q0 S5) k (by first | assumption | omega)
     clear ln13
     refine l_op (f_val F12 rfl rfl (r_indexAddr (i := k) ET_28 rfl ((F12.ev 12 rfl).trans (by rw [ad13])) (F12.ev 13 rfl) (by omega) (by first | assumption | omega)) rfl fun _ F14 => ?_)
     refine l_op (f_val (v := .agg #[.string x1.key, .string x1.val]) F14 rfl rfl (r_load (cs := [.string x1.key, .string x1.val]) TI_91 rfl (F14.ev 14 rfl) rfl (fun h => nomatch h) (elem_sub (f := 0) cl13 [.string x1.key, .string x1.val] rfl)) rfl fun _ F15 => ?_)
     refine l_op (f_callv F15 CF_99 rfl rfl rfl rfl (F15.ev 11 rfl) (lc (F15.ev 15 rfl) rfl) (impl_put_1_c (H := fun _ => True) (c := x1) (key := f) okx1.1 okx1.2 h_f (At.pick (is := [0]) S5.at' rfl)) ?_)
     rintro _ w16 ⟨rfl, m16⟩
     refine ⟨_, rfl, fun _ F17 => ?_⟩
     have S16 : Mv _ _ [bx f_b [.string f] 9] _ := At.frame S5.at' [0] rfl m16
     clear m16
     refine s_end (x_normal (x_condb (b := (decide (x1.key = f))) (F17.ev 16 rfl) (fun h18 => ?_) (fun h18 => ?_)))
     · skip
       refine wp_seq (wp_region_lit (l_op (f_mv F17 rfl rfl rfl rfl rfl fun _ F19 => ?_)))
       refine l_op (f_as F19 rfl rfl rfl rfl rfl fun _ F20 => ?_)
       refine s_end (x_normal (wp_ret (x_block_ret (x_then_ret (x_then_ret (x_block_ret (x_then_ret ?_)))))))
       refine x_done (v := .int .i64 ((k : Nat) : Int)) F20 (results_1 Tryz.results100 (.tmp (F20.ev 4 rfl))) ?_
       exact ⟨(by rw [(show ((k : Nat) : Int) = (idxP (fun c : CellD => decide (c.key = f)) s) from by exact (idxP_found _ s k _ (by rw [← nth_eq]; exact hx1) (by first | assumption | exact decide_eq_true ‹_›) (fun q hq y hy => hk_1 q hq y (by rw [nth_eq]; exact hy))).symm)]), (Mv.pick (S5.trans S16) [0] rfl), idxP_ok _ s (by omega)⟩
     · skip
       refine wp_skip (x_block_normal (x_normal (wp_region_lit (l_op (f_val F17 rfl rfl (r_add (z := ((k + 1 : Nat) : Int)) rfl (F17.ev 8 rfl) rfl (by first | rfl | omega) ⟨by first | omega | (unfold i64ok at *; omega), by first | omega | (unfold i64ok at *; omega)⟩) rfl fun _ F21 => ?_)))))
       refine l_op (f_mv F21 rfl rfl rfl rfl rfl fun _ F22 => ?_)
       refine s_end ?_
       refine x_normal ⟨k + 1, by omega, F22.cut rfl, ((S5.trans S16).pick [0] rfl), by omega, all_step hk_1 (fun c hc => by obtain rfl := Option.some.inj (hx1.symm.trans hc); first | assumption | exact decide_eq_false ‹_›)⟩
   · skip
     refine wp_exit (x_then_exit (x_then_exit (x_block_here (x_normal (wp_seq (wp_region_lit (l_op (f_val F6 rfl rfl (r_assign rfl rfl) rfl fun _ F23 => ?_))))))))
     refine s_end (x_normal (wp_ret ?_))
     refine x_done (v := .int .i64 (-1)) F23 (results_1 Tryz.results100 (.tmp (F23.ev 4 rfl))) ?_
     exact ⟨(by rw [(show (-1) = (idxP (fun c : CellD => decide (c.key = f)) s) from by exact (idxP_none _ s (fun q hq y hy => hk_1 q (by omega) y (by rw [nth_eq]; exact hy))).symm)]), (Mv.pick S5 [0] rfl), idxP_ok _ s (by omega)⟩
theorem IndexFunc_impl_put_2_c {w : World} {H : Nat → Prop} {s : List CellD} {s_a : Option Addr} {s_n s_c : Nat} {f_b : Nat} {f : ByteArray} (v_s : Rd 2 encC okC H w (.slice s_a s_n s_c) s) (h_f : okS f) (hA : At w [bx f_b [.string f] 9]) (hD : ∀ b, H b → ¬ fps [bx f_b [.string f] 9] b) :
    Calls Tryz.prog 100 #[.slice s_a s_n s_c, .func (.func 101) #[] #[.pointer (some ⟨f_b, 0, none⟩)]] w fun e w' => e = .returned (.int .i64 (idxP (fun c : CellD => !leS c.key f) s)) ∧ Mv [bx f_b [.string f] 9] w [bx f_b [.string f] 9] w' ∧ i64ok (idxP (fun c : CellD => !leS c.key f) s) := by
 have Q0 : Rd 2 encC okC (V H w [bx f_b [.string f] 9]) w (.slice s_a s_n s_c) s := Rd.start v_s hD
 obtain ⟨ln_s, le_s, mx_s, ni_s⟩ := Rd.inv v_s
 refine calls_enter 19 Tryz.func100 rfl Tryz.ntmps100 (Nat.le_of_ble_eq_true rfl) (fun _ F0i => ?_)
 have F0 : Fr 19 [(0, .slice s_a s_n s_c), (1, .func (.func 101) #[] #[.pointer (some ⟨f_b, 0, none⟩)])] _ := F0i
 clear F0i
 refine wp_seq (wp_region_lit (l_op (f_val F0 rfl rfl (r_assign rfl rfl) rfl fun _ F1 => ?_)))
 refine s_end (x_normal (wp_seq (wp_seq (wp_region_lit (l_op (f_mv F1 rfl rfl rfl rfl rfl fun _ F2 => ?_))))))
 refine l_op (f_val F2 rfl rfl (r_len Tryz.underlying28 rfl (F2.ev 6 rfl)) rfl fun _ F3 => ?_)
 refine l_op (f_val F3 rfl rfl (r_move rfl rfl) rfl fun _ F4 => ?_)
 refine s_end (x_normal (wp_block ?_))
 refine x_loop (fun (k : Nat) aZ wZ => Fr 19 [(8, .int .i64 ((k : Nat) : Int)), (7, .int .i64 ((s_n : Nat) : Int)), (0, .slice s_a s_n s_c), (1, .func (.func 101) #[] #[.pointer (some ⟨f_b, 0, none⟩)])] aZ ∧ Mv [bx f_b [.string f] 9] w [bx f_b [.string f] 9] wZ ∧ (k ≤ s_n) ∧ (∀ j, j < k → ∀ c, nth s j = some c → (!leS c.key f) = false)) (fun (k : Nat) => s_n - k) (0) ?_ ?_
 · exact ⟨F4.cut rfl, (Mv.refl hA), by omega, all_none⟩
 · rintro k a5 w5 ⟨F5, S5, hk_0, hk_1⟩
   refine wp_seq (wp_region_lit (l_op (f_val F5 rfl rfl (r_cmp (b := decide (k < s_n)) (.inr (.inr (.inl rfl))) rfl (F5.ev 8 rfl) (F5.ev 7 rfl) (dec_of (by omega))) rfl fun _ F6 => ?_)))
   refine s_end (x_normal (wp_seq (x_cond (p := k < s_n) (F6.ev 9 rfl) (fun h7 => ?_) (fun h7 => ?_))))
   · skip
     refine wp_skip (x_normal (wp_seq (wp_block (wp_seq (wp_region_lit (l_op (f_mv F6 rfl rfl rfl rfl rfl fun _ F8 => ?_)))))))
     refine l_op (f_as F8 rfl rfl rfl rfl rfl fun _ F9 => ?_)
     refine s_end (x_normal (wp_seq (wp_region_lit (l_op (f_mv F9 rfl rfl rfl rfl rfl fun _ F10 => ?_)))))
     refine l_op (f_mv F10 rfl rfl rfl rfl rfl fun _ F11 => ?_)
     refine l_op (f_mv F11 rfl rfl rfl rfl rfl fun _ F12 => ?_)
     obtain ⟨B13, O13, x1, ad13, hx1, okx1, ln13, cl13⟩ := Rd.at (Rd.mq Q0 S5) k (by first | assumption | omega)
     clear ln13
     refine l_op (f_val F12 rfl rfl (r_indexAddr (i := k) ET_28 rfl ((F12.ev 12 rfl).trans (by rw [ad13])) (F12.ev 13 rfl) (by omega) (by first | assumption | omega)) rfl fun _ F14 => ?_)
     refine l_op (f_val (v := .agg #[.string x1.key, .string x1.val]) F14 rfl rfl (r_load (cs := [.string x1.key, .string x1.val]) TI_91 rfl (F14.ev 14 rfl) rfl (fun h => nomatch h) (elem_sub (f := 0) cl13 [.string x1.key, .string x1.val] rfl)) rfl fun _ F15 => ?_)
     refine l_op (f_callv F15 CF_101 rfl rfl rfl rfl (F15.ev 11 rfl) (lc (F15.ev 15 rfl) rfl) (impl_put_2_c (H := fun _ => True) (c := x1) (key := f) okx1.1 okx1.2 h_f (At.pick (is := [0]) S5.at' rfl)) ?_)
     rintro _ w16 ⟨rfl, m16⟩
     refine ⟨_, rfl, fun _ F17 => ?_⟩
     have S16 : Mv _ _ [bx f_b [.string f] 9] _ := At.frame S5.at' [0] rfl m16
     clear m16
     refine s_end (x_normal (x_condb (b := (!leS x1.key f)) (F17.ev 16 rfl) (fun h18 => ?_) (fun h18 => ?_)))
     · skip
       refine wp_seq (wp_region_lit (l_op (f_mv F17 rfl rfl rfl rfl rfl fun _ F19 => ?_)))
       refine l_op (f_as F19 rfl rfl rfl rfl rfl fun _ F20 => ?_)
       refine s_end (x_normal (wp_ret (x_block_ret (x_then_ret (x_then_ret (x_block_ret (x_then_ret ?_)))))))
       refine x_done (v := .int .i64 ((k : Nat) : Int)) F20 (results_1 Tryz.results100 (.tmp (F20.ev 4 rfl))) ?_
       exact ⟨(by rw [(show ((k : Nat) : Int) = (idxP (fun c : CellD => !leS c.key f) s) from by exact (idxP_found _ s k _ (by rw [← nth_eq]; exact hx1) (by first | assumption | exact decide_eq_true ‹_›) (fun q hq y hy => hk_1 q hq y (by rw [nth_eq]; exact hy))).symm)]), (Mv.pick (S5.trans S16) [0] rfl), idxP_ok _ s (by omega)⟩
     · skip
       refine wp_skip (x_block_normal (x_normal (wp_region_lit (l_op (f_val F17 rfl rfl (r_add (z := ((k + 1 : Nat) : Int)) rfl (F17.ev 8 rfl) rfl (by first | rfl | omega) ⟨by first | omega | (unfold i64ok at *; omega), by first | omega | (unfold i64ok at *; omega)⟩) rfl fun _ F21 => ?_)))))
       refine l_op (f_mv F21 rfl rfl rfl rfl rfl fun _ F22 => ?_)
       refine s_end ?_
       refine x_normal ⟨k + 1, by omega, F22.cut rfl, ((S5.trans S16).pick [0] rfl), by omega, all_step hk_1 (fun c hc => by obtain rfl := Option.some.inj (hx1.symm.trans hc); first | assumption | exact decide_eq_false ‹_›)⟩
   · skip
     refine wp_exit (x_then_exit (x_then_exit (x_block_here (x_normal (wp_seq (wp_region_lit (l_op (f_val F6 rfl rfl (r_assign rfl rfl) rfl fun _ F23 => ?_))))))))
     refine s_end (x_normal (wp_ret ?_))
     refine x_done (v := .int .i64 (-1)) F23 (results_1 Tryz.results100 (.tmp (F23.ev 4 rfl))) ?_
     exact ⟨(by rw [(show (-1) = (idxP (fun c : CellD => !leS c.key f) s) from by exact (idxP_none _ s (fun q hq y hy => hk_1 q (by omega) y (by rw [nth_eq]; exact hy))).symm)]), (Mv.pick S5 [0] rfl), idxP_ok _ s (by omega)⟩
theorem DeleteFunc_c {w : World} {H : Nat → Prop} {s : List CellD} {s_a : Option Addr} {s_n s_c : Nat} {del_b : Nat} {del : ByteArray} (Q0 : okS del) (hA : At w [ow 91 2 encC okC (.slice s_a s_n s_c) s, bx del_b [.string del] 9]) :
    Calls Tryz.prog 98 #[.slice s_a s_n s_c, .func (.func 99) #[] #[.pointer (some ⟨del_b, 0, none⟩)]] w fun e w' => ∃ (r0_a : Option Addr), ∃ (r0_n : Nat), ∃ (r0_c : Nat), e = .returned (.slice r0_a r0_n r0_c) ∧ Mv [ow 91 2 encC okC (.slice s_a s_n s_c) s, bx del_b [.string del] 9] w [ow 91 2 encC okC (.slice r0_a r0_n r0_c) (delKey s del), bx del_b [.string del] 9] w' := by
 have uU : True := (fun _ => trivial) H
 clear uU
 obtain ⟨lo0, lp0, lq0⟩ := At.ownInv hA ET_28.hk 0 rfl
 refine calls_enter 42 Tryz.func98 rfl Tryz.ntmps98 (Nat.le_of_ble_eq_true rfl) (fun _ F0i => ?_)
 have F0 : Fr 42 [(0, .slice s_a s_n s_c), (1, .func (.func 99) #[] #[.pointer (some ⟨del_b, 0, none⟩)])] _ := F0i
 clear F0i
 refine wp_seq (wp_region_lit (l_op (f_val F0 rfl rfl (r_assign rfl rfl) rfl fun _ F1 => ?_)))
 refine s_end (x_normal (wp_seq (wp_region_lit (l_op (f_mv F1 rfl rfl rfl rfl rfl fun _ F2 => ?_)))))
 refine l_op (f_mv F2 rfl rfl rfl rfl rfl fun _ F3 => ?_)
 refine l_op (f_call F3 CF_100 rfl rfl rfl rfl (lc (F3.ev 8 rfl) (lc (F3.ev 9 rfl) rfl)) (IndexFunc_impl_put_1_c (H := fun b => ¬ fps (sel [ow 91 2 encC okC (.slice s_a s_n s_c) s, bx del_b [.string del] 9] [1]) b) (s := s) (f := del) (At.rdOff hA ET_28.hk 0 rfl [1] rfl) Q0 (At.pick (is := [1]) hA rfl) (fun _ h => h)) ?_)
 rintro _ w4 ⟨rfl, m4, q4_0⟩
 refine ⟨_, rfl, fun _ F5 => ?_⟩
 have S4 : Mv _ _ [bx del_b [.string del] 9, ow 91 2 encC okC (.slice s_a s_n s_c) s] _ := At.frame hA [1] rfl m4
 clear m4
 refine l_op (f_as F5 rfl rfl rfl rfl rfl fun _ F6 => ?_)
 refine s_end (x_normal (wp_seq (wp_seq (wp_region_lit (l_op (f_mv F6 rfl rfl rfl rfl rfl fun _ F7 => ?_))))))
 refine l_op (f_val F7 rfl rfl (r_cmp (b := decide ((idxP (fun c : CellD => decide (c.key = del)) s) = (-1))) (.inl rfl) rfl (F7.ev 11 rfl) rfl (dec_of (by omega))) rfl fun _ F8 => ?_)
 refine s_end (x_normal (x_cond (p := (idxP (fun c : CellD => decide (c.key = del)) s) = (-1)) (F8.ev 12 rfl) (fun h9 => ?_) (fun h9 => ?_)))
 · skip
   refine wp_seq (wp_region_lit (l_op (f_mv F8 rfl rfl rfl rfl rfl fun _ F10 => ?_)))
   refine l_op (f_as F10 rfl rfl rfl rfl rfl fun _ F11 => ?_)
   refine s_end (x_normal (wp_ret (x_then_ret ?_)))
   refine x_done (v := .slice s_a s_n s_c) F11 (results_1 Tryz.results98 (.tmp (F11.ev 4 rfl))) ?_
   exact ⟨s_a, s_n, s_c, rfl, (Mv.cast (Mv.pick S4 [1, 0] rfl) (by rw [← (show s = (delKey s del) from by exact delKey_none ‹_›)]; all_goals rfl))⟩
 · skip
   refine wp_skip (x_normal (wp_seq (wp_seq (wp_region_lit (l_op (f_mv F8 rfl rfl rfl rfl rfl fun _ F12 => ?_))))))
   refine l_op (f_val F12 rfl rfl (r_add (z := ((idxP (fun c : CellD => decide (c.key = del)) s) + 1)) rfl (F12.ev 14 rfl) rfl (by first | rfl | omega) ⟨by have := idxP_bd (fun c : CellD => decide (c.key = del)) s; omega, by have := idxP_bd (fun c : CellD => decide (c.key = del)) s; omega⟩) rfl fun _ F13 => ?_)
   refine l_op (f_as F13 rfl rfl rfl rfl rfl fun _ F14 => ?_)
   refine s_end (x_normal (wp_block ?_))
   obtain ⟨k0, hk0, hk1, hk2⟩ := delStart (s := s) (key := del) ‹_›
   rw [hk0] at F14
   refine x_loop (fun (j : Nat) aZ wZ => ∃ (ii : Nat), ∃ (D : List CellD), Fr 42 [(6, .int .i64 ((j : Nat) : Int)), (5, .int .i64 ((ii : Nat) : Int)), (0, .slice s_a s_n s_c), (1, .func (.func 99) #[] #[.pointer (some ⟨del_b, 0, none⟩)])] aZ ∧ Mv [bx del_b [.string del] 9, ow 91 2 encC okC (.slice s_a s_n s_c) s] w4 [bx del_b [.string del] 9, ow 91 2 encC okC (.slice s_a s_n s_c) D] wZ ∧ (delInv s del j ii D)) (fun (j : Nat) => s_n - j) (k0 + 1) ?_ ?_
   · exact ⟨k0, s, F14.cut rfl, (Mv.refl S4.at'), hk2⟩
   · rintro j a15 w15 ⟨ii, D, F15, S15, hj_0⟩
     obtain ⟨hb1, hb2, hb3⟩ := hj_0.bd
     refine wp_seq (wp_seq (wp_region_lit (l_op (f_mv F15 rfl rfl rfl rfl rfl fun _ F16 => ?_))))
     refine l_op (f_mv F16 rfl rfl rfl rfl rfl fun _ F17 => ?_)
     refine l_op (f_val F17 rfl rfl (r_len Tryz.underlying28 rfl (F17.ev 17 rfl)) rfl fun _ F18 => ?_)
     refine l_op (f_val F18 rfl rfl (r_cmp (b := decide (j < s_n)) (.inr (.inr (.inl rfl))) rfl (F18.ev 16 rfl) (F18.ev 18 rfl) (dec_of (by omega))) rfl fun _ F19 => ?_)
     refine s_end (x_normal (x_cond (p := j < s_n) (F19.ev 19 rfl) (fun h20 => ?_) (fun h20 => ?_)))
     · skip
       refine wp_skip (x_normal (wp_seq (wp_block (wp_seq (wp_region_lit (l_op (f_mv F19 rfl rfl rfl rfl rfl fun _ F21 => ?_)))))))
       refine l_op (f_mv F21 rfl rfl rfl rfl rfl fun _ F22 => ?_)
       obtain ⟨B23, x1, ad23, hx1, okx1, cl23⟩ := At.ownAt S15.at' ET_28.hk 1 rfl j  (by first | assumption | omega)
       refine l_op (f_val F22 rfl rfl (r_indexAddr (i := j) ET_28 rfl ((F22.ev 22 rfl).trans (by rw [ad23])) (F22.ev 23 rfl) (by omega) (by first | assumption | omega)) rfl fun _ F24 => ?_)
       refine l_op (f_val (v := .agg #[.string x1.key, .string x1.val]) F24 rfl rfl (r_load (cs := [.string x1.key, .string x1.val]) TI_91 rfl (F24.ev 24 rfl) rfl (fun h => nomatch h) (elem_sub (f := 0) cl23 [.string x1.key, .string x1.val] rfl)) rfl fun _ F25 => ?_)
       refine l_op (f_alloc F25 S15.at' ZI_91 rfl rfl rfl rfl rfl fun b26 _ w26 F27 S26 => ?_)
       refine l_op (s_store S26.at' 0 TI_91 rfl rfl rfl rfl rfl (F27.ev 7 rfl) (F27.ev 25 rfl) rfl rfl rfl rfl rfl fun w28 S28 => ?_)
       have T29 : Mv _ _ [bx b26 [.string x1.key, .string x1.val] 91, bx del_b [.string del] 9, ow 91 2 encC okC (.slice s_a s_n s_c) D] _ := S28
       refine s_end (x_normal (wp_seq (wp_region_lit (l_op (f_mv F27 rfl rfl rfl rfl rfl fun _ F30 => ?_)))))
       refine l_op (f_val (v := .agg #[.string x1.key, .string x1.val]) F30 rfl rfl (r_loadB T29.at' 0 TI_91 rfl rfl (F30.ev 7 rfl) rfl rfl (fun h => nomatch h) rfl) rfl fun _ F31 => ?_)
       refine l_op (f_callv F31 CF_99 rfl rfl rfl rfl (F31.ev 26 rfl) (lc (F31.ev 27 rfl) rfl) (impl_put_1_c (H := fun _ => True) (c := x1) (key := del) okx1.1 okx1.2 Q0 (At.pick (is := [1]) T29.at' rfl)) ?_)
       rintro _ w32 ⟨rfl, m32⟩
       refine ⟨_, rfl, fun _ F33 => ?_⟩
       have S32 : Mv _ _ [bx del_b [.string del] 9, bx b26 [.string x1.key, .string x1.val] 91, ow 91 2 encC okC (.slice s_a s_n s_c) D] _ := At.frame T29.at' [1] rfl m32
       clear m32
       refine l_op (f_val F33 rfl rfl (r_not rfl (F33.ev 28 rfl)) rfl fun _ F34 => ?_)
       refine s_end (x_normal (x_condb (b := (!(decide (x1.key = del)))) (F34.ev 29 rfl) (fun h35 => ?_) (fun h35 => ?_)))
       · skip
         refine wp_seq (wp_region_lit (l_op (f_mv F34 rfl rfl rfl rfl rfl fun _ F36 => ?_)))
         refine l_op (f_mv F36 rfl rfl rfl rfl rfl fun _ F37 => ?_)
         refine l_op (f_val (v := .agg #[.string x1.key, .string x1.val]) F37 rfl rfl (r_loadB S32.at' 1 TI_91 rfl rfl (F37.ev 7 rfl) rfl rfl (fun h => nomatch h) rfl) rfl fun _ F38 => ?_)
         obtain ⟨B39, x2, ad39, hx2, okx2, cl39⟩ := At.ownAt S32.at' ET_28.hk 2 rfl ii  (by first | assumption | omega)
         refine l_op (f_val F38 rfl rfl (r_indexAddr (i := ii) ET_28 rfl ((F38.ev 30 rfl).trans (by rw [ad39])) (F38.ev 31 rfl) (by omega) (by first | assumption | omega)) rfl fun _ F40 => ?_)
         refine l_op (s_storeEl S32.at' 2 ii x1 ET_28.hk ET_28.h1 TI_91 rfl ad39 rfl rfl rfl rfl (F40.ev 33 rfl) (F40.ev 32 rfl) rfl (by first | assumption | omega) ⟨okx1.1, okx1.2⟩ fun w41 S41 => ?_)
         refine s_end (x_normal (wp_region_lit (l_op (f_mv F40 rfl rfl rfl rfl rfl fun _ F42 => ?_))))
         refine l_op (f_val F42 rfl rfl (r_add (z := ((ii + 1 : Nat) : Int)) rfl (F42.ev 34 rfl) rfl (by first | rfl | omega) ⟨by first | omega | (unfold i64ok at *; omega), by first | omega | (unfold i64ok at *; omega)⟩) rfl fun _ F43 => ?_)
         refine l_op (f_as F43 rfl rfl rfl rfl rfl fun _ F44 => ?_)
         refine s_end (x_block_normal (x_normal (wp_region_lit (l_op (f_mv F44 rfl rfl rfl rfl rfl fun _ F45 => ?_)))))
         refine l_op (f_val F45 rfl rfl (r_add (z := ((j + 1 : Nat) : Int)) rfl (F45.ev 20 rfl) rfl (by first | rfl | omega) ⟨by first | omega | (unfold i64ok at *; omega), by first | omega | (unfold i64ok at *; omega)⟩) rfl fun _ F46 => ?_)
         refine l_op (f_as F46 rfl rfl rfl rfl rfl fun _ F47 => ?_)
         refine s_end ?_
         refine x_normal ⟨j + 1, by omega, ii + 1, D.set ii x1, F47.cut rfl, ((S15.trans (S26.trans (T29.trans (S32.trans S41)))).pick [1, 0] rfl), by first | exact hj_0.skip hx1 (by simp_all) | exact hj_0.keep hx1 (by simp_all)⟩
       · skip
         refine wp_skip (x_block_normal (x_normal (wp_region_lit (l_op (f_mv F34 rfl rfl rfl rfl rfl fun _ F48 => ?_)))))
         refine l_op (f_val F48 rfl rfl (r_add (z := ((j + 1 : Nat) : Int)) rfl (F48.ev 20 rfl) rfl (by first | rfl | omega) ⟨by first | omega | (unfold i64ok at *; omega), by first | omega | (unfold i64ok at *; omega)⟩) rfl fun _ F49 => ?_)
         refine l_op (f_as F49 rfl rfl rfl rfl rfl fun _ F50 => ?_)
         refine s_end ?_
         refine x_normal ⟨j + 1, by omega, ii, D, F50.cut rfl, ((S15.trans (S26.trans (T29.trans S32))).pick [0, 2] rfl), by first | exact hj_0.skip hx1 (by simp_all) | exact hj_0.keep hx1 (by simp_all)⟩
     · skip
       refine wp_exit (x_then_exit (x_then_exit (x_block_here (x_normal (wp_seq (wp_region_lit (l_op (f_mv F19 rfl rfl rfl rfl rfl fun _ F51 => ?_))))))))
       refine l_op (f_mv F51 rfl rfl rfl rfl rfl fun _ F52 => ?_)
       obtain ⟨B53, ad53, qc53⟩ := own_blk S15.at' 1 rfl (by first | assumption | omega)
       refine l_op (f_val F52 rfl rfl (r_sliceO (lo := ii) ET_28 rfl (F52.ev 36 rfl) ad53 (F52.ev 37 rfl) rfl (by first | assumption | omega) qc53) rfl fun _ F54 => ?_)
       refine l_op (s_clear (lo := ii) (⟨bE_, bE_⟩ : CellD) S15.at' 1 ET_28 rfl ad53 rfl rfl rfl rfl (F54.ev 38 rfl) (by first | assumption | omega) rfl ⟨(by unfold okS; decide), (by unfold okS; decide)⟩ fun w55 S55 => ?_)
       refine s_end (x_normal (wp_seq (wp_region_lit (l_op (f_mv F54 rfl rfl rfl rfl rfl fun _ F56 => ?_)))))
       refine l_op (f_mv F56 rfl rfl rfl rfl rfl fun _ F57 => ?_)
       refine l_op (f_cutO F57 S55.at' 0 ii ET_28 rfl rfl rfl rfl rfl rfl (F57.ev 39 rfl) rfl (F57.ev 40 rfl) (by first | assumption | omega) fun _ F59 S58 => ?_)
       refine l_op (f_as F59 rfl rfl rfl rfl rfl fun _ F60 => ?_)
       have T61 : Mv _ _ [ow 91 2 encC okC (.slice s_a ii s_c) ((D.take ii ++ List.replicate (s_n - ii) (⟨bE_, bE_⟩ : CellD)).take ii), bx del_b [.string del] 9] _ := S58
       refine s_end (x_normal (wp_ret ?_))
       refine x_done (v := .slice s_a ii s_c) F60 (results_1 Tryz.results98 (.tmp (F60.ev 4 rfl))) ?_
       exact ⟨s_a, ii, s_c, rfl, (Mv.cast (Mv.pick (S4.trans (S15.trans (S55.trans T61))) [0, 1] rfl) (by rw [(show ((D.take ii ++ List.replicate (s_n - ii) (⟨bE_, bE_⟩ : CellD)).take ii) = (delKey s del) from by exact hj_0.done (by omega) _)]; all_goals rfl))⟩
end Go.Proofs.YtipdbeklopjbmaaGreatDoor
