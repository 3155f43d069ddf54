/-
  Walks: a key is put into a store.
-/
import Derived.Test.YtibgmijfnbnfkaaDoorDat
import Derived.Test.YtibgmijfnbnfkaaDoorGenF
namespace Go.Proofs.YtibgmijfnbnfkaaDoor
open Go.ChangeShapes Go.WideShapes Go.ChangeAt Go.RowKit
set_option maxRecDepth 100000
set_option maxHeartbeats 1000000
theorem slices_Insert_Simpl_Cell_impl_Cell_c {w : World} {H : Nat → Prop} {s : List CellD} {s_a : Option Addr} {s_n s_c : Nat} {i : Int} {v_b : Nat} {v : CellD} (h_i : i64ok i) (p0 : 0 ≤ i) (p1 : i ≤ s.length) (p2 : s.length ≤ 549755813888) (hA : At w [ow 53 2 encC okC (.slice s_a s_n s_c) s, ow 53 2 encC okC (.slice (some ⟨v_b, 0, none⟩) 1 1) ([v])]) :
    Calls Tryd.prog 61 #[.slice s_a s_n s_c, .int .i64 i, .slice (some ⟨v_b, 0, none⟩) 1 1] w fun e w' => ∃ (r0_a : Option Addr), ∃ (r0_n : Nat), ∃ (r0_c : Nat), e = .returned (.slice r0_a r0_n r0_c) ∧ Mv [ow 53 2 encC okC (.slice s_a s_n s_c) s, ow 53 2 encC okC (.slice (some ⟨v_b, 0, none⟩) 1 1) ([v])] w [ow 53 2 encC okC (.slice r0_a r0_n r0_c) (insAt s i.toNat v)] w' := by
  have uU : True := (fun _ _ _ _ => trivial) H h_i p1 p2
  clear uU
  have hO := hA.ok _ (List.mem_cons_self ..)
  have hO2 := hA.ok _ (List.mem_cons_of_mem _ (List.mem_cons_self ..))
  obtain ⟨hv, hv2⟩ := own_lit cellT.hk hO2
  have hl : s.length = s_n := by obtain ⟨_, _, e, _⟩ := (Own.rd cellT.hk hO).inv; cases e; rfl
  obtain ⟨j, rfl⟩ := Int.eq_ofNat_of_zero_le p0
  refine (insertCells_c _ j v v_b w s hO (by omega) (by omega) hv2 hv (fun b hb e => ?_)).mono ?_
  · subst e
    exact hA.apartAt (i := 0) (j := 1) rfl rfl (by decide) b (show Value.ownBlock _ = some b by simpa using hb) rfl
  · rintro e w' ⟨v', rfl, h1, h2, h3⟩
    have hm : Mv _ w _ w' := hA.frame [0] rfl (mv_of_own h1 h2 h3)
    obtain ⟨r0_a, r0_n, r0_c, rfl⟩ : ∃ a n c, v' = .slice a n c := by obtain ⟨a, c, e, _⟩ := (Own.rd cellT.hk h1).inv; exact ⟨_, _, _, e⟩
    exact ⟨r0_a, r0_n, r0_c, rfl, hm.pick [0] rfl⟩
theorem impl_KeyOk_c {w : World} {H : Nat → Prop} {key : ByteArray} (h_key : okS key) :
    Calls Tryd.prog 56 #[.string key] w fun e w' => e = .returned (.bool (keyOk key)) ∧ Mv [] w [] w' := by
 have uU : True := (fun _ => trivial) H
 clear uU
 have kz := h_key
 unfold okS at kz
 refine calls_enter 29 Tryd.func56 rfl Tryd.ntmps56 (Nat.le_of_ble_eq_true rfl) (fun _ F0i => ?_)
 have F0 : Fr 29 [(0, .string key)] _ := F0i
 clear F0i
 refine wp_seq (wp_region_lit (l_op (f_val F0 rfl rfl (r_assign rfl rfl) rfl fun _ F1 => ?_)))
 have F2 : Fr 29 [(2, .bool false), (0, .string key)] _ := F1.cut rfl
 clear F0 F1
 refine s_end (x_normal (wp_seq (wp_seq (wp_region_lit (l_op (f_mv F2 rfl rfl rfl rfl rfl fun _ F3 => ?_))))))
 refine l_op (f_val F3 rfl rfl (r_lenS (fun t ht => by cases ht; exact Tryd.underlying9) rfl rfl (F3.ev 4 rfl)) rfl fun _ F4 => ?_)
 refine l_op (f_val F4 rfl rfl (r_move rfl rfl) rfl fun _ F5 => ?_)
 have F6 : Fr 29 [(6, .int .i64 0), (5, .int .i64 ((key.size : Nat) : Int)), (0, .string key)] _ := F5.cut rfl
 clear F2 F3 F4 F5
 refine s_end (x_normal (wp_block ?_))
 refine x_loop (fun (k : Nat) aZ wZ => Fr 29 [(6, .int .i64 ((k : Nat) : Int)), (5, .int .i64 ((key.size : Nat) : Int)), (0, .string key)] aZ ∧ Mv [] w [] wZ ∧ (k ≤ key.size) ∧ (∀ j, j < k → kb (byteAt key j) = true)) (fun (k : Nat) => key.size - k) (0) ?_ ?_
 · exact ⟨F6.cut rfl, (Mv.refl (At.nil w)), by omega, all_none⟩
 · rintro k a7 w7 ⟨F7, S7, hk_0, hk_1⟩
   refine wp_seq (wp_region_lit (l_op (f_val F7 rfl rfl (r_cmp (b := decide (k < key.size)) (.inr (.inr (.inl rfl))) rfl (F7.ev 6 rfl) (F7.ev 5 rfl) (dec_of (by omega))) rfl fun _ F8 => ?_)))
   have F9 : Fr 29 [(7, .bool (decide (k < key.size))), (6, .int .i64 ((k : Nat) : Int)), (5, .int .i64 ((key.size : Nat) : Int)), (0, .string key)] _ := F8.cut rfl
   clear F7 F8
   refine s_end (x_normal (wp_seq (x_cond (p := k < key.size) (F9.ev 7 rfl) (fun h10 => ?_) (fun h10 => ?_))))
   · skip
     refine wp_skip (x_normal (wp_seq (wp_block (wp_seq (wp_region_lit (l_op (f_mv F9 rfl rfl rfl rfl rfl fun _ F11 => ?_)))))))
     refine l_op (f_as F11 rfl rfl rfl rfl rfl fun _ F12 => ?_)
     have F13 : Fr 29 [(3, .int .i64 ((k : Nat) : Int)), (6, .int .i64 ((k : Nat) : Int)), (5, .int .i64 ((key.size : Nat) : Int)), (0, .string key)] _ := F12.cut rfl
     clear F9 F11 F12
     refine s_end (x_normal (wp_seq (wp_region_lit (l_op (f_mv F13 rfl rfl rfl rfl rfl fun _ F14 => ?_)))))
     refine l_op (f_mv F14 rfl rfl rfl rfl rfl fun _ F15 => ?_)
     refine l_op (f_val F15 rfl rfl (r_indexS (i := k) Tryd.underlying9 rfl (F15.ev 9 rfl) (F15.ev 10 rfl) (by omega) (by first | assumption | omega)) rfl fun _ F16 => ?_)
     refine l_op (f_val F16 rfl rfl (r_cmp (b := decide (byteAt key k < 33)) (.inr (.inr (.inl rfl))) rfl (F16.ev 11 rfl) rfl (dec_of (by omega))) rfl fun _ F17 => ?_)
     refine l_op (f_mv F17 rfl rfl rfl rfl rfl fun _ F18 => ?_)
     rcases Decidable.em (byteAt key k < 33) with h19 | h19
     · rw [decide_eq_true h19] at F18
       refine l_op (f_skip F18 (wanted_g F18 rfl rfl rfl rfl) rfl rfl fun _ F20 => ?_)
       refine l_op (f_skip F20 (wanted_g F20 rfl rfl rfl rfl) rfl rfl fun _ F21 => ?_)
       refine l_op (f_skip F21 (wanted_g F21 rfl rfl rfl rfl) rfl rfl fun _ F22 => ?_)
       refine l_op (f_skip F22 (wanted_g F22 rfl rfl rfl rfl) rfl rfl fun _ F23 => ?_)
       refine l_op (f_val F23 rfl rfl (r_pick (b := true) rfl (F23.ev 13 rfl) rfl) rfl fun _ F24 => ?_)
       refine l_op (f_mv F24 rfl rfl rfl rfl rfl fun _ F25 => ?_)
       refine l_op (f_skip F25 (wanted_g F25 rfl rfl rfl rfl) rfl rfl fun _ F26 => ?_)
       refine l_op (f_skip F26 (wanted_g F26 rfl rfl rfl rfl) rfl rfl fun _ F27 => ?_)
       refine l_op (f_skip F27 (wanted_g F27 rfl rfl rfl rfl) rfl rfl fun _ F28 => ?_)
       refine l_op (f_skip F28 (wanted_g F28 rfl rfl rfl rfl) rfl rfl fun _ F29 => ?_)
       refine l_op (f_val F29 rfl rfl (r_pick (b := true) rfl (F29.ev 19 rfl) rfl) rfl fun _ F30 => ?_)
       have F31 : Fr 29 [(24, .bool true), (6, .int .i64 ((k : Nat) : Int)), (5, .int .i64 ((key.size : Nat) : Int)), (0, .string key)] _ := F30.cut rfl
       clear F13 F14 F15 F16 F17 F18 F20 F21 F22 F23 F24 F25 F26 F27 F28 F29 F30
       refine s_end (x_normal (wp_cond_true (F31.ev 24 rfl) (wp_seq (wp_region_lit (l_op (f_val F31 rfl rfl (r_assign rfl rfl) rfl fun _ F32 => ?_))))))
       have F33 : Fr 29 [(2, .bool false)] _ := F32.cut rfl
       clear F31 F32
       refine s_end (x_normal (wp_ret (x_block_ret (x_then_ret (x_then_ret (x_block_ret (x_then_ret ?_)))))))
       refine x_done (v := .bool false) F33 (results_1 Tryd.results56 (.tmp (F33.ev 2 rfl))) ?_
       exact ⟨(by rw [(show false = (keyOk key) from by first | exact (keyOk_bad (j := k) (by omega) (by unfold kb; exact decide_eq_false (by omega))).symm | exact (keyOk_all (fun j hj => hk_1 j (by omega))).symm)]), (Mv.pick S7 [] rfl)⟩
     · rw [decide_eq_false h19] at F18
       refine l_op (f_mv F18 (wanted_g F18 rfl rfl rfl rfl) rfl rfl rfl rfl fun _ F34 => ?_)
       refine l_op (f_mv F34 (wanted_g F34 rfl rfl rfl rfl) rfl rfl rfl rfl fun _ F35 => ?_)
       refine l_op (f_val F35 (wanted_g F35 rfl rfl rfl rfl) rfl (r_indexS (i := k) Tryd.underlying9 rfl (F35.ev 14 rfl) (F35.ev 15 rfl) (by omega) (by first | assumption | omega)) rfl fun _ F36 => ?_)
       refine l_op (f_val F36 (wanted_g F36 rfl rfl rfl rfl) rfl (r_cmp (b := decide (byteAt key k > 126)) (.inr (.inr (.inr (.inr (.inl rfl))))) rfl (F36.ev 16 rfl) rfl (dec_of (by omega))) rfl fun _ F37 => ?_)
       refine l_op (f_val F37 rfl rfl (r_pick (b := false) rfl (F37.ev 13 rfl) (F37.ev 17 rfl)) rfl fun _ F38 => ?_)
       refine l_op (f_mv F38 rfl rfl rfl rfl rfl fun _ F39 => ?_)
       rcases Decidable.em (byteAt key k > 126) with h40 | h40
       · rw [decide_eq_true h40] at F39
         refine l_op (f_skip F39 (wanted_g F39 rfl rfl rfl rfl) rfl rfl fun _ F41 => ?_)
         refine l_op (f_skip F41 (wanted_g F41 rfl rfl rfl rfl) rfl rfl fun _ F42 => ?_)
         refine l_op (f_skip F42 (wanted_g F42 rfl rfl rfl rfl) rfl rfl fun _ F43 => ?_)
         refine l_op (f_skip F43 (wanted_g F43 rfl rfl rfl rfl) rfl rfl fun _ F44 => ?_)
         refine l_op (f_val F44 rfl rfl (r_pick (b := true) rfl (F44.ev 19 rfl) rfl) rfl fun _ F45 => ?_)
         have F46 : Fr 29 [(24, .bool true), (6, .int .i64 ((k : Nat) : Int)), (5, .int .i64 ((key.size : Nat) : Int)), (0, .string key)] _ := F45.cut rfl
         clear F13 F14 F15 F16 F17 F18 F34 F35 F36 F37 F38 F39 F41 F42 F43 F44 F45
         refine s_end (x_normal (wp_cond_true (F46.ev 24 rfl) (wp_seq (wp_region_lit (l_op (f_val F46 rfl rfl (r_assign rfl rfl) rfl fun _ F47 => ?_))))))
         have F48 : Fr 29 [(2, .bool false)] _ := F47.cut rfl
         clear F46 F47
         refine s_end (x_normal (wp_ret (x_block_ret (x_then_ret (x_then_ret (x_block_ret (x_then_ret ?_)))))))
         refine x_done (v := .bool false) F48 (results_1 Tryd.results56 (.tmp (F48.ev 2 rfl))) ?_
         exact ⟨(by rw [(show false = (keyOk key) from by first | exact (keyOk_bad (j := k) (by omega) (by unfold kb; exact decide_eq_false (by omega))).symm | exact (keyOk_all (fun j hj => hk_1 j (by omega))).symm)]), (Mv.pick S7 [] rfl)⟩
       · rw [decide_eq_false h40] at F39
         refine l_op (f_mv F39 (wanted_g F39 rfl rfl rfl rfl) rfl rfl rfl rfl fun _ F49 => ?_)
         refine l_op (f_mv F49 (wanted_g F49 rfl rfl rfl rfl) rfl rfl rfl rfl fun _ F50 => ?_)
         refine l_op (f_val F50 (wanted_g F50 rfl rfl rfl rfl) rfl (r_indexS (i := k) Tryd.underlying9 rfl (F50.ev 20 rfl) (F50.ev 21 rfl) (by omega) (by first | assumption | omega)) rfl fun _ F51 => ?_)
         refine l_op (f_val F51 (wanted_g F51 rfl rfl rfl rfl) rfl (r_cmp (b := decide (byteAt key k = 42)) (.inl rfl) rfl (F51.ev 22 rfl) rfl (dec_of (by omega))) rfl fun _ F52 => ?_)
         refine l_op (f_val F52 rfl rfl (r_pick (b := false) rfl (F52.ev 19 rfl) (F52.ev 23 rfl)) rfl fun _ F53 => ?_)
         have F54 : Fr 29 [(24, .bool (decide (byteAt key k = 42))), (6, .int .i64 ((k : Nat) : Int)), (5, .int .i64 ((key.size : Nat) : Int)), (0, .string key)] _ := F53.cut rfl
         clear F13 F14 F15 F16 F17 F18 F34 F35 F36 F37 F38 F39 F49 F50 F51 F52 F53
         refine s_end (x_normal (x_cond (p := byteAt key k = 42) (F54.ev 24 rfl) (fun h55 => ?_) (fun h55 => ?_)))
         · skip
           refine wp_seq (wp_region_lit (l_op (f_val F54 rfl rfl (r_assign rfl rfl) rfl fun _ F56 => ?_)))
           have F57 : Fr 29 [(2, .bool false)] _ := F56.cut rfl
           clear F54 F56
           refine s_end (x_normal (wp_ret (x_block_ret (x_then_ret (x_then_ret (x_block_ret (x_then_ret ?_)))))))
           refine x_done (v := .bool false) F57 (results_1 Tryd.results56 (.tmp (F57.ev 2 rfl))) ?_
           exact ⟨(by rw [(show false = (keyOk key) from by first | exact (keyOk_bad (j := k) (by omega) (by unfold kb; exact decide_eq_false (by omega))).symm | exact (keyOk_all (fun j hj => hk_1 j (by omega))).symm)]), (Mv.pick S7 [] rfl)⟩
         · skip
           refine wp_skip (x_block_normal (x_normal (wp_region_lit (l_op (f_val F54 rfl rfl (r_add (z := ((k + 1 : Nat) : Int)) rfl (F54.ev 6 rfl) rfl (by first | rfl | omega) ⟨by first | omega | (unfold i64ok at *; omega), by first | omega | (unfold i64ok at *; omega)⟩) rfl fun _ F58 => ?_)))))
           refine l_op (f_mv F58 rfl rfl rfl rfl rfl fun _ F59 => ?_)
           have F60 : Fr 29 [(6, .int .i64 ((k + 1 : Nat) : Int)), (5, .int .i64 ((key.size : Nat) : Int)), (0, .string key)] _ := F59.cut rfl
           clear F54 F58 F59
           refine s_end ?_
           refine x_normal ⟨k + 1, by omega, F60.cut rfl, (S7.pick [] rfl), by omega, all_step hk_1 (by unfold kb; exact decide_eq_true (by omega))⟩
   · skip
     refine wp_exit (x_then_exit (x_then_exit (x_block_here (x_normal (wp_seq (wp_region_lit (l_op (f_mv F9 rfl rfl rfl rfl rfl fun _ F61 => ?_))))))))
     refine l_op (f_val F61 rfl rfl (r_lenS (fun t ht => by cases ht; exact Tryd.underlying9) rfl rfl (F61.ev 26 rfl)) rfl fun _ F62 => ?_)
     refine l_op (f_call F62 CF_34 rfl rfl rfl rfl (lc (F62.ev 27 rfl) (lc rfl (lc rfl rfl))) (impl_within_c (H := fun _ => True) (n := ((key.size : Nat) : Int)) (low := 1) (high := 40) (by first | assumption | exact ⟨by omega, by omega⟩ | (unfold i64ok at *; omega)) (by first | assumption | exact ⟨by omega, by omega⟩ | (unfold i64ok at *; omega)) (by first | assumption | exact ⟨by omega, by omega⟩ | (unfold i64ok at *; omega))) ?_)
     rintro _ w63 ⟨rfl, m63⟩
     refine ⟨_, rfl, fun _ F64 => ?_⟩
     have S63 := At.frame0 S7.at' m63
     clear m63
     refine l_op (f_as F64 rfl rfl rfl rfl rfl fun _ F65 => ?_)
     have F66 : Fr 29 [(2, .bool (inB ((key.size : Nat) : Int) 1 40))] _ := F65.cut rfl
     clear F9 F61 F62 F64 F65
     have T67 : Mv _ _ [] _ := S63
     refine s_end (x_normal (wp_ret ?_))
     refine x_done (v := .bool (inB ((key.size : Nat) : Int) 1 40)) F66 (results_1 Tryd.results56 (.tmp (F66.ev 2 rfl))) ?_
     exact ⟨(by rw [(show (inB ((key.size : Nat) : Int) 1 40) = (keyOk key) from by first | exact (keyOk_bad (j := k) (by omega) (by unfold kb; exact decide_eq_false (by omega))).symm | exact (keyOk_all (fun j hj => hk_1 j (by omega))).symm)]), (Mv.pick (S7.trans T67) [] rfl)⟩
theorem impl_put_1_c {w : World} {H : Nat → Prop} {c : CellD} {key_b : Nat} {key : ByteArray} (h_c_key : okS c.key) (h_c_val : okS c.val) (h_key : okS key) (hA : At w [bx key_b [.string key] 9]) :
    Calls Tryd.prog 58 #[.agg #[.string c.key, .string c.val], .pointer (some ⟨key_b, 0, none⟩)] w fun e w' => e = .returned (.bool (decide (c.key = key))) ∧ Mv [bx key_b [.string key] 9] w [bx key_b [.string key] 9] w' := by
 have uU : True := (fun _ _ _ _ => trivial) H h_c_key h_c_val h_key
 clear uU
 refine calls_enter 8 Tryd.func58 rfl Tryd.ntmps58 (Nat.le_of_ble_eq_true rfl) (fun _ F0i => ?_)
 have F0 : Fr 8 [(0, .agg #[.string c.key, .string c.val]), (1, .pointer (some ⟨key_b, 0, none⟩))] _ := F0i
 clear F0i
 refine wp_seq (wp_region_lit (l_op (f_box F0 hA rfl rfl rfl (F0.ev 0 rfl) rfl rfl fun b1 _ w1 F2 S1 => ?_)))
 refine l_op (f_val F2 rfl rfl (r_assign rfl rfl) rfl fun _ F3 => ?_)
 have F4 : Fr 8 [(3, .bool false), (2, .pointer (some ⟨b1, 0, none⟩)), (1, .pointer (some ⟨key_b, 0, none⟩))] _ := F3.cut rfl
 clear F0 F2 F3
 have T5 : Mv _ _ [bx b1 [.string c.key, .string c.val] 53, bx key_b [.string key] 9] _ := S1
 refine s_end (x_normal (wp_seq (wp_region_lit (l_op (f_val F4 rfl rfl (r_field FI_53_0 rfl (F4.ev 2 rfl) rfl) rfl fun _ F6 => ?_)))))
 refine l_op (f_val (v := .string c.key) F6 rfl rfl (r_loadB T5.at' 0 TI_9 rfl rfl (F6.ev 4 rfl) rfl rfl (fun _ => rfl) rfl) rfl fun _ F7 => ?_)
 refine l_op (f_val (v := .string key) F7 rfl rfl (r_loadB T5.at' 1 TI_9 rfl rfl (F7.ev 1 rfl) rfl rfl (fun _ => rfl) rfl) rfl fun _ F8 => ?_)
 refine l_op (f_val F8 rfl rfl (r_cmps (b := (decide (c.key = key))) (.inl rfl) rfl (F8.ev 5 rfl) (F8.ev 6 rfl) rfl) rfl fun _ F9 => ?_)
 refine l_op (f_as F9 rfl rfl rfl rfl rfl fun _ F10 => ?_)
 have F11 : Fr 8 [(3, .bool (decide (c.key = key)))] _ := F10.cut rfl
 clear F4 F6 F7 F8 F9 F10
 refine s_end (x_normal (wp_ret ?_))
 refine x_done (v := .bool (decide (c.key = key))) F11 (results_1 Tryd.results58 (.tmp (F11.ev 3 rfl))) ?_
 exact ⟨rfl, (Mv.pick T5 [1] rfl)⟩
theorem impl_put_2_c {w : World} {H : Nat → Prop} {c : CellD} {key_b : Nat} {key : ByteArray} (h_c_key : okS c.key) (h_c_val : okS c.val) (h_key : okS key) (hA : At w [bx key_b [.string key] 9]) :
    Calls Tryd.prog 60 #[.agg #[.string c.key, .string c.val], .pointer (some ⟨key_b, 0, none⟩)] w fun e w' => e = .returned (.bool (!leS c.key key)) ∧ Mv [bx key_b [.string key] 9] w [bx key_b [.string key] 9] w' := by
 have uU : True := (fun _ _ _ _ => trivial) H h_c_key h_c_val h_key
 clear uU
 refine calls_enter 8 Tryd.func60 rfl Tryd.ntmps60 (Nat.le_of_ble_eq_true rfl) (fun _ F0i => ?_)
 have F0 : Fr 8 [(0, .agg #[.string c.key, .string c.val]), (1, .pointer (some ⟨key_b, 0, none⟩))] _ := F0i
 clear F0i
 refine wp_seq (wp_region_lit (l_op (f_box F0 hA rfl rfl rfl (F0.ev 0 rfl) rfl rfl fun b1 _ w1 F2 S1 => ?_)))
 refine l_op (f_val F2 rfl rfl (r_assign rfl rfl) rfl fun _ F3 => ?_)
 have F4 : Fr 8 [(3, .bool false), (2, .pointer (some ⟨b1, 0, none⟩)), (1, .pointer (some ⟨key_b, 0, none⟩))] _ := F3.cut rfl
 clear F0 F2 F3
 have T5 : Mv _ _ [bx b1 [.string c.key, .string c.val] 53, bx key_b [.string key] 9] _ := S1
 refine s_end (x_normal (wp_seq (wp_region_lit (l_op (f_val F4 rfl rfl (r_field FI_53_0 rfl (F4.ev 2 rfl) rfl) rfl fun _ F6 => ?_)))))
 refine l_op (f_val (v := .string c.key) F6 rfl rfl (r_loadB T5.at' 0 TI_9 rfl rfl (F6.ev 4 rfl) rfl rfl (fun _ => rfl) rfl) rfl fun _ F7 => ?_)
 refine l_op (f_val (v := .string key) F7 rfl rfl (r_loadB T5.at' 1 TI_9 rfl rfl (F7.ev 1 rfl) rfl rfl (fun _ => rfl) rfl) rfl fun _ F8 => ?_)
 refine l_op (f_val F8 rfl rfl (r_cmps (b := (!leS c.key key)) (.inr (.inr (.inr (.inr (.inl rfl))))) rfl (F8.ev 5 rfl) (F8.ev 6 rfl) rfl) rfl fun _ F9 => ?_)
 refine l_op (f_as F9 rfl rfl rfl rfl rfl fun _ F10 => ?_)
 have F11 : Fr 8 [(3, .bool (!leS c.key key))] _ := F10.cut rfl
 clear F4 F6 F7 F8 F9 F10
 refine s_end (x_normal (wp_ret ?_))
 refine x_done (v := .bool (!leS c.key key)) F11 (results_1 Tryd.results60 (.tmp (F11.ev 3 rfl))) ?_
 exact ⟨rfl, (Mv.pick T5 [1] rfl)⟩
theorem IndexFunc_impl_put_1_c {w : World} {H : Nat → Prop} {s : List CellD} {s_a : Option Addr} {s_n s_c : Nat} {f_b : Nat} {f : ByteArray} (v_s : Rd 2 encC okC H w (.slice s_a s_n s_c) s) (h_f : okS f) (hA : At w [bx f_b [.string f] 9]) (hD : ∀ b, H b → ¬ fps [bx f_b [.string f] 9] b) :
    Calls Tryd.prog 59 #[.slice s_a s_n s_c, .func (.func 58) #[] #[.pointer (some ⟨f_b, 0, none⟩)]] w fun e w' => e = .returned (.int .i64 (idxP (fun c : CellD => decide (c.key = f)) s)) ∧ Mv [bx f_b [.string f] 9] w [bx f_b [.string f] 9] w' ∧ i64ok (idxP (fun c : CellD => decide (c.key = f)) s) := by
 have V_v_s : Rd 2 encC okC (V H w [bx f_b [.string f] 9]) w (.slice s_a s_n s_c) s := Rd.start v_s hD
 obtain ⟨ln_s, le_s, mx_s, ni_s⟩ := Rd.inv v_s
 refine calls_enter 19 Tryd.func59 rfl Tryd.ntmps59 (Nat.le_of_ble_eq_true rfl) (fun _ F0i => ?_)
 have F0 : Fr 19 [(0, .slice s_a s_n s_c), (1, .func (.func 58) #[] #[.pointer (some ⟨f_b, 0, none⟩)])] _ := F0i
 clear F0i
 refine wp_seq (wp_region_lit (l_op (f_val F0 rfl rfl (r_assign rfl rfl) rfl fun _ F1 => ?_)))
 have F2 : Fr 19 [(4, .int .i64 0), (0, .slice s_a s_n s_c), (1, .func (.func 58) #[] #[.pointer (some ⟨f_b, 0, none⟩)])] _ := F1.cut rfl
 clear F0 F1
 refine s_end (x_normal (wp_seq (wp_seq (wp_region_lit (l_op (f_mv F2 rfl rfl rfl rfl rfl fun _ F3 => ?_))))))
 refine l_op (f_val F3 rfl rfl (r_len Tryd.underlying26 rfl (F3.ev 6 rfl)) rfl fun _ F4 => ?_)
 refine l_op (f_val F4 rfl rfl (r_move rfl rfl) rfl fun _ F5 => ?_)
 have F6 : Fr 19 [(8, .int .i64 0), (7, .int .i64 ((s_n : Nat) : Int)), (0, .slice s_a s_n s_c), (1, .func (.func 58) #[] #[.pointer (some ⟨f_b, 0, none⟩)])] _ := F5.cut rfl
 clear F2 F3 F4 F5
 refine s_end (x_normal (wp_block ?_))
 refine x_loop (fun (k : Nat) aZ wZ => Fr 19 [(8, .int .i64 ((k : Nat) : Int)), (7, .int .i64 ((s_n : Nat) : Int)), (0, .slice s_a s_n s_c), (1, .func (.func 58) #[] #[.pointer (some ⟨f_b, 0, none⟩)])] aZ ∧ Mv [bx f_b [.string f] 9] w [bx f_b [.string f] 9] wZ ∧ (k ≤ s_n) ∧ (∀ j, j < k → ∀ c, nth s j = some c → (decide (c.key = f)) = false)) (fun (k : Nat) => s_n - k) (0) ?_ ?_
 · exact ⟨F6.cut rfl, (Mv.refl hA), by omega, all_none⟩
 · rintro k a7 w7 ⟨F7, S7, hk_0, hk_1⟩
   refine wp_seq (wp_region_lit (l_op (f_val F7 rfl rfl (r_cmp (b := decide (k < s_n)) (.inr (.inr (.inl rfl))) rfl (F7.ev 8 rfl) (F7.ev 7 rfl) (dec_of (by omega))) rfl fun _ F8 => ?_)))
   have F9 : Fr 19 [(9, .bool (decide (k < s_n))), (8, .int .i64 ((k : Nat) : Int)), (7, .int .i64 ((s_n : Nat) : Int)), (0, .slice s_a s_n s_c), (1, .func (.func 58) #[] #[.pointer (some ⟨f_b, 0, none⟩)])] _ := F8.cut rfl
   clear F7 F8
   refine s_end (x_normal (wp_seq (x_cond (p := k < s_n) (F9.ev 9 rfl) (fun h10 => ?_) (fun h10 => ?_))))
   · skip
     refine wp_skip (x_normal (wp_seq (wp_block (wp_seq (wp_region_lit (l_op (f_mv F9 rfl rfl rfl rfl rfl fun _ F11 => ?_)))))))
     refine l_op (f_as F11 rfl rfl rfl rfl rfl fun _ F12 => ?_)
     have F13 : Fr 19 [(5, .int .i64 ((k : Nat) : Int)), (8, .int .i64 ((k : Nat) : Int)), (7, .int .i64 ((s_n : Nat) : Int)), (0, .slice s_a s_n s_c), (1, .func (.func 58) #[] #[.pointer (some ⟨f_b, 0, none⟩)])] _ := F12.cut rfl
     clear F9 F11 F12
     refine s_end (x_normal (wp_seq (wp_region_lit (l_op (f_mv F13 rfl rfl rfl rfl rfl fun _ F14 => ?_)))))
     refine l_op (f_mv F14 rfl rfl rfl rfl rfl fun _ F15 => ?_)
     refine l_op (f_mv F15 rfl rfl rfl rfl rfl fun _ F16 => ?_)
     obtain ⟨B17, O17, x1, ad17, hx1, okx1, ln17, cl17⟩ := Rd.at (Rd.mv (Nat.succ_pos _) V_v_s S7) k (by first | assumption | omega)
     clear ln17
     refine l_op (f_val F16 rfl rfl (r_indexAddr (i := k) ET_26 rfl ((F16.ev 12 rfl).trans (by rw [ad17])) (F16.ev 13 rfl) (by omega) (by first | assumption | omega)) rfl fun _ F18 => ?_)
     refine l_op (f_val (v := .agg #[.string x1.key, .string x1.val]) F18 rfl rfl (r_load (cs := [.string x1.key, .string x1.val]) TI_53 rfl (F18.ev 14 rfl) rfl (fun h => nomatch h) (elem_sub (f := 0) cl17 [.string x1.key, .string x1.val] rfl)) rfl fun _ F19 => ?_)
     refine l_op (f_callv F19 CF_58 rfl rfl rfl rfl (F19.ev 11 rfl) (lc (F19.ev 15 rfl) rfl) (impl_put_1_c (H := fun _ => True) (c := x1) (key := f) okx1.1 okx1.2 h_f (At.pick (is := [0]) S7.at' rfl)) ?_)
     rintro _ w20 ⟨rfl, m20⟩
     refine ⟨_, rfl, fun _ F21 => ?_⟩
     have S20 : Mv _ _ [bx f_b [.string f] 9] _ := At.frame S7.at' [0] rfl m20
     clear m20
     have F22 : Fr 19 [(16, .bool (decide (x1.key = f))), (5, .int .i64 ((k : Nat) : Int)), (8, .int .i64 ((k : Nat) : Int)), (7, .int .i64 ((s_n : Nat) : Int)), (0, .slice s_a s_n s_c), (1, .func (.func 58) #[] #[.pointer (some ⟨f_b, 0, none⟩)])] _ := F21.cut rfl
     clear F13 F14 F15 F16 F18 F19 F21
     refine s_end (x_normal (x_condb (b := (decide (x1.key = f))) (F22.ev 16 rfl) (fun h23 => ?_) (fun h23 => ?_)))
     · skip
       refine wp_seq (wp_region_lit (l_op (f_mv F22 rfl rfl rfl rfl rfl fun _ F24 => ?_)))
       refine l_op (f_as F24 rfl rfl rfl rfl rfl fun _ F25 => ?_)
       have F26 : Fr 19 [(4, .int .i64 ((k : Nat) : Int))] _ := F25.cut rfl
       clear F22 F24 F25
       refine s_end (x_normal (wp_ret (x_block_ret (x_then_ret (x_then_ret (x_block_ret (x_then_ret ?_)))))))
       refine x_done (v := .int .i64 ((k : Nat) : Int)) F26 (results_1 Tryd.results59 (.tmp (F26.ev 4 rfl))) ?_
       exact ⟨(by rw [(show ((k : Nat) : Int) = (idxP (fun c : CellD => decide (c.key = f)) s) from by exact (idxP_found _ s k _ (by rw [← nth_eq]; exact hx1) (by first | assumption | exact decide_eq_true (by assumption)) (fun q hq y hy => hk_1 q hq y (by rw [nth_eq]; exact hy))).symm)]), (Mv.pick (S7.trans S20) [0] rfl), idxP_ok _ s (by omega)⟩
     · skip
       refine wp_skip (x_block_normal (x_normal (wp_region_lit (l_op (f_val F22 rfl rfl (r_add (z := ((k + 1 : Nat) : Int)) rfl (F22.ev 8 rfl) rfl (by first | rfl | omega) ⟨by first | omega | (unfold i64ok at *; omega), by first | omega | (unfold i64ok at *; omega)⟩) rfl fun _ F27 => ?_)))))
       refine l_op (f_mv F27 rfl rfl rfl rfl rfl fun _ F28 => ?_)
       have F29 : Fr 19 [(8, .int .i64 ((k + 1 : Nat) : Int)), (7, .int .i64 ((s_n : Nat) : Int)), (0, .slice s_a s_n s_c), (1, .func (.func 58) #[] #[.pointer (some ⟨f_b, 0, none⟩)])] _ := F28.cut rfl
       clear F22 F27 F28
       refine s_end ?_
       refine x_normal ⟨k + 1, by omega, F29.cut rfl, ((S7.trans S20).pick [0] rfl), by omega, all_step hk_1 (fun c hc => by obtain rfl := Option.some.inj (hx1.symm.trans hc); first | assumption | exact decide_eq_false (by assumption))⟩
   · skip
     refine wp_exit (x_then_exit (x_then_exit (x_block_here (x_normal (wp_seq (wp_region_lit (l_op (f_val F9 rfl rfl (r_assign rfl rfl) rfl fun _ F30 => ?_))))))))
     have F31 : Fr 19 [(4, .int .i64 (-1))] _ := F30.cut rfl
     clear F9 F30
     refine s_end (x_normal (wp_ret ?_))
     refine x_done (v := .int .i64 (-1)) F31 (results_1 Tryd.results59 (.tmp (F31.ev 4 rfl))) ?_
     exact ⟨(by rw [(show (-1) = (idxP (fun c : CellD => decide (c.key = f)) s) from by exact (idxP_none _ s (fun q hq y hy => hk_1 q (by omega) y (by rw [nth_eq]; exact hy))).symm)]), (Mv.pick S7 [0] rfl), idxP_ok _ s (by omega)⟩
theorem IndexFunc_impl_put_2_c {w : World} {H : Nat → Prop} {s : List CellD} {s_a : Option Addr} {s_n s_c : Nat} {f_b : Nat} {f : ByteArray} (v_s : Rd 2 encC okC H w (.slice s_a s_n s_c) s) (h_f : okS f) (hA : At w [bx f_b [.string f] 9]) (hD : ∀ b, H b → ¬ fps [bx f_b [.string f] 9] b) :
    Calls Tryd.prog 59 #[.slice s_a s_n s_c, .func (.func 60) #[] #[.pointer (some ⟨f_b, 0, none⟩)]] w fun e w' => e = .returned (.int .i64 (idxP (fun c : CellD => !leS c.key f) s)) ∧ Mv [bx f_b [.string f] 9] w [bx f_b [.string f] 9] w' ∧ i64ok (idxP (fun c : CellD => !leS c.key f) s) := by
 have V_v_s : Rd 2 encC okC (V H w [bx f_b [.string f] 9]) w (.slice s_a s_n s_c) s := Rd.start v_s hD
 obtain ⟨ln_s, le_s, mx_s, ni_s⟩ := Rd.inv v_s
 refine calls_enter 19 Tryd.func59 rfl Tryd.ntmps59 (Nat.le_of_ble_eq_true rfl) (fun _ F0i => ?_)
 have F0 : Fr 19 [(0, .slice s_a s_n s_c), (1, .func (.func 60) #[] #[.pointer (some ⟨f_b, 0, none⟩)])] _ := F0i
 clear F0i
 refine wp_seq (wp_region_lit (l_op (f_val F0 rfl rfl (r_assign rfl rfl) rfl fun _ F1 => ?_)))
 have F2 : Fr 19 [(4, .int .i64 0), (0, .slice s_a s_n s_c), (1, .func (.func 60) #[] #[.pointer (some ⟨f_b, 0, none⟩)])] _ := F1.cut rfl
 clear F0 F1
 refine s_end (x_normal (wp_seq (wp_seq (wp_region_lit (l_op (f_mv F2 rfl rfl rfl rfl rfl fun _ F3 => ?_))))))
 refine l_op (f_val F3 rfl rfl (r_len Tryd.underlying26 rfl (F3.ev 6 rfl)) rfl fun _ F4 => ?_)
 refine l_op (f_val F4 rfl rfl (r_move rfl rfl) rfl fun _ F5 => ?_)
 have F6 : Fr 19 [(8, .int .i64 0), (7, .int .i64 ((s_n : Nat) : Int)), (0, .slice s_a s_n s_c), (1, .func (.func 60) #[] #[.pointer (some ⟨f_b, 0, none⟩)])] _ := F5.cut rfl
 clear F2 F3 F4 F5
 refine s_end (x_normal (wp_block ?_))
 refine x_loop (fun (k : Nat) aZ wZ => Fr 19 [(8, .int .i64 ((k : Nat) : Int)), (7, .int .i64 ((s_n : Nat) : Int)), (0, .slice s_a s_n s_c), (1, .func (.func 60) #[] #[.pointer (some ⟨f_b, 0, none⟩)])] aZ ∧ Mv [bx f_b [.string f] 9] w [bx f_b [.string f] 9] wZ ∧ (k ≤ s_n) ∧ (∀ j, j < k → ∀ c, nth s j = some c → (!leS c.key f) = false)) (fun (k : Nat) => s_n - k) (0) ?_ ?_
 · exact ⟨F6.cut rfl, (Mv.refl hA), by omega, all_none⟩
 · rintro k a7 w7 ⟨F7, S7, hk_0, hk_1⟩
   refine wp_seq (wp_region_lit (l_op (f_val F7 rfl rfl (r_cmp (b := decide (k < s_n)) (.inr (.inr (.inl rfl))) rfl (F7.ev 8 rfl) (F7.ev 7 rfl) (dec_of (by omega))) rfl fun _ F8 => ?_)))
   have F9 : Fr 19 [(9, .bool (decide (k < s_n))), (8, .int .i64 ((k : Nat) : Int)), (7, .int .i64 ((s_n : Nat) : Int)), (0, .slice s_a s_n s_c), (1, .func (.func 60) #[] #[.pointer (some ⟨f_b, 0, none⟩)])] _ := F8.cut rfl
   clear F7 F8
   refine s_end (x_normal (wp_seq (x_cond (p := k < s_n) (F9.ev 9 rfl) (fun h10 => ?_) (fun h10 => ?_))))
   · skip
     refine wp_skip (x_normal (wp_seq (wp_block (wp_seq (wp_region_lit (l_op (f_mv F9 rfl rfl rfl rfl rfl fun _ F11 => ?_)))))))
     refine l_op (f_as F11 rfl rfl rfl rfl rfl fun _ F12 => ?_)
     have F13 : Fr 19 [(5, .int .i64 ((k : Nat) : Int)), (8, .int .i64 ((k : Nat) : Int)), (7, .int .i64 ((s_n : Nat) : Int)), (0, .slice s_a s_n s_c), (1, .func (.func 60) #[] #[.pointer (some ⟨f_b, 0, none⟩)])] _ := F12.cut rfl
     clear F9 F11 F12
     refine s_end (x_normal (wp_seq (wp_region_lit (l_op (f_mv F13 rfl rfl rfl rfl rfl fun _ F14 => ?_)))))
     refine l_op (f_mv F14 rfl rfl rfl rfl rfl fun _ F15 => ?_)
     refine l_op (f_mv F15 rfl rfl rfl rfl rfl fun _ F16 => ?_)
     obtain ⟨B17, O17, x1, ad17, hx1, okx1, ln17, cl17⟩ := Rd.at (Rd.mv (Nat.succ_pos _) V_v_s S7) k (by first | assumption | omega)
     clear ln17
     refine l_op (f_val F16 rfl rfl (r_indexAddr (i := k) ET_26 rfl ((F16.ev 12 rfl).trans (by rw [ad17])) (F16.ev 13 rfl) (by omega) (by first | assumption | omega)) rfl fun _ F18 => ?_)
     refine l_op (f_val (v := .agg #[.string x1.key, .string x1.val]) F18 rfl rfl (r_load (cs := [.string x1.key, .string x1.val]) TI_53 rfl (F18.ev 14 rfl) rfl (fun h => nomatch h) (elem_sub (f := 0) cl17 [.string x1.key, .string x1.val] rfl)) rfl fun _ F19 => ?_)
     refine l_op (f_callv F19 CF_60 rfl rfl rfl rfl (F19.ev 11 rfl) (lc (F19.ev 15 rfl) rfl) (impl_put_2_c (H := fun _ => True) (c := x1) (key := f) okx1.1 okx1.2 h_f (At.pick (is := [0]) S7.at' rfl)) ?_)
     rintro _ w20 ⟨rfl, m20⟩
     refine ⟨_, rfl, fun _ F21 => ?_⟩
     have S20 : Mv _ _ [bx f_b [.string f] 9] _ := At.frame S7.at' [0] rfl m20
     clear m20
     have F22 : Fr 19 [(16, .bool (!leS x1.key f)), (5, .int .i64 ((k : Nat) : Int)), (8, .int .i64 ((k : Nat) : Int)), (7, .int .i64 ((s_n : Nat) : Int)), (0, .slice s_a s_n s_c), (1, .func (.func 60) #[] #[.pointer (some ⟨f_b, 0, none⟩)])] _ := F21.cut rfl
     clear F13 F14 F15 F16 F18 F19 F21
     refine s_end (x_normal (x_condb (b := (!leS x1.key f)) (F22.ev 16 rfl) (fun h23 => ?_) (fun h23 => ?_)))
     · skip
       refine wp_seq (wp_region_lit (l_op (f_mv F22 rfl rfl rfl rfl rfl fun _ F24 => ?_)))
       refine l_op (f_as F24 rfl rfl rfl rfl rfl fun _ F25 => ?_)
       have F26 : Fr 19 [(4, .int .i64 ((k : Nat) : Int))] _ := F25.cut rfl
       clear F22 F24 F25
       refine s_end (x_normal (wp_ret (x_block_ret (x_then_ret (x_then_ret (x_block_ret (x_then_ret ?_)))))))
       refine x_done (v := .int .i64 ((k : Nat) : Int)) F26 (results_1 Tryd.results59 (.tmp (F26.ev 4 rfl))) ?_
       exact ⟨(by rw [(show ((k : Nat) : Int) = (idxP (fun c : CellD => !leS c.key f) s) from by exact (idxP_found _ s k _ (by rw [← nth_eq]; exact hx1) (by first | assumption | exact decide_eq_true (by assumption)) (fun q hq y hy => hk_1 q hq y (by rw [nth_eq]; exact hy))).symm)]), (Mv.pick (S7.trans S20) [0] rfl), idxP_ok _ s (by omega)⟩
     · skip
       refine wp_skip (x_block_normal (x_normal (wp_region_lit (l_op (f_val F22 rfl rfl (r_add (z := ((k + 1 : Nat) : Int)) rfl (F22.ev 8 rfl) rfl (by first | rfl | omega) ⟨by first | omega | (unfold i64ok at *; omega), by first | omega | (unfold i64ok at *; omega)⟩) rfl fun _ F27 => ?_)))))
       refine l_op (f_mv F27 rfl rfl rfl rfl rfl fun _ F28 => ?_)
       have F29 : Fr 19 [(8, .int .i64 ((k + 1 : Nat) : Int)), (7, .int .i64 ((s_n : Nat) : Int)), (0, .slice s_a s_n s_c), (1, .func (.func 60) #[] #[.pointer (some ⟨f_b, 0, none⟩)])] _ := F28.cut rfl
       clear F22 F27 F28
       refine s_end ?_
       refine x_normal ⟨k + 1, by omega, F29.cut rfl, ((S7.trans S20).pick [0] rfl), by omega, all_step hk_1 (fun c hc => by obtain rfl := Option.some.inj (hx1.symm.trans hc); first | assumption | exact decide_eq_false (by assumption))⟩
   · skip
     refine wp_exit (x_then_exit (x_then_exit (x_block_here (x_normal (wp_seq (wp_region_lit (l_op (f_val F9 rfl rfl (r_assign rfl rfl) rfl fun _ F30 => ?_))))))))
     have F31 : Fr 19 [(4, .int .i64 (-1))] _ := F30.cut rfl
     clear F9 F30
     refine s_end (x_normal (wp_ret ?_))
     refine x_done (v := .int .i64 (-1)) F31 (results_1 Tryd.results59 (.tmp (F31.ev 4 rfl))) ?_
     exact ⟨(by rw [(show (-1) = (idxP (fun c : CellD => !leS c.key f) s) from by exact (idxP_none _ s (fun q hq y hy => hk_1 q (by omega) y (by rw [nth_eq]; exact hy))).symm)]), (Mv.pick S7 [0] rfl), idxP_ok _ s (by omega)⟩
theorem DeleteFunc_c {w : World} {H : Nat → Prop} {s : List CellD} {s_a : Option Addr} {s_n s_c : Nat} {del_b : Nat} {del : ByteArray} (h_del : okS del) (hA : At w [ow 53 2 encC okC (.slice s_a s_n s_c) s, bx del_b [.string del] 9]) :
    Calls Tryd.prog 57 #[.slice s_a s_n s_c, .func (.func 58) #[] #[.pointer (some ⟨del_b, 0, none⟩)]] w fun e w' => ∃ (r0_a : Option Addr), ∃ (r0_n : Nat), ∃ (r0_c : Nat), e = .returned (.slice r0_a r0_n r0_c) ∧ Mv [ow 53 2 encC okC (.slice s_a s_n s_c) s, bx del_b [.string del] 9] w [ow 53 2 encC okC (.slice r0_a r0_n r0_c) (delKey s del), bx del_b [.string del] 9] w' := by
 have uU : True := (fun _ => trivial) H
 clear uU
 obtain ⟨lo0, lp0, lq0⟩ := At.ownInv hA ET_26.hk 0 rfl
 refine calls_enter 42 Tryd.func57 rfl Tryd.ntmps57 (Nat.le_of_ble_eq_true rfl) (fun _ F0i => ?_)
 have F0 : Fr 42 [(0, .slice s_a s_n s_c), (1, .func (.func 58) #[] #[.pointer (some ⟨del_b, 0, none⟩)])] _ := F0i
 clear F0i
 refine wp_seq (wp_region_lit (l_op (f_val F0 rfl rfl (r_assign rfl rfl) rfl fun _ F1 => ?_)))
 have F2 : Fr 42 [(4, .slice none 0 0), (0, .slice s_a s_n s_c), (1, .func (.func 58) #[] #[.pointer (some ⟨del_b, 0, none⟩)])] _ := F1.cut rfl
 clear F0 F1
 refine s_end (x_normal (wp_seq (wp_region_lit (l_op (f_mv F2 rfl rfl rfl rfl rfl fun _ F3 => ?_)))))
 refine l_op (f_mv F3 rfl rfl rfl rfl rfl fun _ F4 => ?_)
 refine l_op (f_call F4 CF_59 rfl rfl rfl rfl (lc (F4.ev 8 rfl) (lc (F4.ev 9 rfl) rfl)) (IndexFunc_impl_put_1_c (H := fun b => ¬ fps (sel [ow 53 2 encC okC (.slice s_a s_n s_c) s, bx del_b [.string del] 9] [1]) b) (s := s) (f := del) (At.rdOff hA ET_26.hk 0 rfl [1] rfl) h_del (At.pick (is := [1]) hA rfl) (fun _ h => h)) ?_)
 rintro _ w5 ⟨rfl, m5, q5_0⟩
 refine ⟨_, rfl, fun _ F6 => ?_⟩
 have S5 : Mv _ _ [bx del_b [.string del] 9, ow 53 2 encC okC (.slice s_a s_n s_c) s] _ := At.frame hA [1] rfl m5
 clear m5
 refine l_op (f_as F6 rfl rfl rfl rfl rfl fun _ F7 => ?_)
 have F8 : Fr 42 [(5, .int .i64 (idxP (fun c : CellD => decide (c.key = del)) s)), (0, .slice s_a s_n s_c), (1, .func (.func 58) #[] #[.pointer (some ⟨del_b, 0, none⟩)])] _ := F7.cut rfl
 clear F2 F3 F4 F6 F7
 refine s_end (x_normal (wp_seq (wp_seq (wp_region_lit (l_op (f_mv F8 rfl rfl rfl rfl rfl fun _ F9 => ?_))))))
 refine l_op (f_val F9 rfl rfl (r_cmp (b := decide ((idxP (fun c : CellD => decide (c.key = del)) s) = (-1))) (.inl rfl) rfl (F9.ev 11 rfl) rfl (dec_of (by omega))) rfl fun _ F10 => ?_)
 have F11 : Fr 42 [(12, .bool (decide ((idxP (fun c : CellD => decide (c.key = del)) s) = (-1)))), (5, .int .i64 (idxP (fun c : CellD => decide (c.key = del)) s)), (0, .slice s_a s_n s_c), (1, .func (.func 58) #[] #[.pointer (some ⟨del_b, 0, none⟩)])] _ := F10.cut rfl
 clear F8 F9 F10
 refine s_end (x_normal (x_cond (p := (idxP (fun c : CellD => decide (c.key = del)) s) = (-1)) (F11.ev 12 rfl) (fun h12 => ?_) (fun h12 => ?_)))
 · skip
   refine wp_seq (wp_region_lit (l_op (f_mv F11 rfl rfl rfl rfl rfl fun _ F13 => ?_)))
   refine l_op (f_as F13 rfl rfl rfl rfl rfl fun _ F14 => ?_)
   have F15 : Fr 42 [(4, .slice s_a s_n s_c)] _ := F14.cut rfl
   clear F11 F13 F14
   refine s_end (x_normal (wp_ret (x_then_ret ?_)))
   refine x_done (v := .slice s_a s_n s_c) F15 (results_1 Tryd.results57 (.tmp (F15.ev 4 rfl))) ?_
   exact ⟨s_a, s_n, s_c, rfl, (Mv.cast (Mv.pick S5 [1, 0] rfl) (by rw [← (show s = (delKey s del) from by exact delKey_none (by assumption))]; all_goals rfl))⟩
 · skip
   refine wp_skip (x_normal (wp_seq (wp_seq (wp_region_lit (l_op (f_mv F11 rfl rfl rfl rfl rfl fun _ F16 => ?_))))))
   refine l_op (f_val F16 rfl rfl (r_add (z := ((idxP (fun c : CellD => decide (c.key = del)) s) + 1)) rfl (F16.ev 14 rfl) rfl (by first | rfl | omega) ⟨by have := idxP_bd (fun c : CellD => decide (c.key = del)) s; omega, by have := idxP_bd (fun c : CellD => decide (c.key = del)) s; omega⟩) rfl fun _ F17 => ?_)
   refine l_op (f_as F17 rfl rfl rfl rfl rfl fun _ F18 => ?_)
   have F19 : Fr 42 [(6, .int .i64 ((idxP (fun c : CellD => decide (c.key = del)) s) + 1)), (5, .int .i64 (idxP (fun c : CellD => decide (c.key = del)) s)), (0, .slice s_a s_n s_c), (1, .func (.func 58) #[] #[.pointer (some ⟨del_b, 0, none⟩)])] _ := F18.cut rfl
   clear F11 F16 F17 F18
   refine s_end (x_normal (wp_block ?_))
   obtain ⟨k0, hk0, hk1, hk2⟩ := delStart (s := s) (key := del) (by assumption)
   rw [hk0] at F19
   refine x_loop (fun (j : Nat) aZ wZ => ∃ (ii : Nat), ∃ (D : List CellD), Fr 42 [(6, .int .i64 ((j : Nat) : Int)), (5, .int .i64 ((ii : Nat) : Int)), (0, .slice s_a s_n s_c), (1, .func (.func 58) #[] #[.pointer (some ⟨del_b, 0, none⟩)])] aZ ∧ Mv [bx del_b [.string del] 9, ow 53 2 encC okC (.slice s_a s_n s_c) s] w5 [bx del_b [.string del] 9, ow 53 2 encC okC (.slice s_a s_n s_c) D] wZ ∧ (delInv s del j ii D)) (fun (j : Nat) => s_n - j) (k0 + 1) ?_ ?_
   · exact ⟨k0, s, F19.cut rfl, (Mv.refl S5.at'), hk2⟩
   · rintro j a20 w20 ⟨ii, D, F20, S20, hj_0⟩
     obtain ⟨hb1, hb2, hb3⟩ := hj_0.bd
     refine wp_seq (wp_seq (wp_region_lit (l_op (f_mv F20 rfl rfl rfl rfl rfl fun _ F21 => ?_))))
     refine l_op (f_mv F21 rfl rfl rfl rfl rfl fun _ F22 => ?_)
     refine l_op (f_val F22 rfl rfl (r_len Tryd.underlying26 rfl (F22.ev 17 rfl)) rfl fun _ F23 => ?_)
     refine l_op (f_val F23 rfl rfl (r_cmp (b := decide (j < s_n)) (.inr (.inr (.inl rfl))) rfl (F23.ev 16 rfl) (F23.ev 18 rfl) (dec_of (by omega))) rfl fun _ F24 => ?_)
     have F25 : Fr 42 [(19, .bool (decide (j < s_n))), (6, .int .i64 ((j : Nat) : Int)), (5, .int .i64 ((ii : Nat) : Int)), (0, .slice s_a s_n s_c), (1, .func (.func 58) #[] #[.pointer (some ⟨del_b, 0, none⟩)])] _ := F24.cut rfl
     clear F20 F21 F22 F23 F24
     refine s_end (x_normal (x_cond (p := j < s_n) (F25.ev 19 rfl) (fun h26 => ?_) (fun h26 => ?_)))
     · skip
       refine wp_skip (x_normal (wp_seq (wp_block (wp_seq (wp_region_lit (l_op (f_mv F25 rfl rfl rfl rfl rfl fun _ F27 => ?_)))))))
       refine l_op (f_mv F27 rfl rfl rfl rfl rfl fun _ F28 => ?_)
       obtain ⟨B29, x1, ad29, hx1, okx1, cl29⟩ := At.ownAt S20.at' ET_26.hk 1 rfl j  (by first | assumption | omega)
       refine l_op (f_val F28 rfl rfl (r_indexAddr (i := j) ET_26 rfl ((F28.ev 22 rfl).trans (by rw [ad29])) (F28.ev 23 rfl) (by omega) (by first | assumption | omega)) rfl fun _ F30 => ?_)
       refine l_op (f_val (v := .agg #[.string x1.key, .string x1.val]) F30 rfl rfl (r_load (cs := [.string x1.key, .string x1.val]) TI_53 rfl (F30.ev 24 rfl) rfl (fun h => nomatch h) (elem_sub (f := 0) cl29 [.string x1.key, .string x1.val] rfl)) rfl fun _ F31 => ?_)
       refine l_op (f_alloc F31 S20.at' ZI_53 rfl rfl rfl rfl rfl fun b32 _ w32 F33 S32 => ?_)
       refine l_op (s_store S32.at' 0 TI_53 rfl rfl rfl rfl rfl (F33.ev 7 rfl) (F33.ev 25 rfl) rfl rfl rfl rfl rfl fun w34 S34 => ?_)
       have F35 : Fr 42 [(7, .pointer (some ⟨b32, 0, none⟩)), (25, .agg #[.string x1.key, .string x1.val]), (6, .int .i64 ((j : Nat) : Int)), (5, .int .i64 ((ii : Nat) : Int)), (0, .slice s_a s_n s_c), (1, .func (.func 58) #[] #[.pointer (some ⟨del_b, 0, none⟩)])] _ := F33.cut rfl
       clear F25 F27 F28 F30 F31 F33
       have T36 : Mv _ _ [bx b32 [.string x1.key, .string x1.val] 53, bx del_b [.string del] 9, ow 53 2 encC okC (.slice s_a s_n s_c) D] _ := S34
       refine s_end (x_normal (wp_seq (wp_region_lit (l_op (f_mv F35 rfl rfl rfl rfl rfl fun _ F37 => ?_)))))
       refine l_op (f_val (v := .agg #[.string x1.key, .string x1.val]) F37 rfl rfl (r_loadB T36.at' 0 TI_53 rfl rfl (F37.ev 7 rfl) rfl rfl (fun h => nomatch h) rfl) rfl fun _ F38 => ?_)
       refine l_op (f_callv F38 CF_58 rfl rfl rfl rfl (F38.ev 26 rfl) (lc (F38.ev 27 rfl) rfl) (impl_put_1_c (H := fun _ => True) (c := x1) (key := del) okx1.1 okx1.2 h_del (At.pick (is := [1]) T36.at' rfl)) ?_)
       rintro _ w39 ⟨rfl, m39⟩
       refine ⟨_, rfl, fun _ F40 => ?_⟩
       have S39 : Mv _ _ [bx del_b [.string del] 9, bx b32 [.string x1.key, .string x1.val] 53, ow 53 2 encC okC (.slice s_a s_n s_c) D] _ := At.frame T36.at' [1] rfl m39
       clear m39
       refine l_op (f_val F40 rfl rfl (r_not rfl (F40.ev 28 rfl)) rfl fun _ F41 => ?_)
       have F42 : Fr 42 [(29, .bool (!(decide (x1.key = del)))), (7, .pointer (some ⟨b32, 0, none⟩)), (6, .int .i64 ((j : Nat) : Int)), (5, .int .i64 ((ii : Nat) : Int)), (0, .slice s_a s_n s_c), (1, .func (.func 58) #[] #[.pointer (some ⟨del_b, 0, none⟩)])] _ := F41.cut rfl
       clear F35 F37 F38 F40 F41
       refine s_end (x_normal (x_condb (b := (!(decide (x1.key = del)))) (F42.ev 29 rfl) (fun h43 => ?_) (fun h43 => ?_)))
       · skip
         refine wp_seq (wp_region_lit (l_op (f_mv F42 rfl rfl rfl rfl rfl fun _ F44 => ?_)))
         refine l_op (f_mv F44 rfl rfl rfl rfl rfl fun _ F45 => ?_)
         refine l_op (f_val (v := .agg #[.string x1.key, .string x1.val]) F45 rfl rfl (r_loadB S39.at' 1 TI_53 rfl rfl (F45.ev 7 rfl) rfl rfl (fun h => nomatch h) rfl) rfl fun _ F46 => ?_)
         obtain ⟨B47, x2, ad47, hx2, okx2, cl47⟩ := At.ownAt S39.at' ET_26.hk 2 rfl ii  (by first | assumption | omega)
         refine l_op (f_val F46 rfl rfl (r_indexAddr (i := ii) ET_26 rfl ((F46.ev 30 rfl).trans (by rw [ad47])) (F46.ev 31 rfl) (by omega) (by first | assumption | omega)) rfl fun _ F48 => ?_)
         refine l_op (s_storeEl S39.at' 2 ii x1 ET_26.hk ET_26.h1 TI_53 rfl ad47 rfl rfl rfl rfl (F48.ev 33 rfl) (F48.ev 32 rfl) rfl (by first | assumption | omega) ⟨okx1.1, okx1.2⟩ fun w49 S49 => ?_)
         have F50 : Fr 42 [(33, .pointer (some ⟨B47, 0 + ii * 2, none⟩)), (32, .agg #[.string x1.key, .string x1.val]), (6, .int .i64 ((j : Nat) : Int)), (5, .int .i64 ((ii : Nat) : Int)), (0, .slice s_a s_n s_c), (1, .func (.func 58) #[] #[.pointer (some ⟨del_b, 0, none⟩)])] _ := F48.cut rfl
         clear F42 F44 F45 F46 F48
         have T51 : Mv _ _ [ow 53 2 encC okC (.slice s_a s_n s_c) (D.set ii x1), bx del_b [.string del] 9, bx b32 [.string x1.key, .string x1.val] 53] _ := S49
         refine s_end (x_normal (wp_region_lit (l_op (f_mv F50 rfl rfl rfl rfl rfl fun _ F52 => ?_))))
         refine l_op (f_val F52 rfl rfl (r_add (z := ((ii + 1 : Nat) : Int)) rfl (F52.ev 34 rfl) rfl (by first | rfl | omega) ⟨by first | omega | (unfold i64ok at *; omega), by first | omega | (unfold i64ok at *; omega)⟩) rfl fun _ F53 => ?_)
         refine l_op (f_as F53 rfl rfl rfl rfl rfl fun _ F54 => ?_)
         have F55 : Fr 42 [(5, .int .i64 ((ii + 1 : Nat) : Int)), (6, .int .i64 ((j : Nat) : Int)), (0, .slice s_a s_n s_c), (1, .func (.func 58) #[] #[.pointer (some ⟨del_b, 0, none⟩)])] _ := F54.cut rfl
         clear F50 F52 F53 F54
         refine s_end (x_block_normal (x_normal (wp_region_lit (l_op (f_mv F55 rfl rfl rfl rfl rfl fun _ F56 => ?_)))))
         refine l_op (f_val F56 rfl rfl (r_add (z := ((j + 1 : Nat) : Int)) rfl (F56.ev 20 rfl) rfl (by first | rfl | omega) ⟨by first | omega | (unfold i64ok at *; omega), by first | omega | (unfold i64ok at *; omega)⟩) rfl fun _ F57 => ?_)
         refine l_op (f_as F57 rfl rfl rfl rfl rfl fun _ F58 => ?_)
         have F59 : Fr 42 [(6, .int .i64 ((j + 1 : Nat) : Int)), (5, .int .i64 ((ii + 1 : Nat) : Int)), (0, .slice s_a s_n s_c), (1, .func (.func 58) #[] #[.pointer (some ⟨del_b, 0, none⟩)])] _ := F58.cut rfl
         clear F55 F56 F57 F58
         refine s_end ?_
         refine x_normal ⟨j + 1, by omega, ii + 1, D.set ii x1, F59.cut rfl, ((S20.trans (S32.trans (T36.trans (S39.trans T51)))).pick [1, 0] rfl), by first | exact hj_0.skip hx1 (by simp_all) | exact hj_0.keep hx1 (by simp_all)⟩
       · skip
         refine wp_skip (x_block_normal (x_normal (wp_region_lit (l_op (f_mv F42 rfl rfl rfl rfl rfl fun _ F60 => ?_)))))
         refine l_op (f_val F60 rfl rfl (r_add (z := ((j + 1 : Nat) : Int)) rfl (F60.ev 20 rfl) rfl (by first | rfl | omega) ⟨by first | omega | (unfold i64ok at *; omega), by first | omega | (unfold i64ok at *; omega)⟩) rfl fun _ F61 => ?_)
         refine l_op (f_as F61 rfl rfl rfl rfl rfl fun _ F62 => ?_)
         have F63 : Fr 42 [(6, .int .i64 ((j + 1 : Nat) : Int)), (5, .int .i64 ((ii : Nat) : Int)), (0, .slice s_a s_n s_c), (1, .func (.func 58) #[] #[.pointer (some ⟨del_b, 0, none⟩)])] _ := F62.cut rfl
         clear F42 F60 F61 F62
         refine s_end ?_
         refine x_normal ⟨j + 1, by omega, ii, D, F63.cut rfl, ((S20.trans (S32.trans (T36.trans S39))).pick [0, 2] rfl), by first | exact hj_0.skip hx1 (by simp_all) | exact hj_0.keep hx1 (by simp_all)⟩
     · skip
       refine wp_exit (x_then_exit (x_then_exit (x_block_here (x_normal (wp_seq (wp_region_lit (l_op (f_mv F25 rfl rfl rfl rfl rfl fun _ F64 => ?_))))))))
       refine l_op (f_mv F64 rfl rfl rfl rfl rfl fun _ F65 => ?_)
       obtain ⟨B66, ad66, qc66⟩ := own_blk S20.at' 1 rfl (by first | assumption | omega)
       refine l_op (f_val F65 rfl rfl (r_sliceO (lo := ii) ET_26 rfl (F65.ev 36 rfl) ad66 (F65.ev 37 rfl) rfl (by first | assumption | omega) qc66) rfl fun _ F67 => ?_)
       refine l_op (s_clear (lo := ii) (⟨(⟨#[]⟩ : ByteArray), (⟨#[]⟩ : ByteArray)⟩ : CellD) S20.at' 1 ET_26 rfl ad66 rfl rfl rfl rfl (F67.ev 38 rfl) (by first | assumption | omega) rfl ⟨(by unfold okS; decide), (by unfold okS; decide)⟩ fun w68 S68 => ?_)
       have F69 : Fr 42 [(38, .slice (some ⟨B66, 0 + ii * 2, none⟩) (s_n - ii) (s_c - ii)), (5, .int .i64 ((ii : Nat) : Int)), (0, .slice s_a s_n s_c)] _ := F67.cut rfl
       clear F25 F64 F65 F67
       have T70 : Mv _ _ [ow 53 2 encC okC (.slice s_a s_n s_c) (D.take ii ++ List.replicate (s_n - ii) (⟨(⟨#[]⟩ : ByteArray), (⟨#[]⟩ : ByteArray)⟩ : CellD)), bx del_b [.string del] 9] _ := S68
       refine s_end (x_normal (wp_seq (wp_region_lit (l_op (f_mv F69 rfl rfl rfl rfl rfl fun _ F71 => ?_)))))
       refine l_op (f_mv F71 rfl rfl rfl rfl rfl fun _ F72 => ?_)
       refine l_op (f_cutO F72 T70.at' 0 ii ET_26 rfl rfl rfl rfl rfl rfl (F72.ev 39 rfl) rfl (F72.ev 40 rfl) (by first | assumption | omega) fun _ F74 S73 => ?_)
       refine l_op (f_as F74 rfl rfl rfl rfl rfl fun _ F75 => ?_)
       have F76 : Fr 42 [(4, .slice s_a ii s_c)] _ := F75.cut rfl
       clear F69 F71 F72 F74 F75
       have T77 : Mv _ _ [ow 53 2 encC okC (.slice s_a ii s_c) ((D.take ii ++ List.replicate (s_n - ii) (⟨(⟨#[]⟩ : ByteArray), (⟨#[]⟩ : ByteArray)⟩ : CellD)).take ii), bx del_b [.string del] 9] _ := S73
       refine s_end (x_normal (wp_ret ?_))
       refine x_done (v := .slice s_a ii s_c) F76 (results_1 Tryd.results57 (.tmp (F76.ev 4 rfl))) ?_
       exact ⟨s_a, ii, s_c, rfl, (Mv.cast (Mv.pick (S5.trans (S20.trans (T70.trans T77))) [0, 1] rfl) (by rw [(show ((D.take ii ++ List.replicate (s_n - ii) (⟨(⟨#[]⟩ : ByteArray), (⟨#[]⟩ : ByteArray)⟩ : CellD)).take ii) = (delKey s del) from by exact hj_0.done (by omega) _)]; all_goals rfl))⟩
end Go.Proofs.YtibgmijfnbnfkaaDoor
