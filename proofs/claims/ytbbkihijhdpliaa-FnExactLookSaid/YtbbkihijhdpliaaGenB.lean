/-
  Walks: access sets.
-/
import Derived.Test.YtbbkihijhdpliaaAdapt
import Derived.Test.YtbbkihijhdpliaaGenA
namespace Go.Proofs.Ytbbkihijhdpliaa
open Go.ChangeShapes Go.WideShapes Go.ChangeAt Go.RowKit
set_option maxRecDepth 100000
set_option maxHeartbeats 1000000
theorem spec_l02Put_c {w : World} {H : Nat → Prop} {list : List ByteArray} {list_a : Option Addr} {list_n list_c : Nat} {x : ByteArray} (v_list : Rd 1 encS okS H w (.slice list_a list_n list_c) list) (h_x : okS x) (p0 : list_n ≤ 549755813888) :
    Calls Try.prog 82 #[.slice list_a list_n list_c, .string x] w fun e w' => ∃ (r0_a : Option Addr), ∃ (r0_n : Nat), ∃ (r0_c : Nat), e = .returned (.slice r0_a r0_n r0_c) ∧ Mv [] w [] w' ∧ Rd 1 encS okS (Fsh H w) w' (.slice r0_a r0_n r0_c) (putL list x) := by
  have V_v_list : Rd 1 encS okS (V H w []) w (.slice list_a list_n list_c) list := Rd.start v_list (fun _ _ => fps_nil _)
  obtain ⟨ln_list, le_list, mx_list, ni_list⟩ := Rd.inv v_list
  refine calls_enter 47 Try.func82 rfl Try.ntmps82 (Nat.le_of_ble_eq_true rfl) (fun a0 F0i => ?_)
  have F0 : Fr 47 [(0, .slice list_a list_n list_c), (1, .string x)] a0 := F0i
  clear F0i
  refine wp_seq ?_
  refine wp_region_lit ?_
  refine l_op (s_val rfl rfl (r_assign rfl rfl) fun a1 e1 => ?_)
  have F2 : Fr 47 [(4, .slice none 0 0), (0, .slice list_a list_n list_c), (1, .string x)] a1 := F0.put [0, 1] e1 rfl
  clear e1 F0 a0
  refine s_end ?_
  refine x_normal ?_
  refine wp_seq ?_
  refine wp_region_lit ?_
  refine l_op (s_val rfl rfl (r_assign rfl rfl) fun a3 e3 => ?_)
  have F4 : Fr 47 [(5, .int .i64 0), (0, .slice list_a list_n list_c), (1, .string x)] a3 := F2.put [1, 2] e3 rfl
  clear e3 F2 a1
  refine s_end ?_
  refine x_normal ?_
  refine wp_seq ?_
  refine wp_block ?_
  refine x_loop (fun (k : Nat) aZ wZ => Fr 47 [(5, .int .i64 ((k : Nat) : Int)), (0, .slice list_a list_n list_c), (1, .string x)] aZ ∧ Mv [] w [] wZ ∧ (k ≤ list_n) ∧ (∀ j, j < k → ∀ y, nth list j = some y → ltS y x = true)) (fun (k : Nat) => list_n - k) (0) ?_ ?_
  · exact ⟨F4.keep [0, 1, 2], (Mv.refl (At.nil w)), by omega, all_none⟩
  · rintro k a5 w5 ⟨F5, S5, hk_0, hk_1⟩
    refine wp_seq ?_
    refine wp_seq ?_
    refine wp_region_lit ?_
    refine l_op (s_val rfl rfl (r_move rfl (F5.ev 0 rfl)) fun a6 e6 => ?_)
    have F7 : Fr 47 [(7, .int .i64 ((k : Nat) : Int)), (5, .int .i64 ((k : Nat) : Int)), (0, .slice list_a list_n list_c), (1, .string x)] a6 := F5.put [0, 1, 2] e6 rfl
    clear e6 F5 a5
    refine l_op (s_val rfl rfl (r_move rfl (F7.ev 2 rfl)) fun a8 e8 => ?_)
    have F9 : Fr 47 [(8, .slice list_a list_n list_c), (7, .int .i64 ((k : Nat) : Int)), (5, .int .i64 ((k : Nat) : Int)), (0, .slice list_a list_n list_c), (1, .string x)] a8 := F7.put [0, 1, 2, 3] e8 rfl
    clear e8 F7 a6
    refine l_op (s_val rfl rfl (r_len Try.underlying22 rfl (F9.ev 0 rfl)) fun a10 e10 => ?_)
    have F11 : Fr 47 [(9, .int .i64 ((list_n : Nat) : Int)), (7, .int .i64 ((k : Nat) : Int)), (5, .int .i64 ((k : Nat) : Int)), (0, .slice list_a list_n list_c), (1, .string x)] a10 := F9.put [1, 2, 3, 4] e10 rfl
    clear e10 F9 a8
    refine l_op (s_val rfl rfl (r_cmp (b := decide (k < list_n)) (.inr (.inr (.inl rfl))) rfl (F11.ev 1 rfl) (F11.ev 0 rfl) (dec_of (by omega))) fun a12 e12 => ?_)
    have F13 : Fr 47 [(10, .bool (decide (k < list_n))), (5, .int .i64 ((k : Nat) : Int)), (0, .slice list_a list_n list_c), (1, .string x)] a12 := F11.put [2, 3, 4] e12 rfl
    clear e12 F11 a10
    refine l_op (s_val rfl rfl (r_move rfl (F13.ev 0 rfl)) fun a14 e14 => ?_)
    rcases Decidable.em (k < list_n) with h15 | h15
    · skip
      rw [decide_eq_true h15] at e14
      have F16 : Fr 47 [(11, .bool true), (5, .int .i64 ((k : Nat) : Int)), (0, .slice list_a list_n list_c), (1, .string x)] a14 := F13.put [1, 2, 3] e14 rfl
      clear e14 F13 a12
      refine l_op (s_val (wanted_g F16 0 rfl rfl rfl rfl) rfl (r_move rfl (F16.ev 2 rfl)) fun a17 e17 => ?_)
      have F18 : Fr 47 [(12, .slice list_a list_n list_c), (11, .bool true), (5, .int .i64 ((k : Nat) : Int)), (0, .slice list_a list_n list_c), (1, .string x)] a17 := F16.put [0, 1, 2, 3] e17 rfl
      clear e17 F16 a14
      refine l_op (s_val (wanted_g F18 1 rfl rfl rfl rfl) rfl (r_move rfl (F18.ev 2 rfl)) fun a19 e19 => ?_)
      have F20 : Fr 47 [(13, .int .i64 ((k : Nat) : Int)), (12, .slice list_a list_n list_c), (11, .bool true), (5, .int .i64 ((k : Nat) : Int)), (0, .slice list_a list_n list_c), (1, .string x)] a19 := F18.put [0, 1, 2, 3, 4] e19 rfl
      clear e19 F18 a17
      obtain ⟨B21, O21, x1, ad21, hx1, okx1, ln21, cl21⟩ := Rd.at (Rd.mv (Nat.succ_pos _) V_v_list S5) k (by first | assumption | omega)
      clear ln21
      refine l_op (s_val (wanted_g F20 2 rfl rfl rfl rfl) rfl (r_indexAddr (i := k) ET_22 rfl ((F20.ev 1 rfl).trans (by rw [ad21])) (F20.ev 0 rfl) (by omega) (by first | assumption | omega)) fun a22 e22 => ?_)
      have F23 : Fr 47 [(14, .pointer (some ⟨B21, O21 + k * 1, none⟩)), (13, .int .i64 ((k : Nat) : Int)), (12, .slice list_a list_n list_c), (11, .bool true), (5, .int .i64 ((k : Nat) : Int)), (0, .slice list_a list_n list_c), (1, .string x)] a22 := F20.put [0, 1, 2, 3, 4, 5] e22 rfl
      clear e22 F20 a19
      refine l_op (s_val (wanted_g F23 3 rfl rfl rfl rfl) rfl (r_load (cs := [.string x1]) TI_9 rfl (F23.ev 0 rfl) rfl (fun _ => rfl) (elem_sub (f := 0) cl21 [.string x1] rfl)) fun a24 e24 => ?_)
      have F25 : Fr 47 [(15, .string x1), (14, .pointer (some ⟨B21, O21 + k * 1, none⟩)), (13, .int .i64 ((k : Nat) : Int)), (12, .slice list_a list_n list_c), (11, .bool true), (5, .int .i64 ((k : Nat) : Int)), (0, .slice list_a list_n list_c), (1, .string x)] a24 := F23.put [0, 1, 2, 3, 4, 5, 6] e24 rfl
      clear e24 F23 a22
      refine l_op (s_val (wanted_g F25 4 rfl rfl rfl rfl) rfl (r_move rfl (F25.ev 7 rfl)) fun a26 e26 => ?_)
      have F27 : Fr 47 [(16, .string x), (15, .string x1), (14, .pointer (some ⟨B21, O21 + k * 1, none⟩)), (13, .int .i64 ((k : Nat) : Int)), (12, .slice list_a list_n list_c), (11, .bool true), (5, .int .i64 ((k : Nat) : Int)), (0, .slice list_a list_n list_c), (1, .string x)] a26 := F25.put [0, 1, 2, 3, 4, 5, 6, 7] e26 rfl
      clear e26 F25 a24
      refine l_op (s_val (wanted_g F27 5 rfl rfl rfl rfl) rfl (r_cmps (b := (ltS x1 x)) (.inr (.inr (.inl rfl))) rfl (F27.ev 1 rfl) (F27.ev 0 rfl) rfl) fun a28 e28 => ?_)
      have F29 : Fr 47 [(17, .bool (ltS x1 x)), (16, .string x), (15, .string x1), (14, .pointer (some ⟨B21, O21 + k * 1, none⟩)), (13, .int .i64 ((k : Nat) : Int)), (12, .slice list_a list_n list_c), (11, .bool true), (5, .int .i64 ((k : Nat) : Int)), (0, .slice list_a list_n list_c), (1, .string x)] a28 := F27.put [0, 1, 2, 3, 4, 5, 6, 7, 8] e28 rfl
      clear e28 F27 a26
      refine l_op (s_val rfl rfl (r_pick (b := true) rfl (F29.ev 6 rfl) (F29.ev 0 rfl)) fun a30 e30 => ?_)
      have F31 : Fr 47 [(18, .bool (ltS x1 x)), (17, .bool (ltS x1 x)), (16, .string x), (15, .string x1), (14, .pointer (some ⟨B21, O21 + k * 1, none⟩)), (13, .int .i64 ((k : Nat) : Int)), (12, .slice list_a list_n list_c), (5, .int .i64 ((k : Nat) : Int)), (0, .slice list_a list_n list_c), (1, .string x)] a30 := F29.put [0, 1, 2, 3, 4, 5, 7, 8, 9] e30 rfl
      clear e30 F29 a28
      refine s_end ?_
      refine x_normal ?_
      refine x_condb (b := (ltS x1 x)) (F31.ev 0 rfl) (fun h32 => ?_) (fun h32 => ?_)
      · skip
        refine wp_skip ?_
        refine x_normal ?_
        refine wp_block ?_
        refine wp_region_lit ?_
        refine l_op (s_val rfl rfl (r_move rfl (F31.ev 7 rfl)) fun a33 e33 => ?_)
        have F34 : Fr 47 [(19, .int .i64 ((k : Nat) : Int)), (17, .bool (ltS x1 x)), (16, .string x), (15, .string x1), (14, .pointer (some ⟨B21, O21 + k * 1, none⟩)), (13, .int .i64 ((k : Nat) : Int)), (12, .slice list_a list_n list_c), (5, .int .i64 ((k : Nat) : Int)), (0, .slice list_a list_n list_c), (1, .string x)] a33 := F31.put [1, 2, 3, 4, 5, 6, 7, 8, 9] e33 rfl
        clear e33 F31 a30
        refine l_op (s_val rfl rfl (r_add (z := ((k + 1 : Nat) : Int)) rfl (F34.ev 0 rfl) rfl (by first | rfl | omega) ⟨by first | omega | (unfold i64ok at *; omega), by first | omega | (unfold i64ok at *; omega)⟩) fun a35 e35 => ?_)
        have F36 : Fr 47 [(20, .int .i64 ((k + 1 : Nat) : Int)), (17, .bool (ltS x1 x)), (16, .string x), (15, .string x1), (14, .pointer (some ⟨B21, O21 + k * 1, none⟩)), (13, .int .i64 ((k : Nat) : Int)), (12, .slice list_a list_n list_c), (5, .int .i64 ((k : Nat) : Int)), (0, .slice list_a list_n list_c), (1, .string x)] a35 := F34.put [1, 2, 3, 4, 5, 6, 7, 8, 9] e35 rfl
        clear e35 F34 a33
        refine l_op (s_val rfl rfl (r_assign rfl (F36.ev 0 rfl)) fun a37 e37 => ?_)
        have F38 : Fr 47 [(5, .int .i64 ((k + 1 : Nat) : Int)), (17, .bool (ltS x1 x)), (16, .string x), (15, .string x1), (14, .pointer (some ⟨B21, O21 + k * 1, none⟩)), (13, .int .i64 ((k : Nat) : Int)), (12, .slice list_a list_n list_c), (0, .slice list_a list_n list_c), (1, .string x)] a37 := F36.put [1, 2, 3, 4, 5, 6, 8, 9] e37 rfl
        clear e37 F36 a35
        refine s_end ?_
        refine x_block_normal ?_
        refine x_normal ⟨k + 1, by omega, F38.keep [0, 7, 8], (S5.pick [] rfl), by omega, all_step hk_1 (fun y hy => by obtain rfl := Option.some.inj (hx1.symm.trans hy); assumption)⟩
      · skip
        refine wp_exit ?_
        refine x_then_exit ?_
        refine x_then_exit ?_
        refine x_block_here ?_
        refine x_normal ?_
        refine wp_seq ?_
        refine wp_seq ?_
        refine wp_region_lit ?_
        refine l_op (s_val rfl rfl (r_move rfl (F31.ev 7 rfl)) fun a39 e39 => ?_)
        have F40 : Fr 47 [(21, .int .i64 ((k : Nat) : Int)), (5, .int .i64 ((k : Nat) : Int)), (0, .slice list_a list_n list_c), (1, .string x)] a39 := F31.put [7, 8, 9] e39 rfl
        clear e39 F31 a30
        refine l_op (s_val rfl rfl (r_move rfl (F40.ev 2 rfl)) fun a41 e41 => ?_)
        have F42 : Fr 47 [(22, .slice list_a list_n list_c), (21, .int .i64 ((k : Nat) : Int)), (5, .int .i64 ((k : Nat) : Int)), (0, .slice list_a list_n list_c), (1, .string x)] a41 := F40.put [0, 1, 2, 3] e41 rfl
        clear e41 F40 a39
        refine l_op (s_val rfl rfl (r_len Try.underlying22 rfl (F42.ev 0 rfl)) fun a43 e43 => ?_)
        have F44 : Fr 47 [(23, .int .i64 ((list_n : Nat) : Int)), (21, .int .i64 ((k : Nat) : Int)), (5, .int .i64 ((k : Nat) : Int)), (0, .slice list_a list_n list_c), (1, .string x)] a43 := F42.put [1, 2, 3, 4] e43 rfl
        clear e43 F42 a41
        refine l_op (s_val rfl rfl (r_cmp (b := decide (k < list_n)) (.inr (.inr (.inl rfl))) rfl (F44.ev 1 rfl) (F44.ev 0 rfl) (dec_of (by omega))) fun a45 e45 => ?_)
        have F46 : Fr 47 [(24, .bool (decide (k < list_n))), (5, .int .i64 ((k : Nat) : Int)), (0, .slice list_a list_n list_c), (1, .string x)] a45 := F44.put [2, 3, 4] e45 rfl
        clear e45 F44 a43
        refine l_op (s_val rfl rfl (r_move rfl (F46.ev 0 rfl)) fun a47 e47 => ?_)
        rw [decide_eq_true h15] at e47
        have F48 : Fr 47 [(25, .bool true), (5, .int .i64 ((k : Nat) : Int)), (0, .slice list_a list_n list_c), (1, .string x)] a47 := F46.put [1, 2, 3] e47 rfl
        clear e47 F46 a45
        refine l_op (s_val (wanted_g F48 0 rfl rfl rfl rfl) rfl (r_move rfl (F48.ev 2 rfl)) fun a49 e49 => ?_)
        have F50 : Fr 47 [(26, .slice list_a list_n list_c), (25, .bool true), (5, .int .i64 ((k : Nat) : Int)), (0, .slice list_a list_n list_c), (1, .string x)] a49 := F48.put [0, 1, 2, 3] e49 rfl
        clear e49 F48 a47
        refine l_op (s_val (wanted_g F50 1 rfl rfl rfl rfl) rfl (r_move rfl (F50.ev 2 rfl)) fun a51 e51 => ?_)
        have F52 : Fr 47 [(27, .int .i64 ((k : Nat) : Int)), (26, .slice list_a list_n list_c), (25, .bool true), (5, .int .i64 ((k : Nat) : Int)), (0, .slice list_a list_n list_c), (1, .string x)] a51 := F50.put [0, 1, 2, 3, 4] e51 rfl
        clear e51 F50 a49
        obtain ⟨B53, O53, y53, ad53, hy53, oky53, ln53, cl53⟩ := Rd.at (Rd.mv (Nat.succ_pos _) V_v_list S5) k (by first | assumption | omega)
        clear ln53
        obtain rfl := Option.some.inj (hx1.symm.trans hy53)
        clear hy53 oky53
        refine l_op (s_val (wanted_g F52 2 rfl rfl rfl rfl) rfl (r_indexAddr (i := k) ET_22 rfl ((F52.ev 1 rfl).trans (by rw [ad53])) (F52.ev 0 rfl) (by omega) (by first | assumption | omega)) fun a54 e54 => ?_)
        have F55 : Fr 47 [(28, .pointer (some ⟨B53, O53 + k * 1, none⟩)), (25, .bool true), (5, .int .i64 ((k : Nat) : Int)), (0, .slice list_a list_n list_c), (1, .string x)] a54 := F52.put [2, 3, 4, 5] e54 rfl
        clear e54 F52 a51
        refine l_op (s_val (wanted_g F55 1 rfl rfl rfl rfl) rfl (r_load (cs := [.string x1]) TI_9 rfl (F55.ev 0 rfl) rfl (fun _ => rfl) (elem_sub (f := 0) cl53 [.string x1] rfl)) fun a56 e56 => ?_)
        have F57 : Fr 47 [(29, .string x1), (25, .bool true), (5, .int .i64 ((k : Nat) : Int)), (0, .slice list_a list_n list_c), (1, .string x)] a56 := F55.put [1, 2, 3, 4] e56 rfl
        clear e56 F55 a54
        refine l_op (s_val (wanted_g F57 1 rfl rfl rfl rfl) rfl (r_move rfl (F57.ev 4 rfl)) fun a58 e58 => ?_)
        have F59 : Fr 47 [(30, .string x), (29, .string x1), (25, .bool true), (5, .int .i64 ((k : Nat) : Int)), (0, .slice list_a list_n list_c), (1, .string x)] a58 := F57.put [0, 1, 2, 3, 4] e58 rfl
        clear e58 F57 a56
        refine l_op (s_val (wanted_g F59 2 rfl rfl rfl rfl) rfl (r_cmps (b := (decide (x1 = x))) (.inl rfl) rfl (F59.ev 1 rfl) (F59.ev 0 rfl) rfl) fun a60 e60 => ?_)
        have F61 : Fr 47 [(31, .bool (decide (x1 = x))), (25, .bool true), (5, .int .i64 ((k : Nat) : Int)), (0, .slice list_a list_n list_c), (1, .string x)] a60 := F59.put [2, 3, 4, 5] e60 rfl
        clear e60 F59 a58
        refine l_op (s_val rfl rfl (r_pick (b := true) rfl (F61.ev 1 rfl) (F61.ev 0 rfl)) fun a62 e62 => ?_)
        have F63 : Fr 47 [(32, .bool (decide (x1 = x))), (5, .int .i64 ((k : Nat) : Int)), (0, .slice list_a list_n list_c), (1, .string x)] a62 := F61.put [2, 3, 4] e62 rfl
        clear e62 F61 a60
        refine s_end ?_
        refine x_normal ?_
        refine x_cond (p := x1 = x) (F63.ev 0 rfl) (fun h64 => ?_) (fun h64 => ?_)
        · skip
          refine wp_seq ?_
          refine wp_region_lit ?_
          refine l_op (s_val rfl rfl (r_move rfl (F63.ev 2 rfl)) fun a65 e65 => ?_)
          have F66 : Fr 47 [(33, .slice list_a list_n list_c)] a65 := F63.put [] e65 rfl
          clear e65 F63 a62
          refine l_op (s_val rfl rfl (r_assign rfl (F66.ev 0 rfl)) fun a67 e67 => ?_)
          have F68 : Fr 47 [(4, .slice list_a list_n list_c)] a67 := F66.put [] e67 rfl
          clear e67 F66 a65
          refine s_end ?_
          refine x_normal ?_
          refine wp_ret ?_
          refine x_then_ret ?_
          refine x_done (v := .slice list_a list_n list_c) F68 (results_1 Try.results82 (.tmp (F68.ev 0 rfl))) ?_
          exact ⟨list_a, list_n, list_c, rfl, (Mv.pick S5 [] rfl), (Rd.cast (Rd.give (Rd.mv (Nat.succ_pos _) V_v_list S5)) (show list = (putL list x) from by exact (putL_same (k := k) (by rw [hx1]; exact congrArg some (by assumption)) hk_1 (by simp_all)).symm))⟩
        · skip
          refine wp_skip ?_
          refine x_normal ?_
          refine wp_seq ?_
          refine wp_region_lit ?_
          refine l_op (s_buildSl (ok := okS) (vs := []) S5.at' (([] : List ByteArray)) ET_22 rfl rfl rfl rfl rfl rfl rfl (rowsOk rfl) (by simp) fun b69 a69 w69 e69 S69i => ?_)
          have S69 : Mv [] w5 [ow 9 1 encS okS (.slice (some ⟨b69, 0, none⟩) 0 0) ([] : List ByteArray)] w69 := S69i
          clear S69i
          have F70 : Fr 47 [(34, .slice (some ⟨b69, 0, none⟩) 0 0), (5, .int .i64 ((k : Nat) : Int)), (0, .slice list_a list_n list_c), (1, .string x)] a69 := F63.put [1, 2, 3] e69 rfl
          clear e69 F63 a62
          refine l_op (s_val rfl rfl (r_move rfl (F70.ev 2 rfl)) fun a71 e71 => ?_)
          have F72 : Fr 47 [(35, .slice list_a list_n list_c), (34, .slice (some ⟨b69, 0, none⟩) 0 0), (5, .int .i64 ((k : Nat) : Int)), (0, .slice list_a list_n list_c), (1, .string x)] a71 := F70.put [0, 1, 2, 3] e71 rfl
          clear e71 F70 a69
          refine l_op (s_val rfl rfl (r_move rfl (F72.ev 2 rfl)) fun a73 e73 => ?_)
          have F74 : Fr 47 [(36, .int .i64 ((k : Nat) : Int)), (35, .slice list_a list_n list_c), (34, .slice (some ⟨b69, 0, none⟩) 0 0), (5, .int .i64 ((k : Nat) : Int)), (0, .slice list_a list_n list_c), (1, .string x)] a73 := F72.put [0, 1, 2, 3, 4] e73 rfl
          clear e73 F72 a71
          refine l_op (s_sliceR 0 k (Rd.mv (Nat.succ_pos _) V_v_list (S5.trans S69)) ET_22 rfl rfl rfl (F74.ev 1 rfl) rfl (F74.ev 0 rfl) (by first | assumption | omega) (by first | assumption | omega) fun A75 C75 a75 e75 V75i => ?_)
          have V75 : Rd 1 encS okS (V H w [ow 9 1 encS okS (.slice (some ⟨b69, 0, none⟩) 0 0) ([] : List ByteArray)]) w69 (.slice A75 (k - 0) C75) (list.take k) := V75i
          clear V75i
          have F76 : Fr 47 [(37, .slice A75 (k - 0) C75), (34, .slice (some ⟨b69, 0, none⟩) 0 0), (5, .int .i64 ((k : Nat) : Int)), (0, .slice list_a list_n list_c), (1, .string x)] a75 := F74.put [2, 3, 4, 5] e75 rfl
          clear e75 F74 a73
          refine l_op (s_app (news := list.take k) S69.at' 0 ET_22 rfl rfl rfl rfl rfl (F76.ev 1 rfl) (F76.ev 0 rfl) (V75).1 (by simp only [List.length_append, List.length_cons, List.length_nil, List.length_take, List.length_drop]; omega) fun A77 N77 C77 a77 w77 e77 S77i l77 => ?_)
          have S77 : Mv [ow 9 1 encS okS (.slice (some ⟨b69, 0, none⟩) 0 0) ([] : List ByteArray)] w69 [ow 9 1 encS okS (.slice A77 N77 C77) (([] : List ByteArray) ++ (list.take k))] w77 := S77i
          clear S77i
          have F78 : Fr 47 [(38, .slice A77 N77 C77), (5, .int .i64 ((k : Nat) : Int)), (0, .slice list_a list_n list_c), (1, .string x)] a77 := F76.put [2, 3, 4] e77 rfl
          clear e77 F76 a75
          refine l_op (s_val rfl rfl (r_move rfl (F78.ev 3 rfl)) fun a79 e79 => ?_)
          have F80 : Fr 47 [(39, .string x), (38, .slice A77 N77 C77), (5, .int .i64 ((k : Nat) : Int)), (0, .slice list_a list_n list_c)] a79 := F78.put [0, 1, 2] e79 rfl
          clear e79 F78 a77
          refine l_op (s_buildSl (ok := okS) (vs := [.string x]) S77.at' ([x]) ET_22 rfl rfl rfl rfl rfl (lc (pr2 (F80.ev 0 rfl)) rfl) rfl (rowsOk rfl) (fun x hx => (List.mem_singleton.1 hx) ▸ h_x) fun b81 a81 w81 e81 S81i => ?_)
          have S81 : Mv [ow 9 1 encS okS (.slice A77 N77 C77) (([] : List ByteArray) ++ (list.take k))] w77 [ow 9 1 encS okS (.slice (some ⟨b81, 0, none⟩) 1 1) ([x]), ow 9 1 encS okS (.slice A77 N77 C77) (([] : List ByteArray) ++ (list.take k))] w81 := S81i
          clear S81i
          have F82 : Fr 47 [(40, .slice (some ⟨b81, 0, none⟩) 1 1), (38, .slice A77 N77 C77), (5, .int .i64 ((k : Nat) : Int)), (0, .slice list_a list_n list_c)] a81 := F80.put [1, 2, 3] e81 rfl
          clear e81 F80 a79
          refine l_op (s_app (news := [x]) S81.at' 1 ET_22 rfl rfl rfl rfl rfl (F82.ev 1 rfl) (F82.ev 0 rfl) ((At.rd S81.at' ET_22.hk 0 rfl)).1 (by simp only [List.length_append, List.length_cons, List.length_nil, List.length_take, List.length_drop]; omega) fun A83 N83 C83 a83 w83 e83 S83i l83 => ?_)
          have S83 : Mv [ow 9 1 encS okS (.slice (some ⟨b81, 0, none⟩) 1 1) ([x]), ow 9 1 encS okS (.slice A77 N77 C77) (([] : List ByteArray) ++ (list.take k))] w81 [ow 9 1 encS okS (.slice A83 N83 C83) ((([] : List ByteArray) ++ (list.take k)) ++ ([x])), ow 9 1 encS okS (.slice (some ⟨b81, 0, none⟩) 1 1) ([x])] w83 := S83i
          clear S83i
          have S84 : Mv [ow 9 1 encS okS (.slice A83 N83 C83) ((([] : List ByteArray) ++ (list.take k)) ++ ([x])), ow 9 1 encS okS (.slice (some ⟨b81, 0, none⟩) 1 1) ([x])] w83 [ow 9 1 encS okS (.slice A83 N83 C83) ((([] : List ByteArray) ++ (list.take k)) ++ ([x]))] w83 := At.drop S83.at' 1
          have F85 : Fr 47 [(41, .slice A83 N83 C83), (5, .int .i64 ((k : Nat) : Int)), (0, .slice list_a list_n list_c)] a83 := F82.put [2, 3] e83 rfl
          clear e83 F82 a81
          refine l_op (s_val rfl rfl (r_assign rfl (F85.ev 0 rfl)) fun a86 e86 => ?_)
          have F87 : Fr 47 [(6, .slice A83 N83 C83), (5, .int .i64 ((k : Nat) : Int)), (0, .slice list_a list_n list_c)] a86 := F85.put [1, 2] e86 rfl
          clear e86 F85 a83
          refine s_end ?_
          refine x_normal ?_
          refine wp_seq ?_
          refine wp_region_lit ?_
          refine l_op (s_val rfl rfl (r_move rfl (F87.ev 0 rfl)) fun a88 e88 => ?_)
          have F89 : Fr 47 [(42, .slice A83 N83 C83), (5, .int .i64 ((k : Nat) : Int)), (0, .slice list_a list_n list_c)] a88 := F87.put [1, 2] e88 rfl
          clear e88 F87 a86
          refine l_op (s_val rfl rfl (r_move rfl (F89.ev 2 rfl)) fun a90 e90 => ?_)
          have F91 : Fr 47 [(43, .slice list_a list_n list_c), (42, .slice A83 N83 C83), (5, .int .i64 ((k : Nat) : Int))] a90 := F89.put [0, 1] e90 rfl
          clear e90 F89 a88
          refine l_op (s_val rfl rfl (r_move rfl (F91.ev 2 rfl)) fun a92 e92 => ?_)
          have F93 : Fr 47 [(44, .int .i64 ((k : Nat) : Int)), (43, .slice list_a list_n list_c), (42, .slice A83 N83 C83)] a92 := F91.put [0, 1] e92 rfl
          clear e92 F91 a90
          refine l_op (s_sliceR k list_n (Rd.mv (Nat.succ_pos _) V_v_list (S5.trans (S69.trans (S77.trans (S81.trans (S83.trans S84)))))) ET_22 rfl rfl rfl (F93.ev 1 rfl) (F93.ev 0 rfl) rfl (by first | assumption | omega) (by first | assumption | omega) fun A94 C94 a94 e94 V94i => ?_)
          have V94 : Rd 1 encS okS (V H w [ow 9 1 encS okS (.slice A83 N83 C83) ((([] : List ByteArray) ++ (list.take k)) ++ ([x]))]) w83 (.slice A94 (list_n - k) C94) (list.drop k) := Rd.cast V94i (show (list.take list_n).drop k = list.drop k from by rw [List.take_of_length_le (by omega)])
          clear V94i
          have F95 : Fr 47 [(45, .slice A94 (list_n - k) C94), (42, .slice A83 N83 C83)] a94 := F93.put [2] e94 rfl
          clear e94 F93 a92
          refine l_op (s_app (news := list.drop k) S84.at' 0 ET_22 rfl rfl rfl rfl rfl (F95.ev 1 rfl) (F95.ev 0 rfl) (V94).1 (by simp only [List.length_append, List.length_cons, List.length_nil, List.length_take, List.length_drop]; omega) fun A96 N96 C96 a96 w96 e96 S96i l96 => ?_)
          have S96 : Mv [ow 9 1 encS okS (.slice A83 N83 C83) ((([] : List ByteArray) ++ (list.take k)) ++ ([x]))] w83 [ow 9 1 encS okS (.slice A96 N96 C96) (((([] : List ByteArray) ++ (list.take k)) ++ ([x])) ++ (list.drop k))] w96 := S96i
          clear S96i
          have F97 : Fr 47 [(46, .slice A96 N96 C96)] a96 := F95.put [] e96 rfl
          clear e96 F95 a94
          refine l_op (s_val rfl rfl (r_assign rfl (F97.ev 0 rfl)) fun a98 e98 => ?_)
          have F99 : Fr 47 [(4, .slice A96 N96 C96)] a98 := F97.put [] e98 rfl
          clear e98 F97 a96
          refine s_end ?_
          refine x_normal ?_
          refine wp_ret ?_
          have Z100 : Rd 1 encS okS (V H w []) w96 (.slice A96 N96 C96) (((([] : List ByteArray) ++ (list.take k)) ++ ([x])) ++ (list.drop k)) := At.freeze (S5.trans (S69.trans (S77.trans (S81.trans (S83.trans (S84.trans S96)))))) ET_22.hk 0 rfl (fun b hb => ((S5.trans (S69.trans (S77.trans (S81.trans (S83.trans (S84.trans S96)))))).fresh b ⟨_, nth_mem (i := 0) rfl, hb⟩).resolve_left (fps_nil _))
          have S100 : Mv [ow 9 1 encS okS (.slice A96 N96 C96) (((([] : List ByteArray) ++ (list.take k)) ++ ([x])) ++ (list.drop k))] w96 [] w96 := At.drop S96.at' 0
          refine x_done (v := .slice A96 N96 C96) F99 (results_1 Try.results82 (.tmp (F99.ev 0 rfl))) ?_
          exact ⟨A96, N96, C96, rfl, (Mv.pick (S5.trans (S69.trans (S77.trans (S81.trans (S83.trans (S84.trans (S96.trans S100))))))) [] rfl), (Rd.cast (Rd.give Z100) (show (((([] : List ByteArray) ++ (list.take k)) ++ ([x])) ++ (list.drop k)) = (putL list x) from by rw [putL_ins (k := k) (by omega) hk_1 (fun y hy => by obtain rfl := Option.some.inj (hx1.symm.trans hy); exact ⟨by assumption, by assumption⟩)]; simp))⟩
    · skip
      rw [decide_eq_false h15] at e14
      have F101 : Fr 47 [(11, .bool false), (5, .int .i64 ((k : Nat) : Int)), (0, .slice list_a list_n list_c), (1, .string x)] a14 := F13.put [1, 2, 3] e14 rfl
      clear e14 F13 a12
      refine l_op (s_skip (wanted_g F101 0 rfl rfl rfl rfl) rfl fun a102 e102 => ?_)
      have F103 : Fr 47 [(12, undef), (11, .bool false), (5, .int .i64 ((k : Nat) : Int)), (0, .slice list_a list_n list_c), (1, .string x)] a102 := F101.put [0, 1, 2, 3] e102 rfl
      clear e102 F101 a14
      refine l_op (s_skip (wanted_g F103 1 rfl rfl rfl rfl) rfl fun a104 e104 => ?_)
      have F105 : Fr 47 [(13, undef), (12, undef), (11, .bool false), (5, .int .i64 ((k : Nat) : Int)), (0, .slice list_a list_n list_c), (1, .string x)] a104 := F103.put [0, 1, 2, 3, 4] e104 rfl
      clear e104 F103 a102
      refine l_op (s_skip (wanted_g F105 2 rfl rfl rfl rfl) rfl fun a106 e106 => ?_)
      have F107 : Fr 47 [(14, undef), (13, undef), (12, undef), (11, .bool false), (5, .int .i64 ((k : Nat) : Int)), (0, .slice list_a list_n list_c), (1, .string x)] a106 := F105.put [0, 1, 2, 3, 4, 5] e106 rfl
      clear e106 F105 a104
      refine l_op (s_skip (wanted_g F107 3 rfl rfl rfl rfl) rfl fun a108 e108 => ?_)
      have F109 : Fr 47 [(15, undef), (14, undef), (13, undef), (12, undef), (11, .bool false), (5, .int .i64 ((k : Nat) : Int)), (0, .slice list_a list_n list_c), (1, .string x)] a108 := F107.put [0, 1, 2, 3, 4, 5, 6] e108 rfl
      clear e108 F107 a106
      refine l_op (s_skip (wanted_g F109 4 rfl rfl rfl rfl) rfl fun a110 e110 => ?_)
      have F111 : Fr 47 [(16, undef), (15, undef), (14, undef), (13, undef), (12, undef), (11, .bool false), (5, .int .i64 ((k : Nat) : Int)), (0, .slice list_a list_n list_c), (1, .string x)] a110 := F109.put [0, 1, 2, 3, 4, 5, 6, 7] e110 rfl
      clear e110 F109 a108
      refine l_op (s_skip (wanted_g F111 5 rfl rfl rfl rfl) rfl fun a112 e112 => ?_)
      have F113 : Fr 47 [(17, undef), (16, undef), (15, undef), (14, undef), (13, undef), (12, undef), (11, .bool false), (5, .int .i64 ((k : Nat) : Int)), (0, .slice list_a list_n list_c), (1, .string x)] a112 := F111.put [0, 1, 2, 3, 4, 5, 6, 7, 8] e112 rfl
      clear e112 F111 a110
      refine l_op (s_val rfl rfl (r_pick (b := false) rfl (F113.ev 6 rfl) rfl) fun a114 e114 => ?_)
      have F115 : Fr 47 [(18, .bool false), (17, undef), (16, undef), (15, undef), (14, undef), (13, undef), (12, undef), (5, .int .i64 ((k : Nat) : Int)), (0, .slice list_a list_n list_c), (1, .string x)] a114 := F113.put [0, 1, 2, 3, 4, 5, 7, 8, 9] e114 rfl
      clear e114 F113 a112
      refine s_end ?_
      refine x_normal ?_
      refine wp_cond_false (F115.ev 0 rfl) ?_
      refine wp_exit ?_
      refine x_then_exit ?_
      refine x_then_exit ?_
      refine x_block_here ?_
      refine x_normal ?_
      refine wp_seq ?_
      refine wp_seq ?_
      refine wp_region_lit ?_
      refine l_op (s_val rfl rfl (r_move rfl (F115.ev 7 rfl)) fun a116 e116 => ?_)
      have F117 : Fr 47 [(21, .int .i64 ((k : Nat) : Int)), (5, .int .i64 ((k : Nat) : Int)), (0, .slice list_a list_n list_c), (1, .string x)] a116 := F115.put [7, 8, 9] e116 rfl
      clear e116 F115 a114
      refine l_op (s_val rfl rfl (r_move rfl (F117.ev 2 rfl)) fun a118 e118 => ?_)
      have F119 : Fr 47 [(22, .slice list_a list_n list_c), (21, .int .i64 ((k : Nat) : Int)), (5, .int .i64 ((k : Nat) : Int)), (0, .slice list_a list_n list_c), (1, .string x)] a118 := F117.put [0, 1, 2, 3] e118 rfl
      clear e118 F117 a116
      refine l_op (s_val rfl rfl (r_len Try.underlying22 rfl (F119.ev 0 rfl)) fun a120 e120 => ?_)
      have F121 : Fr 47 [(23, .int .i64 ((list_n : Nat) : Int)), (21, .int .i64 ((k : Nat) : Int)), (5, .int .i64 ((k : Nat) : Int)), (0, .slice list_a list_n list_c), (1, .string x)] a120 := F119.put [1, 2, 3, 4] e120 rfl
      clear e120 F119 a118
      refine l_op (s_val rfl rfl (r_cmp (b := decide (k < list_n)) (.inr (.inr (.inl rfl))) rfl (F121.ev 1 rfl) (F121.ev 0 rfl) (dec_of (by omega))) fun a122 e122 => ?_)
      have F123 : Fr 47 [(24, .bool (decide (k < list_n))), (5, .int .i64 ((k : Nat) : Int)), (0, .slice list_a list_n list_c), (1, .string x)] a122 := F121.put [2, 3, 4] e122 rfl
      clear e122 F121 a120
      refine l_op (s_val rfl rfl (r_move rfl (F123.ev 0 rfl)) fun a124 e124 => ?_)
      rw [decide_eq_false h15] at e124
      have F125 : Fr 47 [(25, .bool false), (5, .int .i64 ((k : Nat) : Int)), (0, .slice list_a list_n list_c), (1, .string x)] a124 := F123.put [1, 2, 3] e124 rfl
      clear e124 F123 a122
      refine l_op (s_skip (wanted_g F125 0 rfl rfl rfl rfl) rfl fun a126 e126 => ?_)
      have F127 : Fr 47 [(26, undef), (25, .bool false), (5, .int .i64 ((k : Nat) : Int)), (0, .slice list_a list_n list_c), (1, .string x)] a126 := F125.put [0, 1, 2, 3] e126 rfl
      clear e126 F125 a124
      refine l_op (s_skip (wanted_g F127 1 rfl rfl rfl rfl) rfl fun a128 e128 => ?_)
      have F129 : Fr 47 [(27, undef), (26, undef), (25, .bool false), (5, .int .i64 ((k : Nat) : Int)), (0, .slice list_a list_n list_c), (1, .string x)] a128 := F127.put [0, 1, 2, 3, 4] e128 rfl
      clear e128 F127 a126
      refine l_op (s_skip (wanted_g F129 2 rfl rfl rfl rfl) rfl fun a130 e130 => ?_)
      have F131 : Fr 47 [(28, undef), (25, .bool false), (5, .int .i64 ((k : Nat) : Int)), (0, .slice list_a list_n list_c), (1, .string x)] a130 := F129.put [2, 3, 4, 5] e130 rfl
      clear e130 F129 a128
      refine l_op (s_skip (wanted_g F131 1 rfl rfl rfl rfl) rfl fun a132 e132 => ?_)
      have F133 : Fr 47 [(29, undef), (25, .bool false), (5, .int .i64 ((k : Nat) : Int)), (0, .slice list_a list_n list_c), (1, .string x)] a132 := F131.put [1, 2, 3, 4] e132 rfl
      clear e132 F131 a130
      refine l_op (s_skip (wanted_g F133 1 rfl rfl rfl rfl) rfl fun a134 e134 => ?_)
      have F135 : Fr 47 [(30, undef), (29, undef), (25, .bool false), (5, .int .i64 ((k : Nat) : Int)), (0, .slice list_a list_n list_c), (1, .string x)] a134 := F133.put [0, 1, 2, 3, 4] e134 rfl
      clear e134 F133 a132
      refine l_op (s_skip (wanted_g F135 2 rfl rfl rfl rfl) rfl fun a136 e136 => ?_)
      have F137 : Fr 47 [(31, undef), (25, .bool false), (5, .int .i64 ((k : Nat) : Int)), (0, .slice list_a list_n list_c), (1, .string x)] a136 := F135.put [2, 3, 4, 5] e136 rfl
      clear e136 F135 a134
      refine l_op (s_val rfl rfl (r_pick (b := false) rfl (F137.ev 1 rfl) rfl) fun a138 e138 => ?_)
      have F139 : Fr 47 [(32, .bool false), (5, .int .i64 ((k : Nat) : Int)), (0, .slice list_a list_n list_c), (1, .string x)] a138 := F137.put [2, 3, 4] e138 rfl
      clear e138 F137 a136
      refine s_end ?_
      refine x_normal ?_
      refine wp_cond_false (F139.ev 0 rfl) ?_
      refine wp_skip ?_
      refine x_normal ?_
      refine wp_seq ?_
      refine wp_region_lit ?_
      refine l_op (s_buildSl (ok := okS) (vs := []) S5.at' (([] : List ByteArray)) ET_22 rfl rfl rfl rfl rfl rfl rfl (rowsOk rfl) (by simp) fun b140 a140 w140 e140 S140i => ?_)
      have S140 : Mv [] w5 [ow 9 1 encS okS (.slice (some ⟨b140, 0, none⟩) 0 0) ([] : List ByteArray)] w140 := S140i
      clear S140i
      have F141 : Fr 47 [(34, .slice (some ⟨b140, 0, none⟩) 0 0), (5, .int .i64 ((k : Nat) : Int)), (0, .slice list_a list_n list_c), (1, .string x)] a140 := F139.put [1, 2, 3] e140 rfl
      clear e140 F139 a138
      refine l_op (s_val rfl rfl (r_move rfl (F141.ev 2 rfl)) fun a142 e142 => ?_)
      have F143 : Fr 47 [(35, .slice list_a list_n list_c), (34, .slice (some ⟨b140, 0, none⟩) 0 0), (5, .int .i64 ((k : Nat) : Int)), (0, .slice list_a list_n list_c), (1, .string x)] a142 := F141.put [0, 1, 2, 3] e142 rfl
      clear e142 F141 a140
      refine l_op (s_val rfl rfl (r_move rfl (F143.ev 2 rfl)) fun a144 e144 => ?_)
      have F145 : Fr 47 [(36, .int .i64 ((k : Nat) : Int)), (35, .slice list_a list_n list_c), (34, .slice (some ⟨b140, 0, none⟩) 0 0), (5, .int .i64 ((k : Nat) : Int)), (0, .slice list_a list_n list_c), (1, .string x)] a144 := F143.put [0, 1, 2, 3, 4] e144 rfl
      clear e144 F143 a142
      refine l_op (s_sliceR 0 k (Rd.mv (Nat.succ_pos _) V_v_list (S5.trans S140)) ET_22 rfl rfl rfl (F145.ev 1 rfl) rfl (F145.ev 0 rfl) (by first | assumption | omega) (by first | assumption | omega) fun A146 C146 a146 e146 V146i => ?_)
      have V146 : Rd 1 encS okS (V H w [ow 9 1 encS okS (.slice (some ⟨b140, 0, none⟩) 0 0) ([] : List ByteArray)]) w140 (.slice A146 (k - 0) C146) (list.take k) := V146i
      clear V146i
      have F147 : Fr 47 [(37, .slice A146 (k - 0) C146), (34, .slice (some ⟨b140, 0, none⟩) 0 0), (5, .int .i64 ((k : Nat) : Int)), (0, .slice list_a list_n list_c), (1, .string x)] a146 := F145.put [2, 3, 4, 5] e146 rfl
      clear e146 F145 a144
      refine l_op (s_app (news := list.take k) S140.at' 0 ET_22 rfl rfl rfl rfl rfl (F147.ev 1 rfl) (F147.ev 0 rfl) (V146).1 (by simp only [List.length_append, List.length_cons, List.length_nil, List.length_take, List.length_drop]; omega) fun A148 N148 C148 a148 w148 e148 S148i l148 => ?_)
      have S148 : Mv [ow 9 1 encS okS (.slice (some ⟨b140, 0, none⟩) 0 0) ([] : List ByteArray)] w140 [ow 9 1 encS okS (.slice A148 N148 C148) (([] : List ByteArray) ++ (list.take k))] w148 := S148i
      clear S148i
      have F149 : Fr 47 [(38, .slice A148 N148 C148), (5, .int .i64 ((k : Nat) : Int)), (0, .slice list_a list_n list_c), (1, .string x)] a148 := F147.put [2, 3, 4] e148 rfl
      clear e148 F147 a146
      refine l_op (s_val rfl rfl (r_move rfl (F149.ev 3 rfl)) fun a150 e150 => ?_)
      have F151 : Fr 47 [(39, .string x), (38, .slice A148 N148 C148), (5, .int .i64 ((k : Nat) : Int)), (0, .slice list_a list_n list_c)] a150 := F149.put [0, 1, 2] e150 rfl
      clear e150 F149 a148
      refine l_op (s_buildSl (ok := okS) (vs := [.string x]) S148.at' ([x]) ET_22 rfl rfl rfl rfl rfl (lc (pr2 (F151.ev 0 rfl)) rfl) rfl (rowsOk rfl) (fun x hx => (List.mem_singleton.1 hx) ▸ h_x) fun b152 a152 w152 e152 S152i => ?_)
      have S152 : Mv [ow 9 1 encS okS (.slice A148 N148 C148) (([] : List ByteArray) ++ (list.take k))] w148 [ow 9 1 encS okS (.slice (some ⟨b152, 0, none⟩) 1 1) ([x]), ow 9 1 encS okS (.slice A148 N148 C148) (([] : List ByteArray) ++ (list.take k))] w152 := S152i
      clear S152i
      have F153 : Fr 47 [(40, .slice (some ⟨b152, 0, none⟩) 1 1), (38, .slice A148 N148 C148), (5, .int .i64 ((k : Nat) : Int)), (0, .slice list_a list_n list_c)] a152 := F151.put [1, 2, 3] e152 rfl
      clear e152 F151 a150
      refine l_op (s_app (news := [x]) S152.at' 1 ET_22 rfl rfl rfl rfl rfl (F153.ev 1 rfl) (F153.ev 0 rfl) ((At.rd S152.at' ET_22.hk 0 rfl)).1 (by simp only [List.length_append, List.length_cons, List.length_nil, List.length_take, List.length_drop]; omega) fun A154 N154 C154 a154 w154 e154 S154i l154 => ?_)
      have S154 : Mv [ow 9 1 encS okS (.slice (some ⟨b152, 0, none⟩) 1 1) ([x]), ow 9 1 encS okS (.slice A148 N148 C148) (([] : List ByteArray) ++ (list.take k))] w152 [ow 9 1 encS okS (.slice A154 N154 C154) ((([] : List ByteArray) ++ (list.take k)) ++ ([x])), ow 9 1 encS okS (.slice (some ⟨b152, 0, none⟩) 1 1) ([x])] w154 := S154i
      clear S154i
      have S155 : Mv [ow 9 1 encS okS (.slice A154 N154 C154) ((([] : List ByteArray) ++ (list.take k)) ++ ([x])), ow 9 1 encS okS (.slice (some ⟨b152, 0, none⟩) 1 1) ([x])] w154 [ow 9 1 encS okS (.slice A154 N154 C154) ((([] : List ByteArray) ++ (list.take k)) ++ ([x]))] w154 := At.drop S154.at' 1
      have F156 : Fr 47 [(41, .slice A154 N154 C154), (5, .int .i64 ((k : Nat) : Int)), (0, .slice list_a list_n list_c)] a154 := F153.put [2, 3] e154 rfl
      clear e154 F153 a152
      refine l_op (s_val rfl rfl (r_assign rfl (F156.ev 0 rfl)) fun a157 e157 => ?_)
      have F158 : Fr 47 [(6, .slice A154 N154 C154), (5, .int .i64 ((k : Nat) : Int)), (0, .slice list_a list_n list_c)] a157 := F156.put [1, 2] e157 rfl
      clear e157 F156 a154
      refine s_end ?_
      refine x_normal ?_
      refine wp_seq ?_
      refine wp_region_lit ?_
      refine l_op (s_val rfl rfl (r_move rfl (F158.ev 0 rfl)) fun a159 e159 => ?_)
      have F160 : Fr 47 [(42, .slice A154 N154 C154), (5, .int .i64 ((k : Nat) : Int)), (0, .slice list_a list_n list_c)] a159 := F158.put [1, 2] e159 rfl
      clear e159 F158 a157
      refine l_op (s_val rfl rfl (r_move rfl (F160.ev 2 rfl)) fun a161 e161 => ?_)
      have F162 : Fr 47 [(43, .slice list_a list_n list_c), (42, .slice A154 N154 C154), (5, .int .i64 ((k : Nat) : Int))] a161 := F160.put [0, 1] e161 rfl
      clear e161 F160 a159
      refine l_op (s_val rfl rfl (r_move rfl (F162.ev 2 rfl)) fun a163 e163 => ?_)
      have F164 : Fr 47 [(44, .int .i64 ((k : Nat) : Int)), (43, .slice list_a list_n list_c), (42, .slice A154 N154 C154)] a163 := F162.put [0, 1] e163 rfl
      clear e163 F162 a161
      refine l_op (s_sliceR k list_n (Rd.mv (Nat.succ_pos _) V_v_list (S5.trans (S140.trans (S148.trans (S152.trans (S154.trans S155)))))) ET_22 rfl rfl rfl (F164.ev 1 rfl) (F164.ev 0 rfl) rfl (by first | assumption | omega) (by first | assumption | omega) fun A165 C165 a165 e165 V165i => ?_)
      have V165 : Rd 1 encS okS (V H w [ow 9 1 encS okS (.slice A154 N154 C154) ((([] : List ByteArray) ++ (list.take k)) ++ ([x]))]) w154 (.slice A165 (list_n - k) C165) (list.drop k) := Rd.cast V165i (show (list.take list_n).drop k = list.drop k from by rw [List.take_of_length_le (by omega)])
      clear V165i
      have F166 : Fr 47 [(45, .slice A165 (list_n - k) C165), (42, .slice A154 N154 C154)] a165 := F164.put [2] e165 rfl
      clear e165 F164 a163
      refine l_op (s_app (news := list.drop k) S155.at' 0 ET_22 rfl rfl rfl rfl rfl (F166.ev 1 rfl) (F166.ev 0 rfl) (V165).1 (by simp only [List.length_append, List.length_cons, List.length_nil, List.length_take, List.length_drop]; omega) fun A167 N167 C167 a167 w167 e167 S167i l167 => ?_)
      have S167 : Mv [ow 9 1 encS okS (.slice A154 N154 C154) ((([] : List ByteArray) ++ (list.take k)) ++ ([x]))] w154 [ow 9 1 encS okS (.slice A167 N167 C167) (((([] : List ByteArray) ++ (list.take k)) ++ ([x])) ++ (list.drop k))] w167 := S167i
      clear S167i
      have F168 : Fr 47 [(46, .slice A167 N167 C167)] a167 := F166.put [] e167 rfl
      clear e167 F166 a165
      refine l_op (s_val rfl rfl (r_assign rfl (F168.ev 0 rfl)) fun a169 e169 => ?_)
      have F170 : Fr 47 [(4, .slice A167 N167 C167)] a169 := F168.put [] e169 rfl
      clear e169 F168 a167
      refine s_end ?_
      refine x_normal ?_
      refine wp_ret ?_
      have Z171 : Rd 1 encS okS (V H w []) w167 (.slice A167 N167 C167) (((([] : List ByteArray) ++ (list.take k)) ++ ([x])) ++ (list.drop k)) := At.freeze (S5.trans (S140.trans (S148.trans (S152.trans (S154.trans (S155.trans S167)))))) ET_22.hk 0 rfl (fun b hb => ((S5.trans (S140.trans (S148.trans (S152.trans (S154.trans (S155.trans S167)))))).fresh b ⟨_, nth_mem (i := 0) rfl, hb⟩).resolve_left (fps_nil _))
      have S171 : Mv [ow 9 1 encS okS (.slice A167 N167 C167) (((([] : List ByteArray) ++ (list.take k)) ++ ([x])) ++ (list.drop k))] w167 [] w167 := At.drop S167.at' 0
      refine x_done (v := .slice A167 N167 C167) F170 (results_1 Try.results82 (.tmp (F170.ev 0 rfl))) ?_
      exact ⟨A167, N167, C167, rfl, (Mv.pick (S5.trans (S140.trans (S148.trans (S152.trans (S154.trans (S155.trans (S167.trans S171))))))) [] rfl), (Rd.cast (Rd.give Z171) (show (((([] : List ByteArray) ++ (list.take k)) ++ ([x])) ++ (list.drop k)) = (putL list x) from by rw [putL_ins (k := k) (by omega) hk_1 (fun y hy => absurd (nth_lt hy) (by omega))]; simp))⟩
theorem spec_AddSpan_c {w : World} {H : Nat → Prop} {list : List ByteArray} {list_a : Option Addr} {list_n list_c : Nat} {span : ByteArray} (v_list : Rd 1 encS okS H w (.slice list_a list_n list_c) list) (h_span : okS span) (p0 : list_n ≤ 549755813888) :
    Calls Try.prog 32 #[.slice list_a list_n list_c, .string span] w fun e w' => ∃ (r0_a : Option Addr), ∃ (r0_n : Nat), ∃ (r0_c : Nat), e = .returned (.slice r0_a r0_n r0_c) ∧ Mv [] w [] w' ∧ Rd 1 encS okS (Fsh H w) w' (.slice r0_a r0_n r0_c) (putL list span) := by
  have V_v_list : Rd 1 encS okS (V H w []) w (.slice list_a list_n list_c) list := Rd.start v_list (fun _ _ => fps_nil _)
  obtain ⟨ln_list, le_list, mx_list, ni_list⟩ := Rd.inv v_list
  refine calls_enter 10 Try.func32 rfl Try.ntmps32 (Nat.le_of_ble_eq_true rfl) (fun a0 F0i => ?_)
  have F0 : Fr 10 [(0, .slice list_a list_n list_c), (1, .string span)] a0 := F0i
  clear F0i
  refine wp_seq ?_
  refine wp_region_lit ?_
  refine l_op (s_val rfl rfl (r_assign rfl rfl) fun a1 e1 => ?_)
  have F2 : Fr 10 [(4, .slice none 0 0), (0, .slice list_a list_n list_c), (1, .string span)] a1 := F0.put [0, 1] e1 rfl
  clear e1 F0 a0
  refine s_end ?_
  refine x_normal ?_
  refine wp_seq ?_
  refine wp_region_lit ?_
  refine l_op (s_buildSl (ok := okS) (vs := []) (At.nil w) (([] : List ByteArray)) ET_22 rfl rfl rfl rfl rfl rfl rfl (rowsOk rfl) (by simp) fun b3 a3 w3 e3 S3i => ?_)
  have S3 : Mv [] w [ow 9 1 encS okS (.slice (some ⟨b3, 0, none⟩) 0 0) ([] : List ByteArray)] w3 := S3i
  clear S3i
  have F4 : Fr 10 [(5, .slice (some ⟨b3, 0, none⟩) 0 0), (4, .slice none 0 0), (0, .slice list_a list_n list_c), (1, .string span)] a3 := F2.put [0, 1, 2] e3 rfl
  clear e3 F2 a1
  refine l_op (s_val rfl rfl (r_move rfl (F4.ev 2 rfl)) fun a5 e5 => ?_)
  have F6 : Fr 10 [(6, .slice list_a list_n list_c), (5, .slice (some ⟨b3, 0, none⟩) 0 0), (4, .slice none 0 0), (1, .string span)] a5 := F4.put [0, 1, 3] e5 rfl
  clear e5 F4 a3
  refine l_op (s_val rfl rfl (r_move rfl (F6.ev 3 rfl)) fun a7 e7 => ?_)
  have F8 : Fr 10 [(7, .string span), (6, .slice list_a list_n list_c), (5, .slice (some ⟨b3, 0, none⟩) 0 0), (4, .slice none 0 0)] a7 := F6.put [0, 1, 2] e7 rfl
  clear e7 F6 a5
  refine l_op (c_call CF_82 rfl rfl rfl (lc (F8.ev 1 rfl) (lc (F8.ev 0 rfl) rfl)) (spec_l02Put_c (H := V H w [ow 9 1 encS okS (.slice (some ⟨b3, 0, none⟩) 0 0) ([] : List ByteArray)]) (list := list) (x := span) (Rd.mv (Nat.succ_pos _) V_v_list S3) h_span (show list_n ≤ 549755813888 from by first | assumption | omega | (simp; done) | (simp; omega))) ?_)
  rintro _ w9 ⟨r0_a_9, r0_n_9, r0_c_9, rfl, m9, v9_0⟩
  refine ⟨_, rfl, fun a9 e9 => ?_⟩
  have S9 : Mv [ow 9 1 encS okS (.slice (some ⟨b3, 0, none⟩) 0 0) ([] : List ByteArray)] w3 [ow 9 1 encS okS (.slice (some ⟨b3, 0, none⟩) 0 0) ([] : List ByteArray)] w9 := At.frame S3.at' [] rfl m9
  clear m9
  have V9_0 : Rd 1 encS okS (V H w [ow 9 1 encS okS (.slice (some ⟨b3, 0, none⟩) 0 0) ([] : List ByteArray)]) w9 (.slice r0_a_9 r0_n_9 r0_c_9) (putL list span) := Rd.got0 S3.at' (S3.kp.size) v9_0 S9
  clear v9_0
  obtain ⟨ln9_0, le9_0, mx9_0, ni9_0⟩ := Rd.inv V9_0
  have F10 : Fr 10 [(8, .slice r0_a_9 r0_n_9 r0_c_9), (5, .slice (some ⟨b3, 0, none⟩) 0 0), (4, .slice none 0 0)] a9 := F8.put [2, 3] e9 rfl
  clear e9 F8 a7
  refine l_op (s_app (news := putL list span) S9.at' 0 ET_22 rfl rfl rfl rfl rfl (F10.ev 1 rfl) (F10.ev 0 rfl) (V9_0).1 (by have := putL_length list span; simp only [List.length_nil]; omega) fun A11 N11 C11 a11 w11 e11 S11i l11 => ?_)
  have S11 : Mv [ow 9 1 encS okS (.slice (some ⟨b3, 0, none⟩) 0 0) ([] : List ByteArray)] w9 [ow 9 1 encS okS (.slice A11 N11 C11) (([] : List ByteArray) ++ (putL list span))] w11 := S11i
  clear S11i
  have F12 : Fr 10 [(9, .slice A11 N11 C11), (4, .slice none 0 0)] a11 := F10.put [2] e11 rfl
  clear e11 F10 a9
  refine l_op (s_val rfl rfl (r_assign rfl (F12.ev 0 rfl)) fun a13 e13 => ?_)
  have F14 : Fr 10 [(4, .slice A11 N11 C11)] a13 := F12.put [] e13 rfl
  clear e13 F12 a11
  refine s_end ?_
  refine x_normal ?_
  refine wp_ret ?_
  have Z15 : Rd 1 encS okS (V H w []) w11 (.slice A11 N11 C11) (([] : List ByteArray) ++ (putL list span)) := At.freeze (S3.trans (S9.trans S11)) ET_22.hk 0 rfl (fun b hb => ((S3.trans (S9.trans S11)).fresh b ⟨_, nth_mem (i := 0) rfl, hb⟩).resolve_left (fps_nil _))
  have S15 : Mv [ow 9 1 encS okS (.slice A11 N11 C11) (([] : List ByteArray) ++ (putL list span))] w11 [] w11 := At.drop S11.at' 0
  refine x_done (v := .slice A11 N11 C11) F14 (results_1 Try.results32 (.tmp (F14.ev 0 rfl))) ?_
  exact ⟨A11, N11, C11, rfl, (Mv.pick (S3.trans (S9.trans (S11.trans S15))) [] rfl), (Rd.cast (Rd.give Z15) (show (([] : List ByteArray) ++ (putL list span)) = (putL list span) from by simp))⟩
end Go.Proofs.Ytbbkihijhdpliaa
