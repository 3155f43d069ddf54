/-
  Walks: the program's machines are looked at.
-/
import Derived.Test.YtbbkihijhdpliaaGenD
namespace Go.Proofs.Ytbbkihijhdpliaa
open Go.ChangeShapes Go.WideShapes Go.ChangeAt Go.RowKit
set_option maxRecDepth 100000
set_option maxHeartbeats 1000000
theorem impl_cellAt_1_c {w : World} {H : Nat → Prop} {c : CellD} {key_b : Nat} {key : ByteArray} (h_c_key : okS c.key) (h_c_val : okS c.val) (h_key : okS key) (hA : At w [bx key_b [.string key] 9]) :
    Calls Try.prog 155 #[.agg #[.string c.key, .string c.val], .pointer (some ⟨key_b, 0, none⟩)] w fun e w' => e = .returned (.bool (decide (c.key = key))) ∧ Mv [bx key_b [.string key] 9] w [bx key_b [.string key] 9] w' := by
  refine calls_enter 8 Try.func155 rfl Try.ntmps155 (Nat.le_of_ble_eq_true rfl) (fun a0 F0i => ?_)
  have F0 : Fr 8 [(0, .agg #[.string c.key, .string c.val]), (1, .pointer (some ⟨key_b, 0, none⟩))] a0 := F0i
  clear F0i
  refine wp_seq ?_
  refine wp_region_lit ?_
  refine l_op (s_box hA rfl rfl rfl (F0.ev 0 rfl) rfl fun b1 a1 w1 e1 S1i => ?_)
  have S1 : Mv [bx key_b [.string key] 9] w [bx b1 [.string c.key, .string c.val] 98, bx key_b [.string key] 9] w1 := S1i
  clear S1i
  have F2 : Fr 8 [(2, .pointer (some ⟨b1, 0, none⟩)), (1, .pointer (some ⟨key_b, 0, none⟩))] a1 := F0.put [1] e1 rfl
  clear e1 F0 a0
  refine l_op (s_val rfl rfl (r_assign rfl rfl) fun a3 e3 => ?_)
  have F4 : Fr 8 [(3, .bool false), (2, .pointer (some ⟨b1, 0, none⟩)), (1, .pointer (some ⟨key_b, 0, none⟩))] a3 := F2.put [0, 1] e3 rfl
  clear e3 F2 a1
  refine s_end ?_
  refine x_normal ?_
  refine wp_seq ?_
  refine wp_region_lit ?_
  refine l_op (s_val rfl rfl (r_field FI_98_0 rfl (F4.ev 1 rfl) rfl) fun a5 e5 => ?_)
  have F6 : Fr 8 [(4, .pointer (some ⟨b1, 0, none⟩)), (3, .bool false), (1, .pointer (some ⟨key_b, 0, none⟩))] a5 := F4.put [0, 2] e5 rfl
  clear e5 F4 a3
  refine l_op (s_val rfl rfl (r_loadB S1.at' 0 TI_9 rfl rfl (F6.ev 0 rfl) rfl rfl (fun _ => rfl) rfl) fun a7 e7 => ?_)
  have F8 : Fr 8 [(5, .string c.key), (3, .bool false), (1, .pointer (some ⟨key_b, 0, none⟩))] a7 := F6.put [1, 2] e7 rfl
  clear e7 F6 a5
  refine l_op (s_val rfl rfl (r_loadB S1.at' 1 TI_9 rfl rfl (F8.ev 2 rfl) rfl rfl (fun _ => rfl) rfl) fun a9 e9 => ?_)
  have F10 : Fr 8 [(6, .string key), (5, .string c.key), (3, .bool false)] a9 := F8.put [0, 1] e9 rfl
  clear e9 F8 a7
  refine l_op (s_val rfl rfl (r_cmps (b := (decide (c.key = key))) (.inl rfl) rfl (F10.ev 1 rfl) (F10.ev 0 rfl) rfl) fun a11 e11 => ?_)
  have F12 : Fr 8 [(7, .bool (decide (c.key = key))), (3, .bool false)] a11 := F10.put [2] e11 rfl
  clear e11 F10 a9
  refine l_op (s_val rfl rfl (r_assign rfl (F12.ev 0 rfl)) fun a13 e13 => ?_)
  have F14 : Fr 8 [(3, .bool (decide (c.key = key)))] a13 := F12.put [] e13 rfl
  clear e13 F12 a11
  refine s_end ?_
  refine x_normal ?_
  refine wp_ret ?_
  refine x_done (v := .bool (decide (c.key = key))) F14 (results_1 Try.results155 (.tmp (F14.ev 0 rfl))) ?_
  exact ⟨rfl, (Mv.pick S1 [1] rfl)⟩
theorem IndexFunc_impl_cellAt_1_c {w : World} {H : Nat → Prop} {s : List CellD} {s_a : Option Addr} {s_n s_c : Nat} {f_b : Nat} {f : ByteArray} (v_s : Rd 2 encC okC H w (.slice s_a s_n s_c) s) (h_f : okS f) (hA : At w [bx f_b [.string f] 9]) (hD : ∀ b, H b → ¬ fps [bx f_b [.string f] 9] b) :
    Calls Try.prog 150 #[.slice s_a s_n s_c, .func (.func 155) #[] #[.pointer (some ⟨f_b, 0, none⟩)]] w fun e w' => e = .returned (.int .i64 (idxP (fun c : CellD => decide (c.key = f)) s)) ∧ Mv [bx f_b [.string f] 9] w [bx f_b [.string f] 9] w' ∧ i64ok (idxP (fun c : CellD => decide (c.key = f)) s) := by
  have V_v_s : Rd 2 encC okC (V H w [bx f_b [.string f] 9]) w (.slice s_a s_n s_c) s := Rd.start v_s hD
  obtain ⟨ln_s, le_s, mx_s, ni_s⟩ := Rd.inv v_s
  refine calls_enter 19 Try.func150 rfl Try.ntmps150 (Nat.le_of_ble_eq_true rfl) (fun a0 F0i => ?_)
  have F0 : Fr 19 [(0, .slice s_a s_n s_c), (1, .func (.func 155) #[] #[.pointer (some ⟨f_b, 0, none⟩)])] a0 := F0i
  clear F0i
  refine wp_seq ?_
  refine wp_region_lit ?_
  refine l_op (s_val rfl rfl (r_assign rfl rfl) fun a1 e1 => ?_)
  have F2 : Fr 19 [(4, .int .i64 0), (0, .slice s_a s_n s_c), (1, .func (.func 155) #[] #[.pointer (some ⟨f_b, 0, none⟩)])] a1 := F0.put [0, 1] e1 rfl
  clear e1 F0 a0
  refine s_end ?_
  refine x_normal ?_
  refine wp_seq ?_
  refine wp_seq ?_
  refine wp_region_lit ?_
  refine l_op (s_val rfl rfl (r_move rfl (F2.ev 1 rfl)) fun a3 e3 => ?_)
  have F4 : Fr 19 [(6, .slice s_a s_n s_c), (0, .slice s_a s_n s_c), (1, .func (.func 155) #[] #[.pointer (some ⟨f_b, 0, none⟩)])] a3 := F2.put [1, 2] e3 rfl
  clear e3 F2 a1
  refine l_op (s_val rfl rfl (r_len Try.underlying46 rfl (F4.ev 0 rfl)) fun a5 e5 => ?_)
  have F6 : Fr 19 [(7, .int .i64 ((s_n : Nat) : Int)), (0, .slice s_a s_n s_c), (1, .func (.func 155) #[] #[.pointer (some ⟨f_b, 0, none⟩)])] a5 := F4.put [1, 2] e5 rfl
  clear e5 F4 a3
  refine l_op (s_val rfl rfl (r_move rfl rfl) fun a7 e7 => ?_)
  have F8 : Fr 19 [(8, .int .i64 0), (7, .int .i64 ((s_n : Nat) : Int)), (0, .slice s_a s_n s_c), (1, .func (.func 155) #[] #[.pointer (some ⟨f_b, 0, none⟩)])] a7 := F6.put [0, 1, 2] e7 rfl
  clear e7 F6 a5
  refine s_end ?_
  refine x_normal ?_
  refine wp_block ?_
  refine x_loop (fun (k : Nat) aZ wZ => Fr 19 [(8, .int .i64 ((k : Nat) : Int)), (7, .int .i64 ((s_n : Nat) : Int)), (0, .slice s_a s_n s_c), (1, .func (.func 155) #[] #[.pointer (some ⟨f_b, 0, none⟩)])] aZ ∧ Mv [bx f_b [.string f] 9] w [bx f_b [.string f] 9] wZ ∧ (k ≤ s_n) ∧ (∀ j, j < k → ∀ c, nth s j = some c → (decide (c.key = f)) = false)) (fun (k : Nat) => s_n - k) (0) ?_ ?_
  · exact ⟨F8.keep [0, 1, 2, 3], (Mv.refl hA), by omega, all_none⟩
  · rintro k a9 w9 ⟨F9, S9, hk_0, hk_1⟩
    refine wp_seq ?_
    refine wp_region_lit ?_
    refine l_op (s_val rfl rfl (r_cmp (b := decide (k < s_n)) (.inr (.inr (.inl rfl))) rfl (F9.ev 0 rfl) (F9.ev 1 rfl) (dec_of (by omega))) fun a10 e10 => ?_)
    have F11 : Fr 19 [(9, .bool (decide (k < s_n))), (8, .int .i64 ((k : Nat) : Int)), (7, .int .i64 ((s_n : Nat) : Int)), (0, .slice s_a s_n s_c), (1, .func (.func 155) #[] #[.pointer (some ⟨f_b, 0, none⟩)])] a10 := F9.put [0, 1, 2, 3] e10 rfl
    clear e10 F9 a9
    refine s_end ?_
    refine x_normal ?_
    refine wp_seq ?_
    refine x_cond (p := k < s_n) (F11.ev 0 rfl) (fun h12 => ?_) (fun h12 => ?_)
    · skip
      refine wp_skip ?_
      refine x_normal ?_
      refine wp_seq ?_
      refine wp_block ?_
      refine wp_seq ?_
      refine wp_region_lit ?_
      refine l_op (s_val rfl rfl (r_move rfl (F11.ev 1 rfl)) fun a13 e13 => ?_)
      have F14 : Fr 19 [(10, .int .i64 ((k : Nat) : Int)), (8, .int .i64 ((k : Nat) : Int)), (7, .int .i64 ((s_n : Nat) : Int)), (0, .slice s_a s_n s_c), (1, .func (.func 155) #[] #[.pointer (some ⟨f_b, 0, none⟩)])] a13 := F11.put [1, 2, 3, 4] e13 rfl
      clear e13 F11 a10
      refine l_op (s_val rfl rfl (r_assign rfl (F14.ev 0 rfl)) fun a15 e15 => ?_)
      have F16 : Fr 19 [(5, .int .i64 ((k : Nat) : Int)), (8, .int .i64 ((k : Nat) : Int)), (7, .int .i64 ((s_n : Nat) : Int)), (0, .slice s_a s_n s_c), (1, .func (.func 155) #[] #[.pointer (some ⟨f_b, 0, none⟩)])] a15 := F14.put [1, 2, 3, 4] e15 rfl
      clear e15 F14 a13
      refine s_end ?_
      refine x_normal ?_
      refine wp_seq ?_
      refine wp_region_lit ?_
      refine l_op (s_val rfl rfl (r_move rfl (F16.ev 4 rfl)) fun a17 e17 => ?_)
      have F18 : Fr 19 [(11, .func (.func 155) #[] #[.pointer (some ⟨f_b, 0, none⟩)]), (5, .int .i64 ((k : Nat) : Int)), (8, .int .i64 ((k : Nat) : Int)), (7, .int .i64 ((s_n : Nat) : Int)), (0, .slice s_a s_n s_c), (1, .func (.func 155) #[] #[.pointer (some ⟨f_b, 0, none⟩)])] a17 := F16.put [0, 1, 2, 3, 4] e17 rfl
      clear e17 F16 a15
      refine l_op (s_val rfl rfl (r_move rfl (F18.ev 4 rfl)) fun a19 e19 => ?_)
      have F20 : Fr 19 [(12, .slice s_a s_n s_c), (11, .func (.func 155) #[] #[.pointer (some ⟨f_b, 0, none⟩)]), (5, .int .i64 ((k : Nat) : Int)), (8, .int .i64 ((k : Nat) : Int)), (7, .int .i64 ((s_n : Nat) : Int)), (0, .slice s_a s_n s_c), (1, .func (.func 155) #[] #[.pointer (some ⟨f_b, 0, none⟩)])] a19 := F18.put [0, 1, 2, 3, 4, 5] e19 rfl
      clear e19 F18 a17
      refine l_op (s_val rfl rfl (r_move rfl (F20.ev 2 rfl)) fun a21 e21 => ?_)
      have F22 : Fr 19 [(13, .int .i64 ((k : Nat) : Int)), (12, .slice s_a s_n s_c), (11, .func (.func 155) #[] #[.pointer (some ⟨f_b, 0, none⟩)]), (5, .int .i64 ((k : Nat) : Int)), (8, .int .i64 ((k : Nat) : Int)), (7, .int .i64 ((s_n : Nat) : Int)), (0, .slice s_a s_n s_c), (1, .func (.func 155) #[] #[.pointer (some ⟨f_b, 0, none⟩)])] a21 := F20.put [0, 1, 2, 3, 4, 5, 6] e21 rfl
      clear e21 F20 a19
      obtain ⟨B23, O23, x1, ad23, hx1, okx1, ln23, cl23⟩ := Rd.at (Rd.mv (Nat.succ_pos _) V_v_s S9) k (by first | assumption | omega)
      clear ln23
      refine l_op (s_val rfl rfl (r_indexAddr (i := k) ET_46 rfl ((F22.ev 1 rfl).trans (by rw [ad23])) (F22.ev 0 rfl) (by omega) (by first | assumption | omega)) fun a24 e24 => ?_)
      have F25 : Fr 19 [(14, .pointer (some ⟨B23, O23 + k * 2, none⟩)), (11, .func (.func 155) #[] #[.pointer (some ⟨f_b, 0, none⟩)]), (5, .int .i64 ((k : Nat) : Int)), (8, .int .i64 ((k : Nat) : Int)), (7, .int .i64 ((s_n : Nat) : Int)), (0, .slice s_a s_n s_c), (1, .func (.func 155) #[] #[.pointer (some ⟨f_b, 0, none⟩)])] a24 := F22.put [2, 3, 4, 5, 6, 7] e24 rfl
      clear e24 F22 a21
      refine l_op (s_val rfl rfl (r_load (cs := [.string x1.key, .string x1.val]) TI_98 rfl (F25.ev 0 rfl) rfl (fun h => nomatch h) (elem_sub (f := 0) cl23 [.string x1.key, .string x1.val] rfl)) fun a26 e26 => ?_)
      have F27 : Fr 19 [(15, .agg #[.string x1.key, .string x1.val]), (11, .func (.func 155) #[] #[.pointer (some ⟨f_b, 0, none⟩)]), (5, .int .i64 ((k : Nat) : Int)), (8, .int .i64 ((k : Nat) : Int)), (7, .int .i64 ((s_n : Nat) : Int)), (0, .slice s_a s_n s_c), (1, .func (.func 155) #[] #[.pointer (some ⟨f_b, 0, none⟩)])] a26 := F25.put [1, 2, 3, 4, 5, 6] e26 rfl
      clear e26 F25 a24
      refine l_op (c_callv CF_155 rfl rfl rfl (F27.ev 1 rfl) (lc (F27.ev 0 rfl) rfl) (impl_cellAt_1_c (H := fun _ => True) (c := x1) (key := f) okx1.1 okx1.2 h_f (At.pick (is := [0]) S9.at' rfl)) ?_)
      rintro _ w28 ⟨rfl, m28⟩
      refine ⟨_, rfl, fun a28 e28 => ?_⟩
      have S28 : Mv [bx f_b [.string f] 9] w9 [bx f_b [.string f] 9] w28 := At.frame S9.at' [0] rfl m28
      clear m28
      have F29 : Fr 19 [(16, .bool (decide (x1.key = f))), (5, .int .i64 ((k : Nat) : Int)), (8, .int .i64 ((k : Nat) : Int)), (7, .int .i64 ((s_n : Nat) : Int)), (0, .slice s_a s_n s_c), (1, .func (.func 155) #[] #[.pointer (some ⟨f_b, 0, none⟩)])] a28 := F27.put [2, 3, 4, 5, 6] e28 rfl
      clear e28 F27 a26
      refine s_end ?_
      refine x_normal ?_
      refine x_condb (b := (decide (x1.key = f))) (F29.ev 0 rfl) (fun h30 => ?_) (fun h30 => ?_)
      · skip
        refine wp_seq ?_
        refine wp_region_lit ?_
        refine l_op (s_val rfl rfl (r_move rfl (F29.ev 1 rfl)) fun a31 e31 => ?_)
        have F32 : Fr 19 [(17, .int .i64 ((k : Nat) : Int))] a31 := F29.put [] e31 rfl
        clear e31 F29 a28
        refine l_op (s_val rfl rfl (r_assign rfl (F32.ev 0 rfl)) fun a33 e33 => ?_)
        have F34 : Fr 19 [(4, .int .i64 ((k : Nat) : Int))] a33 := F32.put [] e33 rfl
        clear e33 F32 a31
        refine s_end ?_
        refine x_normal ?_
        refine wp_ret ?_
        refine x_block_ret ?_
        refine x_then_ret ?_
        refine x_then_ret ?_
        refine x_block_ret ?_
        refine x_then_ret ?_
        refine x_done (v := .int .i64 ((k : Nat) : Int)) F34 (results_1 Try.results150 (.tmp (F34.ev 0 rfl))) ?_
        exact ⟨(by rw [(show ((k : Nat) : Int) = (idxP (fun c : CellD => decide (c.key = f)) s) from by exact (idxP_found _ s k _ (by rw [← nth_eq]; exact hx1) (by first | assumption | exact decide_eq_true (by assumption)) (fun q hq y hy => hk_1 q hq y (by rw [nth_eq]; exact hy))).symm)]), (Mv.pick (S9.trans S28) [0] rfl), idxP_ok _ s (by omega)⟩
      · skip
        refine wp_skip ?_
        refine x_block_normal ?_
        refine x_normal ?_
        refine wp_region_lit ?_
        refine l_op (s_val rfl rfl (r_add (z := ((k + 1 : Nat) : Int)) rfl (F29.ev 2 rfl) rfl (by first | rfl | omega) ⟨by first | omega | (unfold i64ok at *; omega), by first | omega | (unfold i64ok at *; omega)⟩) fun a35 e35 => ?_)
        have F36 : Fr 19 [(18, .int .i64 ((k + 1 : Nat) : Int)), (8, .int .i64 ((k : Nat) : Int)), (7, .int .i64 ((s_n : Nat) : Int)), (0, .slice s_a s_n s_c), (1, .func (.func 155) #[] #[.pointer (some ⟨f_b, 0, none⟩)])] a35 := F29.put [2, 3, 4, 5] e35 rfl
        clear e35 F29 a28
        refine l_op (s_val rfl rfl (r_move rfl (F36.ev 0 rfl)) fun a37 e37 => ?_)
        have F38 : Fr 19 [(8, .int .i64 ((k + 1 : Nat) : Int)), (7, .int .i64 ((s_n : Nat) : Int)), (0, .slice s_a s_n s_c), (1, .func (.func 155) #[] #[.pointer (some ⟨f_b, 0, none⟩)])] a37 := F36.put [2, 3, 4] e37 rfl
        clear e37 F36 a35
        refine s_end ?_
        refine x_normal ⟨k + 1, by omega, F38.keep [0, 1, 2, 3], ((S9.trans S28).pick [0] rfl), by omega, all_step hk_1 (fun c hc => by obtain rfl := Option.some.inj (hx1.symm.trans hc); first | assumption | exact decide_eq_false (by assumption))⟩
    · skip
      refine wp_exit ?_
      refine x_then_exit ?_
      refine x_then_exit ?_
      refine x_block_here ?_
      refine x_normal ?_
      refine wp_seq ?_
      refine wp_region_lit ?_
      refine l_op (s_val rfl rfl (r_assign rfl rfl) fun a39 e39 => ?_)
      have F40 : Fr 19 [(4, .int .i64 (-1))] a39 := F11.put [] e39 rfl
      clear e39 F11 a10
      refine s_end ?_
      refine x_normal ?_
      refine wp_ret ?_
      refine x_done (v := .int .i64 (-1)) F40 (results_1 Try.results150 (.tmp (F40.ev 0 rfl))) ?_
      exact ⟨(by rw [(show (-1) = (idxP (fun c : CellD => decide (c.key = f)) s) from by exact (idxP_none _ s (fun q hq y hy => hk_1 q (by omega) y (by rw [nth_eq]; exact hy))).symm)]), (Mv.pick S9 [0] rfl), idxP_ok _ s (by omega)⟩
theorem impl_cellAt_c {w : World} {H : Nat → Prop} {s : List CellD} {s_a : Option Addr} {s_n s_c : Nat} {key : ByteArray} (v_s : Rd 2 encC okC H w (.slice s_a s_n s_c) s) (h_key : okS key) :
    Calls Try.prog 146 #[.slice s_a s_n s_c, .string key] w fun e w' => e = .returned (.int .i64 (idxKey s key)) ∧ Mv [] w [] w' ∧ i64ok (idxKey s key) := by
  have V_v_s : Rd 2 encC okC (V H w []) w (.slice s_a s_n s_c) s := Rd.start v_s (fun _ _ => fps_nil _)
  obtain ⟨ln_s, le_s, mx_s, ni_s⟩ := Rd.inv v_s
  refine calls_enter 8 Try.func146 rfl Try.ntmps146 (Nat.le_of_ble_eq_true rfl) (fun a0 F0i => ?_)
  have F0 : Fr 8 [(0, .slice s_a s_n s_c), (1, .string key)] a0 := F0i
  clear F0i
  refine wp_seq ?_
  refine wp_region_lit ?_
  refine l_op (s_box (At.nil w) rfl rfl rfl (F0.ev 1 rfl) rfl fun b1 a1 w1 e1 S1i => ?_)
  have S1 : Mv [] w [bx b1 [.string key] 9] w1 := S1i
  clear S1i
  have F2 : Fr 8 [(3, .pointer (some ⟨b1, 0, none⟩)), (0, .slice s_a s_n s_c)] a1 := F0.put [0] e1 rfl
  clear e1 F0 a0
  refine l_op (s_val rfl rfl (r_assign rfl rfl) fun a3 e3 => ?_)
  have F4 : Fr 8 [(4, .int .i64 0), (3, .pointer (some ⟨b1, 0, none⟩)), (0, .slice s_a s_n s_c)] a3 := F2.put [0, 1] e3 rfl
  clear e3 F2 a1
  refine s_end ?_
  refine x_normal ?_
  refine wp_seq ?_
  refine wp_region_lit ?_
  refine l_op (s_val rfl rfl (r_move rfl (F4.ev 2 rfl)) fun a5 e5 => ?_)
  have F6 : Fr 8 [(5, .slice s_a s_n s_c), (4, .int .i64 0), (3, .pointer (some ⟨b1, 0, none⟩))] a5 := F4.put [0, 1] e5 rfl
  clear e5 F4 a3
  refine l_op (s_val rfl rfl (r_makeFuncL rfl (lc (F6.ev 2 rfl) rfl)) fun a7 e7 => ?_)
  have F8 : Fr 8 [(6, .func (.func 155) #[] #[.pointer (some ⟨b1, 0, none⟩)]), (5, .slice s_a s_n s_c), (4, .int .i64 0)] a7 := F6.put [0, 1] e7 rfl
  clear e7 F6 a5
  refine l_op (c_call CF_150 rfl rfl rfl (lc (F8.ev 1 rfl) (lc (F8.ev 0 rfl) rfl)) (IndexFunc_impl_cellAt_1_c (H := V H w [bx b1 [.string key] 9]) (s := s) (f := key) (Rd.mv (Nat.succ_pos _) V_v_s S1) h_key (At.pick (is := [0]) S1.at' rfl) (V_off (is := [0]))) ?_)
  rintro _ w9 ⟨rfl, m9, q9_0⟩
  refine ⟨_, rfl, fun a9 e9 => ?_⟩
  have S9 : Mv [bx b1 [.string key] 9] w1 [bx b1 [.string key] 9] w9 := At.frame S1.at' [0] rfl m9
  clear m9
  have F10 : Fr 8 [(7, .int .i64 (idxP (fun c : CellD => decide (c.key = key)) s)), (4, .int .i64 0)] a9 := F8.put [2] e9 rfl
  clear e9 F8 a7
  refine l_op (s_val rfl rfl (r_assign rfl (F10.ev 0 rfl)) fun a11 e11 => ?_)
  have F12 : Fr 8 [(4, .int .i64 (idxP (fun c : CellD => decide (c.key = key)) s))] a11 := F10.put [] e11 rfl
  clear e11 F10 a9
  refine s_end ?_
  refine x_normal ?_
  refine wp_ret ?_
  refine x_done (v := .int .i64 (idxP (fun c : CellD => decide (c.key = key)) s)) F12 (results_1 Try.results146 (.tmp (F12.ev 0 rfl))) ?_
  exact ⟨rfl, (Mv.pick (S1.trans S9) [] rfl), by first | assumption | omega⟩
theorem impl_GetKey_c {w : World} {H : Nat → Prop} {s : List CellD} {s_a : Option Addr} {s_n s_c : Nat} {key : ByteArray} (v_s : Rd 2 encC okC H w (.slice s_a s_n s_c) s) (h_key : okS key) :
    Calls Try.prog 133 #[.slice s_a s_n s_c, .string key] w fun e w' => e = .returned (.string (getKey s key)) ∧ Mv [] w [] w' ∧ okS (getKey s key) := by
  have V_v_s : Rd 2 encC okC (V H w []) w (.slice s_a s_n s_c) s := Rd.start v_s (fun _ _ => fps_nil _)
  obtain ⟨ln_s, le_s, mx_s, ni_s⟩ := Rd.inv v_s
  refine calls_enter 16 Try.func133 rfl Try.ntmps133 (Nat.le_of_ble_eq_true rfl) (fun a0 F0i => ?_)
  have F0 : Fr 16 [(0, .slice s_a s_n s_c), (1, .string key)] a0 := F0i
  clear F0i
  refine wp_seq ?_
  refine wp_region_lit ?_
  refine l_op (s_val rfl rfl (r_assign rfl rfl) fun a1 e1 => ?_)
  have F2 : Fr 16 [(4, .string (⟨#[]⟩ : ByteArray)), (0, .slice s_a s_n s_c), (1, .string key)] a1 := F0.put [0, 1] e1 rfl
  clear e1 F0 a0
  refine s_end ?_
  refine x_normal ?_
  refine wp_seq ?_
  refine wp_seq ?_
  refine wp_region_lit ?_
  refine l_op (s_val rfl rfl (r_move rfl (F2.ev 1 rfl)) fun a3 e3 => ?_)
  have F4 : Fr 16 [(6, .slice s_a s_n s_c), (0, .slice s_a s_n s_c), (1, .string key)] a3 := F2.put [1, 2] e3 rfl
  clear e3 F2 a1
  refine l_op (s_val rfl rfl (r_move rfl (F4.ev 2 rfl)) fun a5 e5 => ?_)
  have F6 : Fr 16 [(7, .string key), (6, .slice s_a s_n s_c), (0, .slice s_a s_n s_c)] a5 := F4.put [0, 1] e5 rfl
  clear e5 F4 a3
  refine l_op (c_call CF_146 rfl rfl rfl (lc (F6.ev 1 rfl) (lc (F6.ev 0 rfl) rfl)) (impl_cellAt_c (H := V H w []) (s := s) (key := key) V_v_s h_key) ?_)
  rintro _ w7 ⟨rfl, m7, q7_0⟩
  refine ⟨_, rfl, fun a7 e7 => ?_⟩
  have S7 : Mv [] w [] w7 := At.frame (At.nil w) [] rfl m7
  clear m7
  have F8 : Fr 16 [(8, .int .i64 (idxKey s key)), (0, .slice s_a s_n s_c)] a7 := F6.put [2] e7 rfl
  clear e7 F6 a5
  refine l_op (s_val rfl rfl (r_assign rfl (F8.ev 0 rfl)) fun a9 e9 => ?_)
  have F10 : Fr 16 [(5, .int .i64 (idxKey s key)), (0, .slice s_a s_n s_c)] a9 := F8.put [1] e9 rfl
  clear e9 F8 a7
  refine s_end ?_
  refine x_normal ?_
  refine wp_seq ?_
  refine wp_region_lit ?_
  refine l_op (s_val rfl rfl (r_move rfl (F10.ev 0 rfl)) fun a11 e11 => ?_)
  have F12 : Fr 16 [(9, .int .i64 (idxKey s key)), (5, .int .i64 (idxKey s key)), (0, .slice s_a s_n s_c)] a11 := F10.put [0, 1] e11 rfl
  clear e11 F10 a9
  refine l_op (s_val rfl rfl (r_cmp (b := decide ((idxKey s key) ≥ 0)) (.inr (.inr (.inr (.inr (.inr rfl))))) rfl (F12.ev 0 rfl) rfl (dec_of (by omega))) fun a13 e13 => ?_)
  have F14 : Fr 16 [(10, .bool (decide ((idxKey s key) ≥ 0))), (5, .int .i64 (idxKey s key)), (0, .slice s_a s_n s_c)] a13 := F12.put [1, 2] e13 rfl
  clear e13 F12 a11
  refine s_end ?_
  refine x_normal ?_
  refine x_cond (p := (idxKey s key) ≥ 0) (F14.ev 0 rfl) (fun h15 => ?_) (fun h15 => ?_)
  · skip
    refine wp_seq ?_
    refine wp_region_lit ?_
    refine l_op (s_val rfl rfl (r_move rfl (F14.ev 2 rfl)) fun a16 e16 => ?_)
    have F17 : Fr 16 [(11, .slice s_a s_n s_c), (5, .int .i64 (idxKey s key))] a16 := F14.put [1] e16 rfl
    clear e16 F14 a13
    refine l_op (s_val rfl rfl (r_move rfl (F17.ev 1 rfl)) fun a18 e18 => ?_)
    have F19 : Fr 16 [(12, .int .i64 (idxKey s key)), (11, .slice s_a s_n s_c)] a18 := F17.put [0] e18 rfl
    clear e18 F17 a16
    obtain ⟨B20, O20, x1, ad20, hx1, okx1, ln20, cl20⟩ := Rd.at (Rd.mv (Nat.succ_pos _) V_v_s S7) (idxKey s key).toNat (by have := idxKey_bd s key; omega)
    clear ln20
    refine l_op (s_val rfl rfl (r_indexAddr (i := (idxKey s key).toNat) ET_46 rfl ((F19.ev 1 rfl).trans (by rw [ad20])) (F19.ev 0 rfl) (by omega) (by have := idxKey_bd s key; omega)) fun a21 e21 => ?_)
    have F22 : Fr 16 [(13, .pointer (some ⟨B20, O20 + (idxKey s key).toNat * 2, none⟩))] a21 := F19.put [] e21 rfl
    clear e21 F19 a18
    refine l_op (s_val rfl rfl (r_field FI_98_1 rfl (F22.ev 0 rfl) rfl) fun a23 e23 => ?_)
    have F24 : Fr 16 [(14, .pointer (some ⟨B20, O20 + (idxKey s key).toNat * 2 + 1, none⟩))] a23 := F22.put [] e23 rfl
    clear e23 F22 a21
    refine l_op (s_val rfl rfl (r_load (cs := [.string x1.val]) TI_9 rfl (F24.ev 0 rfl) rfl (fun _ => rfl) (elem_sub (f := 1) cl20 [.string x1.val] rfl)) fun a25 e25 => ?_)
    have F26 : Fr 16 [(15, .string x1.val)] a25 := F24.put [] e25 rfl
    clear e25 F24 a23
    refine l_op (s_val rfl rfl (r_assign rfl (F26.ev 0 rfl)) fun a27 e27 => ?_)
    have F28 : Fr 16 [(4, .string x1.val)] a27 := F26.put [] e27 rfl
    clear e27 F26 a25
    refine s_end ?_
    refine x_normal ?_
    refine wp_ret ?_
    refine x_then_ret ?_
    refine x_done (v := .string x1.val) F28 (results_1 Try.results133 (.tmp (F28.ev 0 rfl))) ?_
    exact ⟨(by rw [(show x1.val = (getKey s key) from by obtain ⟨g1, g2⟩ := idxP_at (p := fun c : CellD => decide (c.key = key)) (k := (idxKey s key).toNat) (show idxKey s key = _ by omega) hx1; exact (getKey_found hx1 (of_decide_eq_true g1) (fun j hj y hy => of_decide_eq_false (g2 j hj y hy))).symm)]), (Mv.pick S7 [] rfl), ((show x1.val = (getKey s key) from by obtain ⟨g1, g2⟩ := idxP_at (p := fun c : CellD => decide (c.key = key)) (k := (idxKey s key).toNat) (show idxKey s key = _ by omega) hx1; exact (getKey_found hx1 (of_decide_eq_true g1) (fun j hj y hy => of_decide_eq_false (g2 j hj y hy))).symm) ▸ okx1.2)⟩
  · skip
    refine wp_skip ?_
    refine x_normal ?_
    refine wp_seq ?_
    refine wp_region_lit ?_
    refine l_op (s_val rfl rfl (r_assign rfl rfl) fun a29 e29 => ?_)
    have F30 : Fr 16 [(4, .string (⟨#[]⟩ : ByteArray))] a29 := F14.put [] e29 rfl
    clear e29 F14 a13
    refine s_end ?_
    refine x_normal ?_
    refine wp_ret ?_
    refine x_done (v := .string (⟨#[]⟩ : ByteArray)) F30 (results_1 Try.results133 (.tmp (F30.ev 0 rfl))) ?_
    exact ⟨(by rw [(show (⟨#[]⟩ : ByteArray) = (getKey s key) from by exact (getKey_none (k := s.length) (Nat.le_refl _) (fun j hj y hy => of_decide_eq_false (idxP_no (p := fun c : CellD => decide (c.key = key)) (show ¬ 0 ≤ idxKey s key by omega) j hj y hy))).symm)]), (Mv.pick S7 [] rfl), ((show (⟨#[]⟩ : ByteArray) = (getKey s key) from by exact (getKey_none (k := s.length) (Nat.le_refl _) (fun j hj y hy => of_decide_eq_false (idxP_no (p := fun c : CellD => decide (c.key = key)) (show ¬ 0 ≤ idxKey s key by omega) j hj y hy))).symm) ▸ (by unfold okS; decide))⟩
theorem impl_Touch_clone_c {w : World} {H : Nat → Prop} {t : TouchD} {t_reads_a : Option Addr} {t_reads_n t_reads_c : Nat} {t_writes_a : Option Addr} {t_writes_n t_writes_c : Nat} (v_t_reads : Rd 1 encS okS H w (.slice t_reads_a t_reads_n t_reads_c) t.reads) (v_t_writes : Rd 1 encS okS H w (.slice t_writes_a t_writes_n t_writes_c) t.writes) (p0 : t.reads.length ≤ 1099511627776) (p1 : t.writes.length ≤ 1099511627776) :
    Calls Try.prog 71 #[.agg #[.slice t_reads_a t_reads_n t_reads_c, .slice t_writes_a t_writes_n t_writes_c]] w fun e w' => ∃ (r0_reads_a : Option Addr), ∃ (r0_reads_n : Nat), ∃ (r0_reads_c : Nat), ∃ (r0_writes_a : Option Addr), ∃ (r0_writes_n : Nat), ∃ (r0_writes_c : Nat), e = .returned (.agg #[.slice r0_reads_a r0_reads_n r0_reads_c, .slice r0_writes_a r0_writes_n r0_writes_c]) ∧ Mv [] w [ow 9 1 encS okS (.slice r0_reads_a r0_reads_n r0_reads_c) t.reads, ow 9 1 encS okS (.slice r0_writes_a r0_writes_n r0_writes_c) t.writes] w' := by
  have V_v_t_reads : Rd 1 encS okS (V H w []) w (.slice t_reads_a t_reads_n t_reads_c) t.reads := Rd.start v_t_reads (fun _ _ => fps_nil _)
  obtain ⟨ln_t_reads, le_t_reads, mx_t_reads, ni_t_reads⟩ := Rd.inv v_t_reads
  have V_v_t_writes : Rd 1 encS okS (V H w []) w (.slice t_writes_a t_writes_n t_writes_c) t.writes := Rd.start v_t_writes (fun _ _ => fps_nil _)
  obtain ⟨ln_t_writes, le_t_writes, mx_t_writes, ni_t_writes⟩ := Rd.inv v_t_writes
  refine calls_enter 10 Try.func71 rfl Try.ntmps71 (Nat.le_of_ble_eq_true rfl) (fun a0 F0i => ?_)
  have F0 : Fr 10 [(0, .agg #[.slice t_reads_a t_reads_n t_reads_c, .slice t_writes_a t_writes_n t_writes_c])] a0 := F0i
  clear F0i
  refine wp_seq ?_
  refine wp_region_lit ?_
  refine l_op (s_box (At.nil w) rfl rfl rfl (F0.ev 0 rfl) rfl fun b1 a1 w1 e1 S1i => ?_)
  have S1 : Mv [] w [bx b1 [.slice t_reads_a t_reads_n t_reads_c, .slice t_writes_a t_writes_n t_writes_c] 26] w1 := S1i
  clear S1i
  have F2 : Fr 10 [(1, .pointer (some ⟨b1, 0, none⟩))] a1 := F0.put [] e1 rfl
  clear e1 F0 a0
  refine l_op (s_alloc S1.at' ZI_26 rfl rfl rfl rfl fun b3 a3 w3 e3 S3i => ?_)
  have S3 : Mv [bx b1 [.slice t_reads_a t_reads_n t_reads_c, .slice t_writes_a t_writes_n t_writes_c] 26] w1 [bx b3 [.slice none 0 0, .slice none 0 0] 26, bx b1 [.slice t_reads_a t_reads_n t_reads_c, .slice t_writes_a t_writes_n t_writes_c] 26] w3 := S3i
  clear S3i
  have F4 : Fr 10 [(2, .pointer (some ⟨b3, 0, none⟩)), (1, .pointer (some ⟨b1, 0, none⟩))] a3 := F2.put [0] e3 rfl
  clear e3 F2 a1
  refine s_end ?_
  refine x_normal ?_
  refine wp_seq ?_
  refine x_draw (fun aZ wZ => ∃ (r0_a_15 : Option Addr), ∃ (r0_n_15 : Nat), ∃ (r0_c_15 : Nat), ∃ (r0_a_17 : Option Addr), ∃ (r0_n_17 : Nat), ∃ (r0_c_17 : Nat), Fr 10 [(2, .pointer (some ⟨b3, 0, none⟩))] aZ ∧ Mv [bx b3 [.slice none 0 0, .slice none 0 0] 26, bx b1 [.slice t_reads_a t_reads_n t_reads_c, .slice t_writes_a t_writes_n t_writes_c] 26] w3 [bx b3 [.slice r0_a_15 r0_n_15 r0_c_15, .slice r0_a_17 r0_n_17 r0_c_17] 26, bx b1 [.slice t_reads_a t_reads_n t_reads_c, .slice t_writes_a t_writes_n t_writes_c] 26, ow 9 1 encS okS (.slice r0_a_15 r0_n_15 r0_c_15) t.reads, ow 9 1 encS okS (.slice r0_a_17 r0_n_17 r0_c_17) t.writes] wZ) [bx b1 [.slice t_reads_a t_reads_n t_reads_c, .slice t_writes_a t_writes_n t_writes_c] 26] mixed S3.at' (listed := #[false, false, false, false, false, false, false, false]) rfl (fun w6 S6 => ?_) [1] rfl ?_
  · skip
    refine d_take rfl (i := 0) (listed' := #[true, false, false, false, false, false, false, false]) rfl (by kernel_rfl) (by kernel_rfl) (by kernel_rfl) (fun _ _ _ h => h) (Sd.of (Mv.refl S6.at') [1] rfl) rfl rfl rfl (fun _ hz => (r_field FI_26_0 rfl (F4.ev 1 rfl) rfl)) fun a7 e7 => ?_
    have F8 : Fr 10 [(3, .pointer (some ⟨b1, 0, none⟩)), (2, .pointer (some ⟨b3, 0, none⟩)), (1, .pointer (some ⟨b1, 0, none⟩))] a7 := F4.put [0, 1] e7 rfl
    clear e7 F4 a3
    refine d_take rfl (i := 1) (listed' := #[true, true, false, false, false, false, false, false]) rfl (by kernel_rfl) (by kernel_rfl) (by kernel_rfl) (fun _ _ _ h => h) (Sd.of (Mv.refl S6.at') [1] rfl) rfl rfl rfl (fun _ hz => (r_loadX (hz.bx 0 rfl) TI_22 rfl (F8.ev 0 rfl) rfl rfl (fun _ => rfl) rfl)) fun a9 e9 => ?_
    have F10 : Fr 10 [(4, .slice t_reads_a t_reads_n t_reads_c), (3, .pointer (some ⟨b1, 0, none⟩)), (2, .pointer (some ⟨b3, 0, none⟩)), (1, .pointer (some ⟨b1, 0, none⟩))] a9 := F8.put [0, 1, 2] e9 rfl
    clear e9 F8 a7
    refine d_take rfl (i := 3) (listed' := #[true, true, false, true, false, false, false, false]) rfl (by kernel_rfl) (by kernel_rfl) (by kernel_rfl) (fun _ _ _ h => h) (Sd.of (Mv.refl S6.at') [1] rfl) rfl rfl rfl (fun _ hz => (r_field FI_26_1 rfl (F10.ev 3 rfl) rfl)) fun a11 e11 => ?_
    have F12 : Fr 10 [(6, .pointer (some ⟨b1, 1, none⟩)), (4, .slice t_reads_a t_reads_n t_reads_c), (3, .pointer (some ⟨b1, 0, none⟩)), (2, .pointer (some ⟨b3, 0, none⟩)), (1, .pointer (some ⟨b1, 0, none⟩))] a11 := F10.put [0, 1, 2, 3] e11 rfl
    clear e11 F10 a9
    refine d_take rfl (i := 4) (listed' := #[true, true, false, true, true, false, false, false]) rfl (by kernel_rfl) (by kernel_rfl) (by kernel_rfl) (fun _ _ _ h => h) (Sd.of (Mv.refl S6.at') [1] rfl) rfl rfl rfl (fun _ hz => (r_loadX (hz.bx 0 rfl) TI_22 rfl (F12.ev 0 rfl) rfl rfl (fun _ => rfl) rfl)) fun a13 e13 => ?_
    have F14 : Fr 10 [(7, .slice t_writes_a t_writes_n t_writes_c), (6, .pointer (some ⟨b1, 1, none⟩)), (4, .slice t_reads_a t_reads_n t_reads_c), (3, .pointer (some ⟨b1, 0, none⟩)), (2, .pointer (some ⟨b3, 0, none⟩)), (1, .pointer (some ⟨b1, 0, none⟩))] a13 := F12.put [0, 1, 2, 3, 4] e13 rfl
    clear e13 F12 a11
    refine d_one (i := 2) (listed' := #[true, true, true, true, true, false, false, false]) rfl (by kernel_rfl) rfl rfl ?_
    refine (c_call CF_79 rfl rfl rfl (lc (F14.ev 2 rfl) rfl) (slices_Clone_Sstring_string_c (H := V H w [bx b3 [.slice none 0 0, .slice none 0 0] 26, bx b1 [.slice t_reads_a t_reads_n t_reads_c, .slice t_writes_a t_writes_n t_writes_c] 26]) (s := t.reads) (Rd.mv (Nat.succ_pos _) V_v_t_reads (S1.trans (S3.trans S6))) (show t_reads_n ≤ 1099511627776 from by first | assumption | omega | (simp; done) | (simp; omega))) ?_)
    rintro _ w15 ⟨r0_a_15, r0_n_15, r0_c_15, rfl, m15⟩
    refine ⟨_, rfl, fun a15 e15 => ?_⟩
    have S15 : Mv [bx b3 [.slice none 0 0, .slice none 0 0] 26, bx b1 [.slice t_reads_a t_reads_n t_reads_c, .slice t_writes_a t_writes_n t_writes_c] 26] w6 [ow 9 1 encS okS (.slice r0_a_15 r0_n_15 r0_c_15) t.reads, bx b3 [.slice none 0 0, .slice none 0 0] 26, bx b1 [.slice t_reads_a t_reads_n t_reads_c, .slice t_writes_a t_writes_n t_writes_c] 26] w15 := At.frame S6.at' [] rfl m15
    clear m15
    obtain ⟨lo15_0, lp15_0, lq15_0⟩ := At.ownInv S15.at' ET_22.hk 0 rfl
    have F16 : Fr 10 [(5, .slice r0_a_15 r0_n_15 r0_c_15), (7, .slice t_writes_a t_writes_n t_writes_c), (6, .pointer (some ⟨b1, 1, none⟩)), (4, .slice t_reads_a t_reads_n t_reads_c), (3, .pointer (some ⟨b1, 0, none⟩)), (2, .pointer (some ⟨b3, 0, none⟩)), (1, .pointer (some ⟨b1, 0, none⟩))] a15 := F14.put [0, 1, 2, 3, 4, 5] e15 rfl
    clear e15 F14 a13
    refine ⟨Sd.of S15 [2] rfl, ?_⟩
    refine d_one (i := 5) (listed' := #[true, true, true, true, true, true, false, false]) rfl (by kernel_rfl) rfl rfl ?_
    refine (c_call CF_79 rfl rfl rfl (lc (F16.ev 1 rfl) rfl) (slices_Clone_Sstring_string_c (H := V H w [ow 9 1 encS okS (.slice r0_a_15 r0_n_15 r0_c_15) t.reads, bx b3 [.slice none 0 0, .slice none 0 0] 26, bx b1 [.slice t_reads_a t_reads_n t_reads_c, .slice t_writes_a t_writes_n t_writes_c] 26]) (s := t.writes) (Rd.mv (Nat.succ_pos _) V_v_t_writes (S1.trans (S3.trans (S6.trans S15)))) (show t_writes_n ≤ 1099511627776 from by first | assumption | omega | (simp; done) | (simp; omega))) ?_)
    rintro _ w17 ⟨r0_a_17, r0_n_17, r0_c_17, rfl, m17⟩
    refine ⟨_, rfl, fun a17 e17 => ?_⟩
    have S17 : Mv [ow 9 1 encS okS (.slice r0_a_15 r0_n_15 r0_c_15) t.reads, bx b3 [.slice none 0 0, .slice none 0 0] 26, bx b1 [.slice t_reads_a t_reads_n t_reads_c, .slice t_writes_a t_writes_n t_writes_c] 26] w15 [ow 9 1 encS okS (.slice r0_a_17 r0_n_17 r0_c_17) t.writes, ow 9 1 encS okS (.slice r0_a_15 r0_n_15 r0_c_15) t.reads, bx b3 [.slice none 0 0, .slice none 0 0] 26, bx b1 [.slice t_reads_a t_reads_n t_reads_c, .slice t_writes_a t_writes_n t_writes_c] 26] w17 := At.frame S15.at' [] rfl m17
    clear m17
    obtain ⟨lo17_0, lp17_0, lq17_0⟩ := At.ownInv S17.at' ET_22.hk 0 rfl
    have F18 : Fr 10 [(8, .slice r0_a_17 r0_n_17 r0_c_17), (5, .slice r0_a_15 r0_n_15 r0_c_15), (7, .slice t_writes_a t_writes_n t_writes_c), (6, .pointer (some ⟨b1, 1, none⟩)), (4, .slice t_reads_a t_reads_n t_reads_c), (3, .pointer (some ⟨b1, 0, none⟩)), (2, .pointer (some ⟨b3, 0, none⟩)), (1, .pointer (some ⟨b1, 0, none⟩))] a17 := F16.put [0, 1, 2, 3, 4, 5, 6] e17 rfl
    clear e17 F16 a15
    refine ⟨Sd.of (S15.trans S17) [3] rfl, ?_⟩
    refine d_take rfl (i := 6) (listed' := #[true, true, true, true, true, true, true, false]) rfl (by kernel_rfl) (by kernel_rfl) (by kernel_rfl) (fun _ _ _ h => h) (Sd.of (S15.trans S17) [3] rfl) rfl rfl rfl (fun _ hz => (r_build BI_26 rfl (lc (pr2 (F18.ev 1 rfl)) (lc (pr2 (F18.ev 0 rfl)) rfl)) rfl)) fun a19 e19 => ?_
    have F20 : Fr 10 [(9, .agg #[.slice r0_a_15 r0_n_15 r0_c_15, .slice r0_a_17 r0_n_17 r0_c_17]), (8, .slice r0_a_17 r0_n_17 r0_c_17), (5, .slice r0_a_15 r0_n_15 r0_c_15), (7, .slice t_writes_a t_writes_n t_writes_c), (6, .pointer (some ⟨b1, 1, none⟩)), (4, .slice t_reads_a t_reads_n t_reads_c), (3, .pointer (some ⟨b1, 0, none⟩)), (2, .pointer (some ⟨b3, 0, none⟩)), (1, .pointer (some ⟨b1, 0, none⟩))] a19 := F18.put [0, 1, 2, 3, 4, 5, 6, 7] e19 rfl
    clear e19 F18 a17
    refine d_one (i := 7) (listed' := #[true, true, true, true, true, true, true, true]) rfl (by kernel_rfl) rfl rfl ?_
    refine (s_store S17.at' 2 TI_26 rfl rfl rfl rfl rfl (F20.ev 7 rfl) (F20.ev 0 rfl) rfl rfl rfl rfl rfl fun w21 S21i => ?_)
    have S21 : Mv [ow 9 1 encS okS (.slice r0_a_17 r0_n_17 r0_c_17) t.writes, ow 9 1 encS okS (.slice r0_a_15 r0_n_15 r0_c_15) t.reads, bx b3 [.slice none 0 0, .slice none 0 0] 26, bx b1 [.slice t_reads_a t_reads_n t_reads_c, .slice t_writes_a t_writes_n t_writes_c] 26] w17 [bx b3 [.slice r0_a_15 r0_n_15 r0_c_15, .slice r0_a_17 r0_n_17 r0_c_17] 26, ow 9 1 encS okS (.slice r0_a_17 r0_n_17 r0_c_17) t.writes, ow 9 1 encS okS (.slice r0_a_15 r0_n_15 r0_c_15) t.reads, bx b1 [.slice t_reads_a t_reads_n t_reads_c, .slice t_writes_a t_writes_n t_writes_c] 26] w21 := S21i
    clear S21i
    refine ⟨Sd.of (S15.trans (S17.trans S21)) [3] rfl, ?_⟩
    refine wpAnyH_done (by kernel_rfl) (x_normal ?_) _
    exact ⟨r0_a_15, r0_n_15, r0_c_15, r0_a_17, r0_n_17, r0_c_17, F20.keep [7], ((S6.trans (S15.trans (S17.trans S21))).pick [0, 3, 2, 1] rfl)⟩
  · rintro a22 w22 ⟨r0_a_15, r0_n_15, r0_c_15, r0_a_17, r0_n_17, r0_c_17, F22, S22⟩
    refine x_normal ?_
    refine wp_ret ?_
    refine x_done (v := .agg #[.slice r0_a_15 r0_n_15 r0_c_15, .slice r0_a_17 r0_n_17 r0_c_17]) F22 (results_1 Try.results71 (.cell (F22.ev 0 rfl) (run_loadVar' TI_26 _ [.slice r0_a_15 r0_n_15 r0_c_15, .slice r0_a_17 r0_n_17 r0_c_17] rfl (fun h => nomatch h) (At.cells S22.at' 0 rfl 0 [.slice r0_a_15 r0_n_15 r0_c_15, .slice r0_a_17 r0_n_17 r0_c_17] rfl)))) ?_
    exact ⟨r0_a_15, r0_n_15, r0_c_15, r0_a_17, r0_n_17, r0_c_17, rfl, (Mv.pick (S1.trans (S3.trans S22)) [2, 3] rfl)⟩
theorem impl_Mach_clone_c {w : World} {H : Nat → Prop} {m : MachD} {m_store_a : Option Addr} {m_store_n m_store_c : Nat} {m_touch_reads_a : Option Addr} {m_touch_reads_n m_touch_reads_c : Nat} {m_touch_writes_a : Option Addr} {m_touch_writes_n m_touch_writes_c : Nat} (v_m_store : Rd 2 encC okC H w (.slice m_store_a m_store_n m_store_c) m.store) (v_m_touch_reads : Rd 1 encS okS H w (.slice m_touch_reads_a m_touch_reads_n m_touch_reads_c) m.touch.reads) (v_m_touch_writes : Rd 1 encS okS H w (.slice m_touch_writes_a m_touch_writes_n m_touch_writes_c) m.touch.writes) (p0 : m.store.length ≤ 1099511627776) (p1 : m.touch.reads.length ≤ 1099511627776) (p2 : m.touch.writes.length ≤ 1099511627776) :
    Calls Try.prog 93 #[.agg #[.slice m_store_a m_store_n m_store_c, .slice m_touch_reads_a m_touch_reads_n m_touch_reads_c, .slice m_touch_writes_a m_touch_writes_n m_touch_writes_c]] w fun e w' => ∃ (r0_store_a : Option Addr), ∃ (r0_store_n : Nat), ∃ (r0_store_c : Nat), ∃ (r0_touch_reads_a : Option Addr), ∃ (r0_touch_reads_n : Nat), ∃ (r0_touch_reads_c : Nat), ∃ (r0_touch_writes_a : Option Addr), ∃ (r0_touch_writes_n : Nat), ∃ (r0_touch_writes_c : Nat), e = .returned (.agg #[.slice r0_store_a r0_store_n r0_store_c, .slice r0_touch_reads_a r0_touch_reads_n r0_touch_reads_c, .slice r0_touch_writes_a r0_touch_writes_n r0_touch_writes_c]) ∧ Mv [] w [ow 98 2 encC okC (.slice r0_store_a r0_store_n r0_store_c) m.store, ow 9 1 encS okS (.slice r0_touch_reads_a r0_touch_reads_n r0_touch_reads_c) m.touch.reads, ow 9 1 encS okS (.slice r0_touch_writes_a r0_touch_writes_n r0_touch_writes_c) m.touch.writes] w' := by
  have V_v_m_store : Rd 2 encC okC (V H w []) w (.slice m_store_a m_store_n m_store_c) m.store := Rd.start v_m_store (fun _ _ => fps_nil _)
  obtain ⟨ln_m_store, le_m_store, mx_m_store, ni_m_store⟩ := Rd.inv v_m_store
  have V_v_m_touch_reads : Rd 1 encS okS (V H w []) w (.slice m_touch_reads_a m_touch_reads_n m_touch_reads_c) m.touch.reads := Rd.start v_m_touch_reads (fun _ _ => fps_nil _)
  obtain ⟨ln_m_touch_reads, le_m_touch_reads, mx_m_touch_reads, ni_m_touch_reads⟩ := Rd.inv v_m_touch_reads
  have V_v_m_touch_writes : Rd 1 encS okS (V H w []) w (.slice m_touch_writes_a m_touch_writes_n m_touch_writes_c) m.touch.writes := Rd.start v_m_touch_writes (fun _ _ => fps_nil _)
  obtain ⟨ln_m_touch_writes, le_m_touch_writes, mx_m_touch_writes, ni_m_touch_writes⟩ := Rd.inv v_m_touch_writes
  refine calls_enter 10 Try.func93 rfl Try.ntmps93 (Nat.le_of_ble_eq_true rfl) (fun a0 F0i => ?_)
  have F0 : Fr 10 [(0, .agg #[.slice m_store_a m_store_n m_store_c, .slice m_touch_reads_a m_touch_reads_n m_touch_reads_c, .slice m_touch_writes_a m_touch_writes_n m_touch_writes_c])] a0 := F0i
  clear F0i
  refine wp_seq ?_
  refine wp_region_lit ?_
  refine l_op (s_box (At.nil w) rfl rfl rfl (F0.ev 0 rfl) rfl fun b1 a1 w1 e1 S1i => ?_)
  have S1 : Mv [] w [bx b1 [.slice m_store_a m_store_n m_store_c, .slice m_touch_reads_a m_touch_reads_n m_touch_reads_c, .slice m_touch_writes_a m_touch_writes_n m_touch_writes_c] 48] w1 := S1i
  clear S1i
  have F2 : Fr 10 [(1, .pointer (some ⟨b1, 0, none⟩))] a1 := F0.put [] e1 rfl
  clear e1 F0 a0
  refine l_op (s_alloc S1.at' ZI_48 rfl rfl rfl rfl fun b3 a3 w3 e3 S3i => ?_)
  have S3 : Mv [bx b1 [.slice m_store_a m_store_n m_store_c, .slice m_touch_reads_a m_touch_reads_n m_touch_reads_c, .slice m_touch_writes_a m_touch_writes_n m_touch_writes_c] 48] w1 [bx b3 [.slice none 0 0, .slice none 0 0, .slice none 0 0] 48, bx b1 [.slice m_store_a m_store_n m_store_c, .slice m_touch_reads_a m_touch_reads_n m_touch_reads_c, .slice m_touch_writes_a m_touch_writes_n m_touch_writes_c] 48] w3 := S3i
  clear S3i
  have F4 : Fr 10 [(2, .pointer (some ⟨b3, 0, none⟩)), (1, .pointer (some ⟨b1, 0, none⟩))] a3 := F2.put [0] e3 rfl
  clear e3 F2 a1
  refine s_end ?_
  refine x_normal ?_
  refine wp_seq ?_
  refine x_draw (fun aZ wZ => ∃ (r0_a_15 : Option Addr), ∃ (r0_n_15 : Nat), ∃ (r0_c_15 : Nat), ∃ (r0_reads_a_17 : Option Addr), ∃ (r0_reads_n_17 : Nat), ∃ (r0_reads_c_17 : Nat), ∃ (r0_writes_a_17 : Option Addr), ∃ (r0_writes_n_17 : Nat), ∃ (r0_writes_c_17 : Nat), Fr 10 [(2, .pointer (some ⟨b3, 0, none⟩))] aZ ∧ Mv [bx b3 [.slice none 0 0, .slice none 0 0, .slice none 0 0] 48, bx b1 [.slice m_store_a m_store_n m_store_c, .slice m_touch_reads_a m_touch_reads_n m_touch_reads_c, .slice m_touch_writes_a m_touch_writes_n m_touch_writes_c] 48] w3 [bx b3 [.slice r0_a_15 r0_n_15 r0_c_15, .slice r0_reads_a_17 r0_reads_n_17 r0_reads_c_17, .slice r0_writes_a_17 r0_writes_n_17 r0_writes_c_17] 48, bx b1 [.slice m_store_a m_store_n m_store_c, .slice m_touch_reads_a m_touch_reads_n m_touch_reads_c, .slice m_touch_writes_a m_touch_writes_n m_touch_writes_c] 48, ow 98 2 encC okC (.slice r0_a_15 r0_n_15 r0_c_15) m.store, ow 9 1 encS okS (.slice r0_reads_a_17 r0_reads_n_17 r0_reads_c_17) m.touch.reads, ow 9 1 encS okS (.slice r0_writes_a_17 r0_writes_n_17 r0_writes_c_17) m.touch.writes] wZ) [bx b1 [.slice m_store_a m_store_n m_store_c, .slice m_touch_reads_a m_touch_reads_n m_touch_reads_c, .slice m_touch_writes_a m_touch_writes_n m_touch_writes_c] 48] mixed S3.at' (listed := #[false, false, false, false, false, false, false, false]) rfl (fun w6 S6 => ?_) [1] rfl ?_
  · skip
    refine d_take rfl (i := 0) (listed' := #[true, false, false, false, false, false, false, false]) rfl (by kernel_rfl) (by kernel_rfl) (by kernel_rfl) (fun _ _ _ h => h) (Sd.of (Mv.refl S6.at') [1] rfl) rfl rfl rfl (fun _ hz => (r_field FI_48_0 rfl (F4.ev 1 rfl) rfl)) fun a7 e7 => ?_
    have F8 : Fr 10 [(3, .pointer (some ⟨b1, 0, none⟩)), (2, .pointer (some ⟨b3, 0, none⟩)), (1, .pointer (some ⟨b1, 0, none⟩))] a7 := F4.put [0, 1] e7 rfl
    clear e7 F4 a3
    refine d_take rfl (i := 1) (listed' := #[true, true, false, false, false, false, false, false]) rfl (by kernel_rfl) (by kernel_rfl) (by kernel_rfl) (fun _ _ _ h => h) (Sd.of (Mv.refl S6.at') [1] rfl) rfl rfl rfl (fun _ hz => (r_loadX (hz.bx 0 rfl) TI_46 rfl (F8.ev 0 rfl) rfl rfl (fun _ => rfl) rfl)) fun a9 e9 => ?_
    have F10 : Fr 10 [(4, .slice m_store_a m_store_n m_store_c), (3, .pointer (some ⟨b1, 0, none⟩)), (2, .pointer (some ⟨b3, 0, none⟩)), (1, .pointer (some ⟨b1, 0, none⟩))] a9 := F8.put [0, 1, 2] e9 rfl
    clear e9 F8 a7
    refine d_take rfl (i := 3) (listed' := #[true, true, false, true, false, false, false, false]) rfl (by kernel_rfl) (by kernel_rfl) (by kernel_rfl) (fun _ _ _ h => h) (Sd.of (Mv.refl S6.at') [1] rfl) rfl rfl rfl (fun _ hz => (r_field FI_48_1 rfl (F10.ev 3 rfl) rfl)) fun a11 e11 => ?_
    have F12 : Fr 10 [(6, .pointer (some ⟨b1, 1, none⟩)), (4, .slice m_store_a m_store_n m_store_c), (3, .pointer (some ⟨b1, 0, none⟩)), (2, .pointer (some ⟨b3, 0, none⟩)), (1, .pointer (some ⟨b1, 0, none⟩))] a11 := F10.put [0, 1, 2, 3] e11 rfl
    clear e11 F10 a9
    refine d_take rfl (i := 4) (listed' := #[true, true, false, true, true, false, false, false]) rfl (by kernel_rfl) (by kernel_rfl) (by kernel_rfl) (fun _ _ _ h => h) (Sd.of (Mv.refl S6.at') [1] rfl) rfl rfl rfl (fun _ hz => (r_loadX (hz.bx 0 rfl) TI_26 rfl (F12.ev 0 rfl) rfl rfl (fun h => nomatch h) rfl)) fun a13 e13 => ?_
    have F14 : Fr 10 [(7, .agg #[.slice m_touch_reads_a m_touch_reads_n m_touch_reads_c, .slice m_touch_writes_a m_touch_writes_n m_touch_writes_c]), (6, .pointer (some ⟨b1, 1, none⟩)), (4, .slice m_store_a m_store_n m_store_c), (3, .pointer (some ⟨b1, 0, none⟩)), (2, .pointer (some ⟨b3, 0, none⟩)), (1, .pointer (some ⟨b1, 0, none⟩))] a13 := F12.put [0, 1, 2, 3, 4] e13 rfl
    clear e13 F12 a11
    refine d_one (i := 2) (listed' := #[true, true, true, true, true, false, false, false]) rfl (by kernel_rfl) rfl rfl ?_
    refine (c_call CF_118 rfl rfl rfl (lc (F14.ev 2 rfl) rfl) (slices_Clone_Simpl_Cell_impl_Cell_c (H := V H w [bx b3 [.slice none 0 0, .slice none 0 0, .slice none 0 0] 48, bx b1 [.slice m_store_a m_store_n m_store_c, .slice m_touch_reads_a m_touch_reads_n m_touch_reads_c, .slice m_touch_writes_a m_touch_writes_n m_touch_writes_c] 48]) (s := m.store) (Rd.mv (Nat.succ_pos _) V_v_m_store (S1.trans (S3.trans S6))) (show m_store_n ≤ 1099511627776 from by first | assumption | omega | (simp; done) | (simp; omega))) ?_)
    rintro _ w15 ⟨r0_a_15, r0_n_15, r0_c_15, rfl, m15⟩
    refine ⟨_, rfl, fun a15 e15 => ?_⟩
    have S15 : Mv [bx b3 [.slice none 0 0, .slice none 0 0, .slice none 0 0] 48, bx b1 [.slice m_store_a m_store_n m_store_c, .slice m_touch_reads_a m_touch_reads_n m_touch_reads_c, .slice m_touch_writes_a m_touch_writes_n m_touch_writes_c] 48] w6 [ow 98 2 encC okC (.slice r0_a_15 r0_n_15 r0_c_15) m.store, bx b3 [.slice none 0 0, .slice none 0 0, .slice none 0 0] 48, bx b1 [.slice m_store_a m_store_n m_store_c, .slice m_touch_reads_a m_touch_reads_n m_touch_reads_c, .slice m_touch_writes_a m_touch_writes_n m_touch_writes_c] 48] w15 := At.frame S6.at' [] rfl m15
    clear m15
    obtain ⟨lo15_0, lp15_0, lq15_0⟩ := At.ownInv S15.at' ET_46.hk 0 rfl
    have F16 : Fr 10 [(5, .slice r0_a_15 r0_n_15 r0_c_15), (7, .agg #[.slice m_touch_reads_a m_touch_reads_n m_touch_reads_c, .slice m_touch_writes_a m_touch_writes_n m_touch_writes_c]), (6, .pointer (some ⟨b1, 1, none⟩)), (4, .slice m_store_a m_store_n m_store_c), (3, .pointer (some ⟨b1, 0, none⟩)), (2, .pointer (some ⟨b3, 0, none⟩)), (1, .pointer (some ⟨b1, 0, none⟩))] a15 := F14.put [0, 1, 2, 3, 4, 5] e15 rfl
    clear e15 F14 a13
    refine ⟨Sd.of S15 [2] rfl, ?_⟩
    refine d_one (i := 5) (listed' := #[true, true, true, true, true, true, false, false]) rfl (by kernel_rfl) rfl rfl ?_
    refine (c_call CF_71 rfl rfl rfl (lc (F16.ev 1 rfl) rfl) (impl_Touch_clone_c (H := V H w [ow 98 2 encC okC (.slice r0_a_15 r0_n_15 r0_c_15) m.store, bx b3 [.slice none 0 0, .slice none 0 0, .slice none 0 0] 48, bx b1 [.slice m_store_a m_store_n m_store_c, .slice m_touch_reads_a m_touch_reads_n m_touch_reads_c, .slice m_touch_writes_a m_touch_writes_n m_touch_writes_c] 48]) (t := m.touch) (Rd.mv (Nat.succ_pos _) V_v_m_touch_reads (S1.trans (S3.trans (S6.trans S15)))) (Rd.mv (Nat.succ_pos _) V_v_m_touch_writes (S1.trans (S3.trans (S6.trans S15)))) (show m.touch.reads.length ≤ 1099511627776 from by first | assumption | omega | (simp; done) | (simp; omega)) (show m.touch.writes.length ≤ 1099511627776 from by first | assumption | omega | (simp; done) | (simp; omega))) ?_)
    rintro _ w17 ⟨r0_reads_a_17, r0_reads_n_17, r0_reads_c_17, r0_writes_a_17, r0_writes_n_17, r0_writes_c_17, rfl, m17⟩
    refine ⟨_, rfl, fun a17 e17 => ?_⟩
    have S17 : Mv [ow 98 2 encC okC (.slice r0_a_15 r0_n_15 r0_c_15) m.store, bx b3 [.slice none 0 0, .slice none 0 0, .slice none 0 0] 48, bx b1 [.slice m_store_a m_store_n m_store_c, .slice m_touch_reads_a m_touch_reads_n m_touch_reads_c, .slice m_touch_writes_a m_touch_writes_n m_touch_writes_c] 48] w15 [ow 9 1 encS okS (.slice r0_reads_a_17 r0_reads_n_17 r0_reads_c_17) m.touch.reads, ow 9 1 encS okS (.slice r0_writes_a_17 r0_writes_n_17 r0_writes_c_17) m.touch.writes, ow 98 2 encC okC (.slice r0_a_15 r0_n_15 r0_c_15) m.store, bx b3 [.slice none 0 0, .slice none 0 0, .slice none 0 0] 48, bx b1 [.slice m_store_a m_store_n m_store_c, .slice m_touch_reads_a m_touch_reads_n m_touch_reads_c, .slice m_touch_writes_a m_touch_writes_n m_touch_writes_c] 48] w17 := At.frame S15.at' [] rfl m17
    clear m17
    obtain ⟨lo17_0, lp17_0, lq17_0⟩ := At.ownInv S17.at' ET_22.hk 0 rfl
    obtain ⟨lo17_1, lp17_1, lq17_1⟩ := At.ownInv S17.at' ET_22.hk 1 rfl
    have F18 : Fr 10 [(8, .agg #[.slice r0_reads_a_17 r0_reads_n_17 r0_reads_c_17, .slice r0_writes_a_17 r0_writes_n_17 r0_writes_c_17]), (5, .slice r0_a_15 r0_n_15 r0_c_15), (7, .agg #[.slice m_touch_reads_a m_touch_reads_n m_touch_reads_c, .slice m_touch_writes_a m_touch_writes_n m_touch_writes_c]), (6, .pointer (some ⟨b1, 1, none⟩)), (4, .slice m_store_a m_store_n m_store_c), (3, .pointer (some ⟨b1, 0, none⟩)), (2, .pointer (some ⟨b3, 0, none⟩)), (1, .pointer (some ⟨b1, 0, none⟩))] a17 := F16.put [0, 1, 2, 3, 4, 5, 6] e17 rfl
    clear e17 F16 a15
    refine ⟨Sd.of (S15.trans S17) [4] rfl, ?_⟩
    refine d_take rfl (i := 6) (listed' := #[true, true, true, true, true, true, true, false]) rfl (by kernel_rfl) (by kernel_rfl) (by kernel_rfl) (fun _ _ _ h => h) (Sd.of (S15.trans S17) [4] rfl) rfl rfl rfl (fun _ hz => (r_build BI_48 rfl (lc (pr2 (F18.ev 1 rfl)) (lc (pr2 (F18.ev 0 rfl)) rfl)) rfl)) fun a19 e19 => ?_
    have F20 : Fr 10 [(9, .agg #[.slice r0_a_15 r0_n_15 r0_c_15, .slice r0_reads_a_17 r0_reads_n_17 r0_reads_c_17, .slice r0_writes_a_17 r0_writes_n_17 r0_writes_c_17]), (8, .agg #[.slice r0_reads_a_17 r0_reads_n_17 r0_reads_c_17, .slice r0_writes_a_17 r0_writes_n_17 r0_writes_c_17]), (5, .slice r0_a_15 r0_n_15 r0_c_15), (7, .agg #[.slice m_touch_reads_a m_touch_reads_n m_touch_reads_c, .slice m_touch_writes_a m_touch_writes_n m_touch_writes_c]), (6, .pointer (some ⟨b1, 1, none⟩)), (4, .slice m_store_a m_store_n m_store_c), (3, .pointer (some ⟨b1, 0, none⟩)), (2, .pointer (some ⟨b3, 0, none⟩)), (1, .pointer (some ⟨b1, 0, none⟩))] a19 := F18.put [0, 1, 2, 3, 4, 5, 6, 7] e19 rfl
    clear e19 F18 a17
    refine d_one (i := 7) (listed' := #[true, true, true, true, true, true, true, true]) rfl (by kernel_rfl) rfl rfl ?_
    refine (s_store S17.at' 3 TI_48 rfl rfl rfl rfl rfl (F20.ev 7 rfl) (F20.ev 0 rfl) rfl rfl rfl rfl rfl fun w21 S21i => ?_)
    have S21 : Mv [ow 9 1 encS okS (.slice r0_reads_a_17 r0_reads_n_17 r0_reads_c_17) m.touch.reads, ow 9 1 encS okS (.slice r0_writes_a_17 r0_writes_n_17 r0_writes_c_17) m.touch.writes, ow 98 2 encC okC (.slice r0_a_15 r0_n_15 r0_c_15) m.store, bx b3 [.slice none 0 0, .slice none 0 0, .slice none 0 0] 48, bx b1 [.slice m_store_a m_store_n m_store_c, .slice m_touch_reads_a m_touch_reads_n m_touch_reads_c, .slice m_touch_writes_a m_touch_writes_n m_touch_writes_c] 48] w17 [bx b3 [.slice r0_a_15 r0_n_15 r0_c_15, .slice r0_reads_a_17 r0_reads_n_17 r0_reads_c_17, .slice r0_writes_a_17 r0_writes_n_17 r0_writes_c_17] 48, ow 9 1 encS okS (.slice r0_reads_a_17 r0_reads_n_17 r0_reads_c_17) m.touch.reads, ow 9 1 encS okS (.slice r0_writes_a_17 r0_writes_n_17 r0_writes_c_17) m.touch.writes, ow 98 2 encC okC (.slice r0_a_15 r0_n_15 r0_c_15) m.store, bx b1 [.slice m_store_a m_store_n m_store_c, .slice m_touch_reads_a m_touch_reads_n m_touch_reads_c, .slice m_touch_writes_a m_touch_writes_n m_touch_writes_c] 48] w21 := S21i
    clear S21i
    refine ⟨Sd.of (S15.trans (S17.trans S21)) [4] rfl, ?_⟩
    refine wpAnyH_done (by kernel_rfl) (x_normal ?_) _
    exact ⟨r0_a_15, r0_n_15, r0_c_15, r0_reads_a_17, r0_reads_n_17, r0_reads_c_17, r0_writes_a_17, r0_writes_n_17, r0_writes_c_17, F20.keep [7], ((S6.trans (S15.trans (S17.trans S21))).pick [0, 4, 3, 1, 2] rfl)⟩
  · rintro a22 w22 ⟨r0_a_15, r0_n_15, r0_c_15, r0_reads_a_17, r0_reads_n_17, r0_reads_c_17, r0_writes_a_17, r0_writes_n_17, r0_writes_c_17, F22, S22⟩
    refine x_normal ?_
    refine wp_ret ?_
    refine x_done (v := .agg #[.slice r0_a_15 r0_n_15 r0_c_15, .slice r0_reads_a_17 r0_reads_n_17 r0_reads_c_17, .slice r0_writes_a_17 r0_writes_n_17 r0_writes_c_17]) F22 (results_1 Try.results93 (.cell (F22.ev 0 rfl) (run_loadVar' TI_48 _ [.slice r0_a_15 r0_n_15 r0_c_15, .slice r0_reads_a_17 r0_reads_n_17 r0_reads_c_17, .slice r0_writes_a_17 r0_writes_n_17 r0_writes_c_17] rfl (fun h => nomatch h) (At.cells S22.at' 0 rfl 0 [.slice r0_a_15 r0_n_15 r0_c_15, .slice r0_reads_a_17 r0_reads_n_17 r0_reads_c_17, .slice r0_writes_a_17 r0_writes_n_17 r0_writes_c_17] rfl)))) ?_
    exact ⟨r0_a_15, r0_n_15, r0_c_15, r0_reads_a_17, r0_reads_n_17, r0_reads_c_17, r0_writes_a_17, r0_writes_n_17, r0_writes_c_17, rfl, (Mv.pick (S1.trans (S3.trans S22)) [2, 3, 4] rfl)⟩
theorem impl_Mach_look_c {w : World} {H : Nat → Prop} {m : MachD} {m_store_a : Option Addr} {m_store_n m_store_c : Nat} {m_touch_reads_a : Option Addr} {m_touch_reads_n m_touch_reads_c : Nat} {m_touch_writes_a : Option Addr} {m_touch_writes_n m_touch_writes_c : Nat} {m_b : Nat} {key : ByteArray} (h_key : okS key) (p0 : m.touch.reads.length ≤ 274877906944) (hA : At w [bx m_b [.slice m_store_a m_store_n m_store_c, .slice m_touch_reads_a m_touch_reads_n m_touch_reads_c, .slice m_touch_writes_a m_touch_writes_n m_touch_writes_c] 48, ow 98 2 encC okC (.slice m_store_a m_store_n m_store_c) m.store, ow 9 1 encS okS (.slice m_touch_reads_a m_touch_reads_n m_touch_reads_c) m.touch.reads, ow 9 1 encS okS (.slice m_touch_writes_a m_touch_writes_n m_touch_writes_c) m.touch.writes]) :
    Calls Try.prog 94 #[.pointer (some ⟨m_b, 0, none⟩), .string key] w fun e w' => ∃ (q_m_store_a : Option Addr), ∃ (q_m_store_n : Nat), ∃ (q_m_store_c : Nat), ∃ (q_m_touch_reads_a : Option Addr), ∃ (q_m_touch_reads_n : Nat), ∃ (q_m_touch_reads_c : Nat), ∃ (q_m_touch_writes_a : Option Addr), ∃ (q_m_touch_writes_n : Nat), ∃ (q_m_touch_writes_c : Nat), e = .returned (.string (getKey m.store key)) ∧ Mv [bx m_b [.slice m_store_a m_store_n m_store_c, .slice m_touch_reads_a m_touch_reads_n m_touch_reads_c, .slice m_touch_writes_a m_touch_writes_n m_touch_writes_c] 48, ow 98 2 encC okC (.slice m_store_a m_store_n m_store_c) m.store, ow 9 1 encS okS (.slice m_touch_reads_a m_touch_reads_n m_touch_reads_c) m.touch.reads, ow 9 1 encS okS (.slice m_touch_writes_a m_touch_writes_n m_touch_writes_c) m.touch.writes] w [bx m_b [.slice q_m_store_a q_m_store_n q_m_store_c, .slice q_m_touch_reads_a q_m_touch_reads_n q_m_touch_reads_c, .slice q_m_touch_writes_a q_m_touch_writes_n q_m_touch_writes_c] 48, ow 98 2 encC okC (.slice q_m_store_a q_m_store_n q_m_store_c) (lookM m key).store, ow 9 1 encS okS (.slice q_m_touch_reads_a q_m_touch_reads_n q_m_touch_reads_c) (lookM m key).touch.reads, ow 9 1 encS okS (.slice q_m_touch_writes_a q_m_touch_writes_n q_m_touch_writes_c) (lookM m key).touch.writes] w' ∧ okS (getKey m.store key) := by
  obtain ⟨lo1, lp1, lq1⟩ := At.ownInv hA ET_46.hk 1 rfl
  obtain ⟨lo2, lp2, lq2⟩ := At.ownInv hA ET_22.hk 2 rfl
  obtain ⟨lo3, lp3, lq3⟩ := At.ownInv hA ET_22.hk 3 rfl
  refine calls_enter 22 Try.func94 rfl Try.ntmps94 (Nat.le_of_ble_eq_true rfl) (fun a0 F0i => ?_)
  have F0 : Fr 22 [(0, .pointer (some ⟨m_b, 0, none⟩)), (1, .string key)] a0 := F0i
  clear F0i
  refine wp_seq ?_
  refine wp_region_lit ?_
  refine l_op (s_val rfl rfl (r_assign rfl rfl) fun a1 e1 => ?_)
  have F2 : Fr 22 [(4, .string (⟨#[]⟩ : ByteArray)), (0, .pointer (some ⟨m_b, 0, none⟩)), (1, .string key)] a1 := F0.put [0, 1] e1 rfl
  clear e1 F0 a0
  refine s_end ?_
  refine x_normal ?_
  refine wp_seq ?_
  refine wp_region_lit ?_
  refine l_op (s_val rfl rfl (r_move rfl (F2.ev 1 rfl)) fun a3 e3 => ?_)
  have F4 : Fr 22 [(5, .pointer (some ⟨m_b, 0, none⟩)), (0, .pointer (some ⟨m_b, 0, none⟩)), (1, .string key)] a3 := F2.put [1, 2] e3 rfl
  clear e3 F2 a1
  refine l_op (s_val rfl rfl (r_move rfl (F4.ev 1 rfl)) fun a5 e5 => ?_)
  have F6 : Fr 22 [(6, .pointer (some ⟨m_b, 0, none⟩)), (5, .pointer (some ⟨m_b, 0, none⟩)), (0, .pointer (some ⟨m_b, 0, none⟩)), (1, .string key)] a5 := F4.put [0, 1, 2] e5 rfl
  clear e5 F4 a3
  refine l_op (s_val rfl rfl (r_nilCheck rfl (F6.ev 0 rfl)) fun a7 e7 => ?_)
  have F8 : Fr 22 [(7, .pointer (some ⟨m_b, 0, none⟩)), (5, .pointer (some ⟨m_b, 0, none⟩)), (0, .pointer (some ⟨m_b, 0, none⟩)), (1, .string key)] a7 := F6.put [1, 2, 3] e7 rfl
  clear e7 F6 a5
  refine l_op (s_val rfl rfl (r_field FI_48_1 rfl (F8.ev 0 rfl) rfl) fun a9 e9 => ?_)
  have F10 : Fr 22 [(8, .pointer (some ⟨m_b, 1, none⟩)), (5, .pointer (some ⟨m_b, 0, none⟩)), (0, .pointer (some ⟨m_b, 0, none⟩)), (1, .string key)] a9 := F8.put [1, 2, 3] e9 rfl
  clear e9 F8 a7
  refine l_op (s_val rfl rfl (r_field FI_26_0 rfl (F10.ev 0 rfl) rfl) fun a11 e11 => ?_)
  have F12 : Fr 22 [(9, .pointer (some ⟨m_b, 1, none⟩)), (5, .pointer (some ⟨m_b, 0, none⟩)), (0, .pointer (some ⟨m_b, 0, none⟩)), (1, .string key)] a11 := F10.put [1, 2, 3] e11 rfl
  clear e11 F10 a9
  refine l_op (s_val rfl rfl (r_loadB hA 0 TI_22 rfl rfl (F12.ev 0 rfl) rfl rfl (fun _ => rfl) rfl) fun a13 e13 => ?_)
  have F14 : Fr 22 [(10, .slice m_touch_reads_a m_touch_reads_n m_touch_reads_c), (5, .pointer (some ⟨m_b, 0, none⟩)), (0, .pointer (some ⟨m_b, 0, none⟩)), (1, .string key)] a13 := F12.put [1, 2, 3] e13 rfl
  clear e13 F12 a11
  refine l_op (s_val rfl rfl (r_move rfl (F14.ev 3 rfl)) fun a15 e15 => ?_)
  have F16 : Fr 22 [(11, .string key), (10, .slice m_touch_reads_a m_touch_reads_n m_touch_reads_c), (5, .pointer (some ⟨m_b, 0, none⟩)), (0, .pointer (some ⟨m_b, 0, none⟩)), (1, .string key)] a15 := F14.put [0, 1, 2, 3] e15 rfl
  clear e15 F14 a13
  refine l_op (c_call CF_78 rfl rfl rfl (lc (F16.ev 1 rfl) (lc (F16.ev 0 rfl) rfl)) (impl_addSpan_c (H := fun _ => True) (list := m.touch.reads) (span := key) h_key (show m_touch_reads_n ≤ 549755813888 from by first | assumption | omega | (simp; done) | (simp; omega)) (At.pick (is := [2]) hA rfl)) ?_)
  rintro _ w17 ⟨r0_a_17, r0_n_17, r0_c_17, rfl, m17⟩
  refine ⟨_, rfl, fun a17 e17 => ?_⟩
  have S17 : Mv [bx m_b [.slice m_store_a m_store_n m_store_c, .slice m_touch_reads_a m_touch_reads_n m_touch_reads_c, .slice m_touch_writes_a m_touch_writes_n m_touch_writes_c] 48, ow 98 2 encC okC (.slice m_store_a m_store_n m_store_c) m.store, ow 9 1 encS okS (.slice m_touch_reads_a m_touch_reads_n m_touch_reads_c) m.touch.reads, ow 9 1 encS okS (.slice m_touch_writes_a m_touch_writes_n m_touch_writes_c) m.touch.writes] w [ow 9 1 encS okS (.slice r0_a_17 r0_n_17 r0_c_17) (putL m.touch.reads key), bx m_b [.slice m_store_a m_store_n m_store_c, .slice m_touch_reads_a m_touch_reads_n m_touch_reads_c, .slice m_touch_writes_a m_touch_writes_n m_touch_writes_c] 48, ow 98 2 encC okC (.slice m_store_a m_store_n m_store_c) m.store, ow 9 1 encS okS (.slice m_touch_writes_a m_touch_writes_n m_touch_writes_c) m.touch.writes] w17 := At.frame hA [2] rfl m17
  clear m17
  obtain ⟨lo17_0, lp17_0, lq17_0⟩ := At.ownInv S17.at' ET_22.hk 0 rfl
  have F18 : Fr 22 [(12, .slice r0_a_17 r0_n_17 r0_c_17), (5, .pointer (some ⟨m_b, 0, none⟩)), (0, .pointer (some ⟨m_b, 0, none⟩)), (1, .string key)] a17 := F16.put [2, 3, 4] e17 rfl
  clear e17 F16 a15
  refine l_op (s_val rfl rfl (r_nilCheck rfl (F18.ev 1 rfl)) fun a19 e19 => ?_)
  have F20 : Fr 22 [(13, .pointer (some ⟨m_b, 0, none⟩)), (12, .slice r0_a_17 r0_n_17 r0_c_17), (0, .pointer (some ⟨m_b, 0, none⟩)), (1, .string key)] a19 := F18.put [0, 2, 3] e19 rfl
  clear e19 F18 a17
  refine l_op (s_val rfl rfl (r_field FI_48_1 rfl (F20.ev 0 rfl) rfl) fun a21 e21 => ?_)
  have F22 : Fr 22 [(14, .pointer (some ⟨m_b, 1, none⟩)), (12, .slice r0_a_17 r0_n_17 r0_c_17), (0, .pointer (some ⟨m_b, 0, none⟩)), (1, .string key)] a21 := F20.put [1, 2, 3] e21 rfl
  clear e21 F20 a19
  refine l_op (s_val rfl rfl (r_field FI_26_0 rfl (F22.ev 0 rfl) rfl) fun a23 e23 => ?_)
  have F24 : Fr 22 [(15, .pointer (some ⟨m_b, 1, none⟩)), (12, .slice r0_a_17 r0_n_17 r0_c_17), (0, .pointer (some ⟨m_b, 0, none⟩)), (1, .string key)] a23 := F22.put [1, 2, 3] e23 rfl
  clear e23 F22 a21
  refine l_op (s_store S17.at' 1 TI_22 rfl rfl rfl rfl rfl (F24.ev 0 rfl) (F24.ev 1 rfl) rfl rfl rfl rfl rfl fun w25 S25i => ?_)
  have S25 : Mv [ow 9 1 encS okS (.slice r0_a_17 r0_n_17 r0_c_17) (putL m.touch.reads key), bx m_b [.slice m_store_a m_store_n m_store_c, .slice m_touch_reads_a m_touch_reads_n m_touch_reads_c, .slice m_touch_writes_a m_touch_writes_n m_touch_writes_c] 48, ow 98 2 encC okC (.slice m_store_a m_store_n m_store_c) m.store, ow 9 1 encS okS (.slice m_touch_writes_a m_touch_writes_n m_touch_writes_c) m.touch.writes] w17 [bx m_b [.slice m_store_a m_store_n m_store_c, .slice r0_a_17 r0_n_17 r0_c_17, .slice m_touch_writes_a m_touch_writes_n m_touch_writes_c] 48, ow 9 1 encS okS (.slice r0_a_17 r0_n_17 r0_c_17) (putL m.touch.reads key), ow 98 2 encC okC (.slice m_store_a m_store_n m_store_c) m.store, ow 9 1 encS okS (.slice m_touch_writes_a m_touch_writes_n m_touch_writes_c) m.touch.writes] w25 := S25i
  clear S25i
  refine s_end ?_
  refine x_normal ?_
  refine wp_seq ?_
  refine wp_region_lit ?_
  refine l_op (s_val rfl rfl (r_move rfl (F24.ev 2 rfl)) fun a26 e26 => ?_)
  have F27 : Fr 22 [(16, .pointer (some ⟨m_b, 0, none⟩)), (1, .string key)] a26 := F24.put [3] e26 rfl
  clear e26 F24 a23
  refine l_op (s_val rfl rfl (r_nilCheck rfl (F27.ev 0 rfl)) fun a28 e28 => ?_)
  have F29 : Fr 22 [(17, .pointer (some ⟨m_b, 0, none⟩)), (1, .string key)] a28 := F27.put [1] e28 rfl
  clear e28 F27 a26
  refine l_op (s_val rfl rfl (r_field FI_48_0 rfl (F29.ev 0 rfl) rfl) fun a30 e30 => ?_)
  have F31 : Fr 22 [(18, .pointer (some ⟨m_b, 0, none⟩)), (1, .string key)] a30 := F29.put [1] e30 rfl
  clear e30 F29 a28
  refine l_op (s_val rfl rfl (r_loadB S25.at' 0 TI_46 rfl rfl (F31.ev 0 rfl) rfl rfl (fun _ => rfl) rfl) fun a32 e32 => ?_)
  have F33 : Fr 22 [(19, .slice m_store_a m_store_n m_store_c), (1, .string key)] a32 := F31.put [1] e32 rfl
  clear e32 F31 a30
  refine l_op (s_val rfl rfl (r_move rfl (F33.ev 1 rfl)) fun a34 e34 => ?_)
  have F35 : Fr 22 [(20, .string key), (19, .slice m_store_a m_store_n m_store_c)] a34 := F33.put [0] e34 rfl
  clear e34 F33 a32
  refine l_op (c_call CF_133 rfl rfl rfl (lc (F35.ev 1 rfl) (lc (F35.ev 0 rfl) rfl)) (impl_GetKey_c (H := fun _ => True) (s := m.store) (key := key) (At.rd S25.at' ET_46.hk 2 rfl) h_key) ?_)
  rintro _ w36 ⟨rfl, m36, ok_r0_36⟩
  refine ⟨_, rfl, fun a36 e36 => ?_⟩
  have S36 : Mv [bx m_b [.slice m_store_a m_store_n m_store_c, .slice r0_a_17 r0_n_17 r0_c_17, .slice m_touch_writes_a m_touch_writes_n m_touch_writes_c] 48, ow 9 1 encS okS (.slice r0_a_17 r0_n_17 r0_c_17) (putL m.touch.reads key), ow 98 2 encC okC (.slice m_store_a m_store_n m_store_c) m.store, ow 9 1 encS okS (.slice m_touch_writes_a m_touch_writes_n m_touch_writes_c) m.touch.writes] w25 [bx m_b [.slice m_store_a m_store_n m_store_c, .slice r0_a_17 r0_n_17 r0_c_17, .slice m_touch_writes_a m_touch_writes_n m_touch_writes_c] 48, ow 9 1 encS okS (.slice r0_a_17 r0_n_17 r0_c_17) (putL m.touch.reads key), ow 98 2 encC okC (.slice m_store_a m_store_n m_store_c) m.store, ow 9 1 encS okS (.slice m_touch_writes_a m_touch_writes_n m_touch_writes_c) m.touch.writes] w36 := At.frame S25.at' [] rfl m36
  clear m36
  have F37 : Fr 22 [(21, .string (getKey m.store key))] a36 := F35.put [] e36 rfl
  clear e36 F35 a34
  refine l_op (s_val rfl rfl (r_assign rfl (F37.ev 0 rfl)) fun a38 e38 => ?_)
  have F39 : Fr 22 [(4, .string (getKey m.store key))] a38 := F37.put [] e38 rfl
  clear e38 F37 a36
  refine s_end ?_
  refine x_normal ?_
  refine wp_ret ?_
  refine x_done (v := .string (getKey m.store key)) F39 (results_1 Try.results94 (.tmp (F39.ev 0 rfl))) ?_
  exact ⟨m_store_a, m_store_n, m_store_c, r0_a_17, r0_n_17, r0_c_17, m_touch_writes_a, m_touch_writes_n, m_touch_writes_c, rfl, (Mv.cast (Mv.pick (S17.trans (S25.trans S36)) [0, 2, 1, 3] rfl) rfl), ok_r0_36⟩
theorem impl_Look_c {w : World} {H : Nat → Prop} {m : MachD} {m_store_a : Option Addr} {m_store_n m_store_c : Nat} {m_touch_reads_a : Option Addr} {m_touch_reads_n m_touch_reads_c : Nat} {m_touch_writes_a : Option Addr} {m_touch_writes_n m_touch_writes_c : Nat} {key : ByteArray} (v_m_store : Rd 2 encC okC H w (.slice m_store_a m_store_n m_store_c) m.store) (v_m_touch_reads : Rd 1 encS okS H w (.slice m_touch_reads_a m_touch_reads_n m_touch_reads_c) m.touch.reads) (v_m_touch_writes : Rd 1 encS okS H w (.slice m_touch_writes_a m_touch_writes_n m_touch_writes_c) m.touch.writes) (h_key : okS key) (p0 : m.store.length ≤ 274877906944) (p1 : m.touch.reads.length ≤ 274877906944) (p2 : m.touch.writes.length ≤ 274877906944) :
    Calls Try.prog 40 #[.agg #[.slice m_store_a m_store_n m_store_c, .slice m_touch_reads_a m_touch_reads_n m_touch_reads_c, .slice m_touch_writes_a m_touch_writes_n m_touch_writes_c], .string key] w fun e w' => ∃ (r0_store_a : Option Addr), ∃ (r0_store_n : Nat), ∃ (r0_store_c : Nat), ∃ (r0_touch_reads_a : Option Addr), ∃ (r0_touch_reads_n : Nat), ∃ (r0_touch_reads_c : Nat), ∃ (r0_touch_writes_a : Option Addr), ∃ (r0_touch_writes_n : Nat), ∃ (r0_touch_writes_c : Nat), e = .returned (.tuple #[.agg #[.slice r0_store_a r0_store_n r0_store_c, .slice r0_touch_reads_a r0_touch_reads_n r0_touch_reads_c, .slice r0_touch_writes_a r0_touch_writes_n r0_touch_writes_c], .string (getKey m.store key)]) ∧ Mv [] w [ow 98 2 encC okC (.slice r0_store_a r0_store_n r0_store_c) (lookM m key).store, ow 9 1 encS okS (.slice r0_touch_reads_a r0_touch_reads_n r0_touch_reads_c) (lookM m key).touch.reads, ow 9 1 encS okS (.slice r0_touch_writes_a r0_touch_writes_n r0_touch_writes_c) (lookM m key).touch.writes] w' ∧ okS (getKey m.store key) := by
  have V_v_m_store : Rd 2 encC okC (V H w []) w (.slice m_store_a m_store_n m_store_c) m.store := Rd.start v_m_store (fun _ _ => fps_nil _)
  obtain ⟨ln_m_store, le_m_store, mx_m_store, ni_m_store⟩ := Rd.inv v_m_store
  have V_v_m_touch_reads : Rd 1 encS okS (V H w []) w (.slice m_touch_reads_a m_touch_reads_n m_touch_reads_c) m.touch.reads := Rd.start v_m_touch_reads (fun _ _ => fps_nil _)
  obtain ⟨ln_m_touch_reads, le_m_touch_reads, mx_m_touch_reads, ni_m_touch_reads⟩ := Rd.inv v_m_touch_reads
  have V_v_m_touch_writes : Rd 1 encS okS (V H w []) w (.slice m_touch_writes_a m_touch_writes_n m_touch_writes_c) m.touch.writes := Rd.start v_m_touch_writes (fun _ _ => fps_nil _)
  obtain ⟨ln_m_touch_writes, le_m_touch_writes, mx_m_touch_writes, ni_m_touch_writes⟩ := Rd.inv v_m_touch_writes
  refine calls_enter 13 Try.func40 rfl Try.ntmps40 (Nat.le_of_ble_eq_true rfl) (fun a0 F0i => ?_)
  have F0 : Fr 13 [(0, .agg #[.slice m_store_a m_store_n m_store_c, .slice m_touch_reads_a m_touch_reads_n m_touch_reads_c, .slice m_touch_writes_a m_touch_writes_n m_touch_writes_c]), (1, .string key)] a0 := F0i
  clear F0i
  refine wp_seq ?_
  refine wp_region_lit ?_
  refine l_op (s_box (At.nil w) rfl rfl rfl (F0.ev 0 rfl) rfl fun b1 a1 w1 e1 S1i => ?_)
  have S1 : Mv [] w [bx b1 [.slice m_store_a m_store_n m_store_c, .slice m_touch_reads_a m_touch_reads_n m_touch_reads_c, .slice m_touch_writes_a m_touch_writes_n m_touch_writes_c] 48] w1 := S1i
  clear S1i
  have F2 : Fr 13 [(2, .pointer (some ⟨b1, 0, none⟩)), (1, .string key)] a1 := F0.put [1] e1 rfl
  clear e1 F0 a0
  refine l_op (s_alloc S1.at' ZI_48 rfl rfl rfl rfl fun b3 a3 w3 e3 S3i => ?_)
  have S3 : Mv [bx b1 [.slice m_store_a m_store_n m_store_c, .slice m_touch_reads_a m_touch_reads_n m_touch_reads_c, .slice m_touch_writes_a m_touch_writes_n m_touch_writes_c] 48] w1 [bx b3 [.slice none 0 0, .slice none 0 0, .slice none 0 0] 48, bx b1 [.slice m_store_a m_store_n m_store_c, .slice m_touch_reads_a m_touch_reads_n m_touch_reads_c, .slice m_touch_writes_a m_touch_writes_n m_touch_writes_c] 48] w3 := S3i
  clear S3i
  have F4 : Fr 13 [(4, .pointer (some ⟨b3, 0, none⟩)), (2, .pointer (some ⟨b1, 0, none⟩)), (1, .string key)] a3 := F2.put [0, 1] e3 rfl
  clear e3 F2 a1
  refine l_op (s_val rfl rfl (r_assign rfl rfl) fun a5 e5 => ?_)
  have F6 : Fr 13 [(5, .string (⟨#[]⟩ : ByteArray)), (4, .pointer (some ⟨b3, 0, none⟩)), (2, .pointer (some ⟨b1, 0, none⟩)), (1, .string key)] a5 := F4.put [0, 1, 2] e5 rfl
  clear e5 F4 a3
  refine s_end ?_
  refine x_normal ?_
  refine wp_seq ?_
  refine wp_region_lit ?_
  refine l_op (s_val rfl rfl (r_loadB S3.at' 1 TI_48 rfl rfl (F6.ev 2 rfl) rfl rfl (fun h => nomatch h) rfl) fun a7 e7 => ?_)
  have F8 : Fr 13 [(7, .agg #[.slice m_store_a m_store_n m_store_c, .slice m_touch_reads_a m_touch_reads_n m_touch_reads_c, .slice m_touch_writes_a m_touch_writes_n m_touch_writes_c]), (4, .pointer (some ⟨b3, 0, none⟩)), (2, .pointer (some ⟨b1, 0, none⟩)), (1, .string key)] a7 := F6.put [1, 2, 3] e7 rfl
  clear e7 F6 a5
  refine l_op (c_call CF_93 rfl rfl rfl (lc (F8.ev 0 rfl) rfl) (impl_Mach_clone_c (H := V H w [bx b3 [.slice none 0 0, .slice none 0 0, .slice none 0 0] 48, bx b1 [.slice m_store_a m_store_n m_store_c, .slice m_touch_reads_a m_touch_reads_n m_touch_reads_c, .slice m_touch_writes_a m_touch_writes_n m_touch_writes_c] 48]) (m := m) (Rd.mv (Nat.succ_pos _) V_v_m_store (S1.trans S3)) (Rd.mv (Nat.succ_pos _) V_v_m_touch_reads (S1.trans S3)) (Rd.mv (Nat.succ_pos _) V_v_m_touch_writes (S1.trans S3)) (show m.store.length ≤ 1099511627776 from by first | assumption | omega | (simp; done) | (simp; omega)) (show m.touch.reads.length ≤ 1099511627776 from by first | assumption | omega | (simp; done) | (simp; omega)) (show m.touch.writes.length ≤ 1099511627776 from by first | assumption | omega | (simp; done) | (simp; omega))) ?_)
  rintro _ w9 ⟨r0_store_a_9, r0_store_n_9, r0_store_c_9, r0_touch_reads_a_9, r0_touch_reads_n_9, r0_touch_reads_c_9, r0_touch_writes_a_9, r0_touch_writes_n_9, r0_touch_writes_c_9, rfl, m9⟩
  refine ⟨_, rfl, fun a9 e9 => ?_⟩
  have S9 : Mv [bx b3 [.slice none 0 0, .slice none 0 0, .slice none 0 0] 48, bx b1 [.slice m_store_a m_store_n m_store_c, .slice m_touch_reads_a m_touch_reads_n m_touch_reads_c, .slice m_touch_writes_a m_touch_writes_n m_touch_writes_c] 48] w3 [ow 98 2 encC okC (.slice r0_store_a_9 r0_store_n_9 r0_store_c_9) m.store, ow 9 1 encS okS (.slice r0_touch_reads_a_9 r0_touch_reads_n_9 r0_touch_reads_c_9) m.touch.reads, ow 9 1 encS okS (.slice r0_touch_writes_a_9 r0_touch_writes_n_9 r0_touch_writes_c_9) m.touch.writes, bx b3 [.slice none 0 0, .slice none 0 0, .slice none 0 0] 48, bx b1 [.slice m_store_a m_store_n m_store_c, .slice m_touch_reads_a m_touch_reads_n m_touch_reads_c, .slice m_touch_writes_a m_touch_writes_n m_touch_writes_c] 48] w9 := At.frame S3.at' [] rfl m9
  clear m9
  obtain ⟨lo9_0, lp9_0, lq9_0⟩ := At.ownInv S9.at' ET_46.hk 0 rfl
  obtain ⟨lo9_1, lp9_1, lq9_1⟩ := At.ownInv S9.at' ET_22.hk 1 rfl
  obtain ⟨lo9_2, lp9_2, lq9_2⟩ := At.ownInv S9.at' ET_22.hk 2 rfl
  have F10 : Fr 13 [(8, .agg #[.slice r0_store_a_9 r0_store_n_9 r0_store_c_9, .slice r0_touch_reads_a_9 r0_touch_reads_n_9 r0_touch_reads_c_9, .slice r0_touch_writes_a_9 r0_touch_writes_n_9 r0_touch_writes_c_9]), (4, .pointer (some ⟨b3, 0, none⟩)), (2, .pointer (some ⟨b1, 0, none⟩)), (1, .string key)] a9 := F8.put [1, 2, 3] e9 rfl
  clear e9 F8 a7
  refine l_op (s_store S9.at' 4 TI_48 rfl rfl rfl rfl rfl (F10.ev 2 rfl) (F10.ev 0 rfl) rfl rfl rfl rfl rfl fun w11 S11i => ?_)
  have S11 : Mv [ow 98 2 encC okC (.slice r0_store_a_9 r0_store_n_9 r0_store_c_9) m.store, ow 9 1 encS okS (.slice r0_touch_reads_a_9 r0_touch_reads_n_9 r0_touch_reads_c_9) m.touch.reads, ow 9 1 encS okS (.slice r0_touch_writes_a_9 r0_touch_writes_n_9 r0_touch_writes_c_9) m.touch.writes, bx b3 [.slice none 0 0, .slice none 0 0, .slice none 0 0] 48, bx b1 [.slice m_store_a m_store_n m_store_c, .slice m_touch_reads_a m_touch_reads_n m_touch_reads_c, .slice m_touch_writes_a m_touch_writes_n m_touch_writes_c] 48] w9 [bx b1 [.slice r0_store_a_9 r0_store_n_9 r0_store_c_9, .slice r0_touch_reads_a_9 r0_touch_reads_n_9 r0_touch_reads_c_9, .slice r0_touch_writes_a_9 r0_touch_writes_n_9 r0_touch_writes_c_9] 48, ow 98 2 encC okC (.slice r0_store_a_9 r0_store_n_9 r0_store_c_9) m.store, ow 9 1 encS okS (.slice r0_touch_reads_a_9 r0_touch_reads_n_9 r0_touch_reads_c_9) m.touch.reads, ow 9 1 encS okS (.slice r0_touch_writes_a_9 r0_touch_writes_n_9 r0_touch_writes_c_9) m.touch.writes, bx b3 [.slice none 0 0, .slice none 0 0, .slice none 0 0] 48] w11 := S11i
  clear S11i
  refine s_end ?_
  refine x_normal ?_
  refine wp_seq ?_
  refine wp_region_lit ?_
  refine l_op (s_val rfl rfl (r_move rfl (F10.ev 3 rfl)) fun a12 e12 => ?_)
  have F13 : Fr 13 [(9, .string key), (4, .pointer (some ⟨b3, 0, none⟩)), (2, .pointer (some ⟨b1, 0, none⟩))] a12 := F10.put [1, 2] e12 rfl
  clear e12 F10 a9
  refine l_op (c_call CF_94 rfl rfl rfl (lc (F13.ev 2 rfl) (lc (F13.ev 0 rfl) rfl)) (impl_Mach_look_c (H := fun _ => True) (m := m) (key := key) h_key (show m.touch.reads.length ≤ 274877906944 from by first | assumption | omega | (simp; done) | (simp; omega)) (At.pick (is := [0, 1, 2, 3]) S11.at' rfl)) ?_)
  rintro _ w14 ⟨qm_store_a_14, qm_store_n_14, qm_store_c_14, qm_touch_reads_a_14, qm_touch_reads_n_14, qm_touch_reads_c_14, qm_touch_writes_a_14, qm_touch_writes_n_14, qm_touch_writes_c_14, rfl, m14, ok_r0_14⟩
  refine ⟨_, rfl, fun a14 e14 => ?_⟩
  have S14 : Mv [bx b1 [.slice r0_store_a_9 r0_store_n_9 r0_store_c_9, .slice r0_touch_reads_a_9 r0_touch_reads_n_9 r0_touch_reads_c_9, .slice r0_touch_writes_a_9 r0_touch_writes_n_9 r0_touch_writes_c_9] 48, ow 98 2 encC okC (.slice r0_store_a_9 r0_store_n_9 r0_store_c_9) m.store, ow 9 1 encS okS (.slice r0_touch_reads_a_9 r0_touch_reads_n_9 r0_touch_reads_c_9) m.touch.reads, ow 9 1 encS okS (.slice r0_touch_writes_a_9 r0_touch_writes_n_9 r0_touch_writes_c_9) m.touch.writes, bx b3 [.slice none 0 0, .slice none 0 0, .slice none 0 0] 48] w11 [bx b1 [.slice qm_store_a_14 qm_store_n_14 qm_store_c_14, .slice qm_touch_reads_a_14 qm_touch_reads_n_14 qm_touch_reads_c_14, .slice qm_touch_writes_a_14 qm_touch_writes_n_14 qm_touch_writes_c_14] 48, ow 98 2 encC okC (.slice qm_store_a_14 qm_store_n_14 qm_store_c_14) (lookM m key).store, ow 9 1 encS okS (.slice qm_touch_reads_a_14 qm_touch_reads_n_14 qm_touch_reads_c_14) (lookM m key).touch.reads, ow 9 1 encS okS (.slice qm_touch_writes_a_14 qm_touch_writes_n_14 qm_touch_writes_c_14) (lookM m key).touch.writes, bx b3 [.slice none 0 0, .slice none 0 0, .slice none 0 0] 48] w14 := At.frame S11.at' [0, 1, 2, 3] rfl m14
  clear m14
  obtain ⟨lo14_1, lp14_1, lq14_1⟩ := At.ownInv S14.at' ET_46.hk 1 rfl
  obtain ⟨lo14_2, lp14_2, lq14_2⟩ := At.ownInv S14.at' ET_22.hk 2 rfl
  obtain ⟨lo14_3, lp14_3, lq14_3⟩ := At.ownInv S14.at' ET_22.hk 3 rfl
  have F15 : Fr 13 [(10, .string (getKey m.store key)), (4, .pointer (some ⟨b3, 0, none⟩)), (2, .pointer (some ⟨b1, 0, none⟩))] a14 := F13.put [1, 2] e14 rfl
  clear e14 F13 a12
  refine l_op (s_val rfl rfl (r_assign rfl (F15.ev 0 rfl)) fun a16 e16 => ?_)
  have F17 : Fr 13 [(6, .string (getKey m.store key)), (4, .pointer (some ⟨b3, 0, none⟩)), (2, .pointer (some ⟨b1, 0, none⟩))] a16 := F15.put [1, 2] e16 rfl
  clear e16 F15 a14
  refine s_end ?_
  refine x_normal ?_
  refine wp_seq ?_
  refine wp_region_lit ?_
  refine l_op (s_val rfl rfl (r_loadB S14.at' 0 TI_48 rfl rfl (F17.ev 2 rfl) rfl rfl (fun h => nomatch h) rfl) fun a18 e18 => ?_)
  have F19 : Fr 13 [(11, .agg #[.slice qm_store_a_14 qm_store_n_14 qm_store_c_14, .slice qm_touch_reads_a_14 qm_touch_reads_n_14 qm_touch_reads_c_14, .slice qm_touch_writes_a_14 qm_touch_writes_n_14 qm_touch_writes_c_14]), (6, .string (getKey m.store key)), (4, .pointer (some ⟨b3, 0, none⟩))] a18 := F17.put [0, 1] e18 rfl
  clear e18 F17 a16
  refine l_op (s_val rfl rfl (r_move rfl (F19.ev 1 rfl)) fun a20 e20 => ?_)
  have F21 : Fr 13 [(12, .string (getKey m.store key)), (11, .agg #[.slice qm_store_a_14 qm_store_n_14 qm_store_c_14, .slice qm_touch_reads_a_14 qm_touch_reads_n_14 qm_touch_reads_c_14, .slice qm_touch_writes_a_14 qm_touch_writes_n_14 qm_touch_writes_c_14]), (4, .pointer (some ⟨b3, 0, none⟩))] a20 := F19.put [0, 2] e20 rfl
  clear e20 F19 a18
  refine l_op (s_store S14.at' 4 TI_48 rfl rfl rfl rfl rfl (F21.ev 2 rfl) (F21.ev 1 rfl) rfl rfl rfl rfl rfl fun w22 S22i => ?_)
  have S22 : Mv [bx b1 [.slice qm_store_a_14 qm_store_n_14 qm_store_c_14, .slice qm_touch_reads_a_14 qm_touch_reads_n_14 qm_touch_reads_c_14, .slice qm_touch_writes_a_14 qm_touch_writes_n_14 qm_touch_writes_c_14] 48, ow 98 2 encC okC (.slice qm_store_a_14 qm_store_n_14 qm_store_c_14) (lookM m key).store, ow 9 1 encS okS (.slice qm_touch_reads_a_14 qm_touch_reads_n_14 qm_touch_reads_c_14) (lookM m key).touch.reads, ow 9 1 encS okS (.slice qm_touch_writes_a_14 qm_touch_writes_n_14 qm_touch_writes_c_14) (lookM m key).touch.writes, bx b3 [.slice none 0 0, .slice none 0 0, .slice none 0 0] 48] w14 [bx b3 [.slice qm_store_a_14 qm_store_n_14 qm_store_c_14, .slice qm_touch_reads_a_14 qm_touch_reads_n_14 qm_touch_reads_c_14, .slice qm_touch_writes_a_14 qm_touch_writes_n_14 qm_touch_writes_c_14] 48, bx b1 [.slice qm_store_a_14 qm_store_n_14 qm_store_c_14, .slice qm_touch_reads_a_14 qm_touch_reads_n_14 qm_touch_reads_c_14, .slice qm_touch_writes_a_14 qm_touch_writes_n_14 qm_touch_writes_c_14] 48, ow 98 2 encC okC (.slice qm_store_a_14 qm_store_n_14 qm_store_c_14) (lookM m key).store, ow 9 1 encS okS (.slice qm_touch_reads_a_14 qm_touch_reads_n_14 qm_touch_reads_c_14) (lookM m key).touch.reads, ow 9 1 encS okS (.slice qm_touch_writes_a_14 qm_touch_writes_n_14 qm_touch_writes_c_14) (lookM m key).touch.writes] w22 := S22i
  clear S22i
  refine l_op (s_val rfl rfl (r_assign rfl (F21.ev 0 rfl)) fun a23 e23 => ?_)
  have F24 : Fr 13 [(5, .string (getKey m.store key)), (4, .pointer (some ⟨b3, 0, none⟩))] a23 := F21.put [2] e23 rfl
  clear e23 F21 a20
  refine s_end ?_
  refine x_normal ?_
  refine wp_ret ?_
  refine x_done (v := .tuple #[.agg #[.slice qm_store_a_14 qm_store_n_14 qm_store_c_14, .slice qm_touch_reads_a_14 qm_touch_reads_n_14 qm_touch_reads_c_14, .slice qm_touch_writes_a_14 qm_touch_writes_n_14 qm_touch_writes_c_14], .string (getKey m.store key)]) F24 (results_2 Try.results40 (.cell (F24.ev 1 rfl) (run_loadVar' TI_48 _ [.slice qm_store_a_14 qm_store_n_14 qm_store_c_14, .slice qm_touch_reads_a_14 qm_touch_reads_n_14 qm_touch_reads_c_14, .slice qm_touch_writes_a_14 qm_touch_writes_n_14 qm_touch_writes_c_14] rfl (fun h => nomatch h) (At.cells S22.at' 0 rfl 0 [.slice qm_store_a_14 qm_store_n_14 qm_store_c_14, .slice qm_touch_reads_a_14 qm_touch_reads_n_14 qm_touch_reads_c_14, .slice qm_touch_writes_a_14 qm_touch_writes_n_14 qm_touch_writes_c_14] rfl))) (.tmp (F24.ev 0 rfl))) ?_
  exact ⟨qm_store_a_14, qm_store_n_14, qm_store_c_14, qm_touch_reads_a_14, qm_touch_reads_n_14, qm_touch_reads_c_14, qm_touch_writes_a_14, qm_touch_writes_n_14, qm_touch_writes_c_14, rfl, (Mv.pick (S1.trans (S3.trans (S9.trans (S11.trans (S14.trans S22))))) [2, 3, 4] rfl), ok_r0_14⟩
end Go.Proofs.Ytbbkihijhdpliaa
