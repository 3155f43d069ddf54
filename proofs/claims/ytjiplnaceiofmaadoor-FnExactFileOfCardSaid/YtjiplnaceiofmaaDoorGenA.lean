/-
  Walks: numbers in a range, beginnings of texts, reading a store.
-/
import Derived.Test.YtjiplnaceiofmaaDoorDat
namespace Go.Proofs.YtjiplnaceiofmaaDoor
open Go.ChangeShapes Go.WideShapes Go.ChangeAt Go.RowKit
set_option maxRecDepth 100000
set_option maxHeartbeats 1000000
theorem spec_l01In_c {w : World} {H : Nat → Prop} {x : Int} {least : Int} {most : Int} (h_x : i64ok x) (h_least : i64ok least) (h_most : i64ok most) :
    Calls Tryd.prog 144 #[.int .i64 x, .int .i64 least, .int .i64 most] w fun e w' => e = .returned (.bool (inB x least most)) ∧ Mv [] w [] w' := by
 have uU : True := (fun _ _ _ _ => trivial) H h_x h_least h_most
 clear uU
 refine calls_enter 15 Tryd.func144 rfl Tryd.ntmps144 (Nat.le_of_ble_eq_true rfl) (fun _ F0i => ?_)
 have F0 : Fr 15 [(0, .int .i64 x), (1, .int .i64 least), (2, .int .i64 most)] _ := F0i
 clear F0i
 refine wp_seq (wp_region_lit (l_op (f_val F0 rfl rfl (r_assign rfl rfl) rfl fun _ F1 => ?_)))
 have F2 : Fr 15 [(6, .bool false), (0, .int .i64 x), (1, .int .i64 least), (2, .int .i64 most)] _ := F1.cut rfl
 clear F0 F1
 refine s_end (x_normal (wp_seq (wp_region_lit (l_op (f_mv F2 rfl rfl rfl rfl rfl fun _ F3 => ?_)))))
 refine l_op (f_mv F3 rfl rfl rfl rfl rfl fun _ F4 => ?_)
 refine l_op (f_val F4 rfl rfl (r_cmp (b := decide (x ≥ least)) (.inr (.inr (.inr (.inr (.inr rfl))))) rfl (F4.ev 7 rfl) (F4.ev 8 rfl) (dec_of (by omega))) rfl fun _ F5 => ?_)
 refine l_op (f_mv F5 rfl rfl rfl rfl rfl fun _ F6 => ?_)
 rcases Decidable.em (x ≥ least) with h7 | h7
 · rw [decide_eq_true h7] at F6
   refine l_op (f_mv F6 (wanted_g F6 rfl rfl rfl rfl) rfl rfl rfl rfl fun _ F8 => ?_)
   refine l_op (f_mv F8 (wanted_g F8 rfl rfl rfl rfl) rfl rfl rfl rfl fun _ F9 => ?_)
   refine l_op (f_val F9 (wanted_g F9 rfl rfl rfl rfl) rfl (r_cmp (b := decide (x ≤ most)) (.inr (.inr (.inr (.inl rfl)))) rfl (F9.ev 11 rfl) (F9.ev 12 rfl) (dec_of (by omega))) rfl fun _ F10 => ?_)
   refine l_op (f_val F10 rfl rfl (r_pick (b := true) rfl (F10.ev 10 rfl) (F10.ev 13 rfl)) rfl fun _ F11 => ?_)
   refine l_op (f_as F11 rfl rfl rfl rfl rfl fun _ F12 => ?_)
   have F13 : Fr 15 [(6, .bool (decide (x ≤ most)))] _ := F12.cut rfl
   clear F2 F3 F4 F5 F6 F8 F9 F10 F11 F12
   refine s_end (x_normal (wp_ret ?_))
   refine x_done (v := .bool (decide (x ≤ most))) F13 (results_1 Tryd.results144 (.tmp (F13.ev 6 rfl))) ?_
   exact ⟨(by rw [(show (decide (x ≤ most)) = (inB x least most) from by unfold inB; first | rfl | exact dec_of (by omega) | exact (decide_eq_false (by omega)).symm | exact (decide_eq_true (by omega)).symm)]), (Mv.pick (Mv.refl (At.nil w)) [] rfl)⟩
 · rw [decide_eq_false h7] at F6
   refine l_op (f_skip F6 (wanted_g F6 rfl rfl rfl rfl) rfl rfl fun _ F14 => ?_)
   refine l_op (f_skip F14 (wanted_g F14 rfl rfl rfl rfl) rfl rfl fun _ F15 => ?_)
   refine l_op (f_skip F15 (wanted_g F15 rfl rfl rfl rfl) rfl rfl fun _ F16 => ?_)
   refine l_op (f_val F16 rfl rfl (r_pick (b := false) rfl (F16.ev 10 rfl) rfl) rfl fun _ F17 => ?_)
   refine l_op (f_as F17 rfl rfl rfl rfl rfl fun _ F18 => ?_)
   have F19 : Fr 15 [(6, .bool false)] _ := F18.cut rfl
   clear F2 F3 F4 F5 F6 F14 F15 F16 F17 F18
   refine s_end (x_normal (wp_ret ?_))
   refine x_done (v := .bool false) F19 (results_1 Tryd.results144 (.tmp (F19.ev 6 rfl))) ?_
   exact ⟨(by rw [(show false = (inB x least most) from by unfold inB; first | rfl | exact dec_of (by omega) | exact (decide_eq_false (by omega)).symm | exact (decide_eq_true (by omega)).symm)]), (Mv.pick (Mv.refl (At.nil w)) [] rfl)⟩
theorem impl_within_c {w : World} {H : Nat → Prop} {n : Int} {low : Int} {high : Int} (h_n : i64ok n) (h_low : i64ok low) (h_high : i64ok high) :
    Calls Tryd.prog 94 #[.int .i64 n, .int .i64 low, .int .i64 high] w fun e w' => e = .returned (.bool (inB n low high)) ∧ Mv [] w [] w' := by
 have uU : True := (fun _ _ _ _ => trivial) H h_n h_low h_high
 clear uU
 refine calls_enter 15 Tryd.func94 rfl Tryd.ntmps94 (Nat.le_of_ble_eq_true rfl) (fun _ F0i => ?_)
 have F0 : Fr 15 [(0, .int .i64 n), (1, .int .i64 low), (2, .int .i64 high)] _ := F0i
 clear F0i
 refine wp_seq (wp_region_lit (l_op (f_val F0 rfl rfl (r_assign rfl rfl) rfl fun _ F1 => ?_)))
 have F2 : Fr 15 [(6, .bool false), (0, .int .i64 n), (1, .int .i64 low), (2, .int .i64 high)] _ := F1.cut rfl
 clear F0 F1
 refine s_end (x_normal (wp_seq (wp_region_lit (l_op (f_mv F2 rfl rfl rfl rfl rfl fun _ F3 => ?_)))))
 refine l_op (f_mv F3 rfl rfl rfl rfl rfl fun _ F4 => ?_)
 refine l_op (f_val F4 rfl rfl (r_cmp (b := decide (n ≥ low)) (.inr (.inr (.inr (.inr (.inr rfl))))) rfl (F4.ev 7 rfl) (F4.ev 8 rfl) (dec_of (by omega))) rfl fun _ F5 => ?_)
 refine l_op (f_mv F5 rfl rfl rfl rfl rfl fun _ F6 => ?_)
 rcases Decidable.em (n ≥ low) with h7 | h7
 · rw [decide_eq_true h7] at F6
   refine l_op (f_mv F6 (wanted_g F6 rfl rfl rfl rfl) rfl rfl rfl rfl fun _ F8 => ?_)
   refine l_op (f_mv F8 (wanted_g F8 rfl rfl rfl rfl) rfl rfl rfl rfl fun _ F9 => ?_)
   refine l_op (f_val F9 (wanted_g F9 rfl rfl rfl rfl) rfl (r_cmp (b := decide (n ≤ high)) (.inr (.inr (.inr (.inl rfl)))) rfl (F9.ev 11 rfl) (F9.ev 12 rfl) (dec_of (by omega))) rfl fun _ F10 => ?_)
   refine l_op (f_val F10 rfl rfl (r_pick (b := true) rfl (F10.ev 10 rfl) (F10.ev 13 rfl)) rfl fun _ F11 => ?_)
   refine l_op (f_as F11 rfl rfl rfl rfl rfl fun _ F12 => ?_)
   have F13 : Fr 15 [(6, .bool (decide (n ≤ high)))] _ := F12.cut rfl
   clear F2 F3 F4 F5 F6 F8 F9 F10 F11 F12
   refine s_end (x_normal (wp_ret ?_))
   refine x_done (v := .bool (decide (n ≤ high))) F13 (results_1 Tryd.results94 (.tmp (F13.ev 6 rfl))) ?_
   exact ⟨(by rw [(show (decide (n ≤ high)) = (inB n low high) from by unfold inB; first | rfl | exact dec_of (by omega) | exact (decide_eq_false (by omega)).symm | exact (decide_eq_true (by omega)).symm)]), (Mv.pick (Mv.refl (At.nil w)) [] rfl)⟩
 · rw [decide_eq_false h7] at F6
   refine l_op (f_skip F6 (wanted_g F6 rfl rfl rfl rfl) rfl rfl fun _ F14 => ?_)
   refine l_op (f_skip F14 (wanted_g F14 rfl rfl rfl rfl) rfl rfl fun _ F15 => ?_)
   refine l_op (f_skip F15 (wanted_g F15 rfl rfl rfl rfl) rfl rfl fun _ F16 => ?_)
   refine l_op (f_val F16 rfl rfl (r_pick (b := false) rfl (F16.ev 10 rfl) rfl) rfl fun _ F17 => ?_)
   refine l_op (f_as F17 rfl rfl rfl rfl rfl fun _ F18 => ?_)
   have F19 : Fr 15 [(6, .bool false)] _ := F18.cut rfl
   clear F2 F3 F4 F5 F6 F14 F15 F16 F17 F18
   refine s_end (x_normal (wp_ret ?_))
   refine x_done (v := .bool false) F19 (results_1 Tryd.results94 (.tmp (F19.ev 6 rfl))) ?_
   exact ⟨(by rw [(show false = (inB n low high) from by unfold inB; first | rfl | exact dec_of (by omega) | exact (decide_eq_false (by omega)).symm | exact (decide_eq_true (by omega)).symm)]), (Mv.pick (Mv.refl (At.nil w)) [] rfl)⟩
theorem spec_GetKey_c {w : World} {H : Nat → Prop} {s : List CellD} {s_a : Option Addr} {s_n s_c : Nat} {key : ByteArray} (v_s : Rd 2 encC okC H w (.slice s_a s_n s_c) s) (h_key : okS key) :
    Calls Tryd.prog 165 #[.slice s_a s_n s_c, .string key] w fun e w' => e = .returned (.string (getKey s key)) ∧ Mv [] w [] w' ∧ okS (getKey s key) := by
 have uU : True := (fun _ => trivial) h_key
 clear uU
 have V_v_s : Rd 2 encC okC (V H w []) w (.slice s_a s_n s_c) s := Rd.start v_s (fun _ _ => fps_nil _)
 obtain ⟨ln_s, le_s, mx_s, ni_s⟩ := Rd.inv v_s
 refine calls_enter 24 Tryd.func165 rfl Tryd.ntmps165 (Nat.le_of_ble_eq_true rfl) (fun _ F0i => ?_)
 have F0 : Fr 24 [(0, .slice s_a s_n s_c), (1, .string key)] _ := F0i
 clear F0i
 refine wp_seq (wp_region_lit (l_op (f_val F0 rfl rfl (r_assign rfl rfl) rfl fun _ F1 => ?_)))
 have F2 : Fr 24 [(4, .string (⟨#[]⟩ : ByteArray)), (0, .slice s_a s_n s_c), (1, .string key)] _ := F1.cut rfl
 clear F0 F1
 refine s_end (x_normal (wp_seq (wp_seq (wp_region_lit (l_op (f_val F2 rfl rfl (r_assign rfl rfl) rfl fun _ F3 => ?_))))))
 have F4 : Fr 24 [(5, .int .i64 0), (0, .slice s_a s_n s_c), (1, .string key)] _ := F3.cut rfl
 clear F2 F3
 refine s_end (x_normal (wp_block ?_))
 refine x_loop (fun (k : Nat) aZ wZ => Fr 24 [(5, .int .i64 ((k : Nat) : Int)), (0, .slice s_a s_n s_c), (1, .string key)] aZ ∧ Mv [] w [] wZ ∧ (k ≤ s_n) ∧ (∀ j, j < k → ∀ y, nth s j = some y → y.key ≠ key)) (fun (k : Nat) => s_n - k) (0) ?_ ?_
 · exact ⟨F4.cut rfl, (Mv.refl (At.nil w)), by omega, all_none⟩
 · rintro k a5 w5 ⟨F5, S5, hk_0, hk_1⟩
   refine wp_seq (wp_seq (wp_region_lit (l_op (f_mv F5 rfl rfl rfl rfl rfl fun _ F6 => ?_))))
   refine l_op (f_mv F6 rfl rfl rfl rfl rfl fun _ F7 => ?_)
   refine l_op (f_val F7 rfl rfl (r_len Tryd.underlying26 rfl (F7.ev 7 rfl)) rfl fun _ F8 => ?_)
   refine l_op (f_val F8 rfl rfl (r_cmp (b := decide (k < s_n)) (.inr (.inr (.inl rfl))) rfl (F8.ev 6 rfl) (F8.ev 8 rfl) (dec_of (by omega))) rfl fun _ F9 => ?_)
   have F10 : Fr 24 [(9, .bool (decide (k < s_n))), (5, .int .i64 ((k : Nat) : Int)), (0, .slice s_a s_n s_c), (1, .string key)] _ := F9.cut rfl
   clear F5 F6 F7 F8 F9
   refine s_end (x_normal (x_cond (p := k < s_n) (F10.ev 9 rfl) (fun h11 => ?_) (fun h11 => ?_)))
   · skip
     refine wp_skip (x_normal (wp_seq (wp_block (wp_seq (wp_region_lit (l_op (f_mv F10 rfl rfl rfl rfl rfl fun _ F12 => ?_)))))))
     refine l_op (f_mv F12 rfl rfl rfl rfl rfl fun _ F13 => ?_)
     obtain ⟨B14, O14, x1, ad14, hx1, okx1, ln14, cl14⟩ := Rd.at (Rd.mv (Nat.succ_pos _) V_v_s S5) k (by first | assumption | omega)
     clear ln14
     refine l_op (f_val F13 rfl rfl (r_indexAddr (i := k) ET_26 rfl ((F13.ev 12 rfl).trans (by rw [ad14])) (F13.ev 13 rfl) (by omega) (by first | assumption | omega)) rfl fun _ F15 => ?_)
     refine l_op (f_val F15 rfl rfl (r_field FI_81_0 rfl (F15.ev 14 rfl) rfl) rfl fun _ F16 => ?_)
     refine l_op (f_val (v := .string x1.key) F16 rfl rfl (r_load (cs := [.string x1.key]) TI_9 rfl (F16.ev 15 rfl) rfl (fun _ => rfl) (elem_sub (f := 0) cl14 [.string x1.key] rfl)) rfl fun _ F17 => ?_)
     refine l_op (f_mv F17 rfl rfl rfl rfl rfl fun _ F18 => ?_)
     refine l_op (f_val F18 rfl rfl (r_cmps (b := (decide (x1.key = key))) (.inl rfl) rfl (F18.ev 16 rfl) (F18.ev 17 rfl) rfl) rfl fun _ F19 => ?_)
     have F20 : Fr 24 [(18, .bool (decide (x1.key = key))), (5, .int .i64 ((k : Nat) : Int)), (0, .slice s_a s_n s_c), (1, .string key)] _ := F19.cut rfl
     clear F10 F12 F13 F15 F16 F17 F18 F19
     refine s_end (x_normal (x_cond (p := x1.key = key) (F20.ev 18 rfl) (fun h21 => ?_) (fun h21 => ?_)))
     · skip
       refine wp_seq (wp_region_lit (l_op (f_mv F20 rfl rfl rfl rfl rfl fun _ F22 => ?_)))
       refine l_op (f_mv F22 rfl rfl rfl rfl rfl fun _ F23 => ?_)
       obtain ⟨B24, O24, y24, ad24, hy24, oky24, ln24, cl24⟩ := Rd.at (Rd.mv (Nat.succ_pos _) V_v_s S5) k (by first | assumption | omega)
       clear ln24
       obtain rfl := Option.some.inj (hx1.symm.trans hy24)
       clear hy24 oky24
       refine l_op (f_val F23 rfl rfl (r_indexAddr (i := k) ET_26 rfl ((F23.ev 19 rfl).trans (by rw [ad24])) (F23.ev 20 rfl) (by omega) (by first | assumption | omega)) rfl fun _ F25 => ?_)
       refine l_op (f_val F25 rfl rfl (r_field FI_81_1 rfl (F25.ev 21 rfl) rfl) rfl fun _ F26 => ?_)
       refine l_op (f_val (v := .string x1.val) F26 rfl rfl (r_load (cs := [.string x1.val]) TI_9 rfl (F26.ev 22 rfl) rfl (fun _ => rfl) (elem_sub (f := 1) cl24 [.string x1.val] rfl)) rfl fun _ F27 => ?_)
       refine l_op (f_as F27 rfl rfl rfl rfl rfl fun _ F28 => ?_)
       have F29 : Fr 24 [(4, .string x1.val)] _ := F28.cut rfl
       clear F20 F22 F23 F25 F26 F27 F28
       refine s_end (x_normal (wp_ret (x_block_ret (x_then_ret (x_then_ret (x_block_ret (x_then_ret ?_)))))))
       refine x_done (v := .string x1.val) F29 (results_1 Tryd.results165 (.tmp (F29.ev 4 rfl))) ?_
       exact ⟨(by rw [(show x1.val = (getKey s key) from by exact (getKey_found hx1 (by assumption) hk_1).symm)]), (Mv.pick S5 [] rfl), ((show x1.val = (getKey s key) from by exact (getKey_found hx1 (by assumption) hk_1).symm) ▸ okx1.2)⟩
     · skip
       refine wp_skip (x_block_normal (x_normal (wp_region_lit (l_op (f_mv F20 rfl rfl rfl rfl rfl fun _ F30 => ?_)))))
       refine l_op (f_val F30 rfl rfl (r_add (z := ((k + 1 : Nat) : Int)) rfl (F30.ev 10 rfl) rfl (by first | rfl | omega) ⟨by first | omega | (unfold i64ok at *; omega), by first | omega | (unfold i64ok at *; omega)⟩) rfl fun _ F31 => ?_)
       refine l_op (f_as F31 rfl rfl rfl rfl rfl fun _ F32 => ?_)
       have F33 : Fr 24 [(5, .int .i64 ((k + 1 : Nat) : Int)), (0, .slice s_a s_n s_c), (1, .string key)] _ := F32.cut rfl
       clear F20 F30 F31 F32
       refine s_end ?_
       refine x_normal ⟨k + 1, by omega, F33.cut rfl, (S5.pick [] rfl), by omega, all_step hk_1 (fun y hy => by obtain rfl := Option.some.inj (hx1.symm.trans hy); assumption)⟩
   · skip
     refine wp_exit (x_then_exit (x_then_exit (x_block_here (x_normal (wp_seq (wp_region_lit (l_op (f_val F10 rfl rfl (r_assign rfl rfl) rfl fun _ F34 => ?_))))))))
     have F35 : Fr 24 [(4, .string (⟨#[]⟩ : ByteArray))] _ := F34.cut rfl
     clear F10 F34
     refine s_end (x_normal (wp_ret ?_))
     refine x_done (v := .string (⟨#[]⟩ : ByteArray)) F35 (results_1 Tryd.results165 (.tmp (F35.ev 4 rfl))) ?_
     exact ⟨(by rw [(show (⟨#[]⟩ : ByteArray) = (getKey s key) from by exact (getKey_none (by omega) hk_1).symm)]), (Mv.pick S5 [] rfl), ((show (⟨#[]⟩ : ByteArray) = (getKey s key) from by exact (getKey_none (by omega) hk_1).symm) ▸ (by unfold okS; decide))⟩
end Go.Proofs.YtjiplnaceiofmaaDoor
