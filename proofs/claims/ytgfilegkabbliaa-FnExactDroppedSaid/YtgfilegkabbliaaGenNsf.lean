/-
  Walks: transactions are dropped.
-/
import Derived.Test.YtgfilegkabbliaaGenNse
namespace Go.Proofs.Ytgfilegkabbliaa
open Go.ChangeShapes Go.WideShapes Go.ChangeAt Go.RowKit
set_option maxRecDepth 100000
set_option maxHeartbeats 1000000
theorem slices_Index_Sint_int_c {w : World} {H : Nat → Prop} {s : List Int} {s_a : Option Addr} {s_n s_c : Nat} {v : Int} (v_s : Rd 1 encI okI H w (.slice s_a s_n s_c) s) (h_v : i64ok v) :
    Calls Try.prog 126 #[.slice s_a s_n s_c, .int .i64 v] w fun e w' => e = .returned (.int .i64 (idxP (fun c => decide (v = c)) s)) ∧ Mv [] w [] w' ∧ i64ok (idxP (fun c => decide (v = c)) s) := by
 have uU : True := (fun _ => trivial) h_v
 clear uU
 have V_v_s : Rd 1 encI okI (V H w []) w (.slice s_a s_n s_c) s := Rd.start v_s (fun _ _ => fps_nil _)
 obtain ⟨ln_s, le_s, mx_s, ni_s⟩ := Rd.inv v_s
 refine calls_enter 19 Try.func126 rfl Try.ntmps126 (Nat.le_of_ble_eq_true rfl) (fun _ F0i => ?_)
 have F0 : Fr 19 [(0, .slice s_a s_n s_c), (1, .int .i64 v)] _ := F0i
 clear F0i
 refine wp_seq (wp_region_lit (l_op (f_val F0 rfl rfl (r_assign rfl rfl) rfl fun _ F1 => ?_)))
 have F2 : Fr 19 [(4, .int .i64 0), (0, .slice s_a s_n s_c), (1, .int .i64 v)] _ := F1.cut rfl
 clear F0 F1
 refine s_end (x_normal (wp_seq (wp_seq (wp_region_lit (l_op (f_mv F2 rfl rfl rfl rfl rfl fun _ F3 => ?_))))))
 refine l_op (f_val F3 rfl rfl (r_len Try.underlying53 rfl (F3.ev 6 rfl)) rfl fun _ F4 => ?_)
 refine l_op (f_val F4 rfl rfl (r_move rfl rfl) rfl fun _ F5 => ?_)
 have F6 : Fr 19 [(8, .int .i64 0), (7, .int .i64 ((s_n : Nat) : Int)), (0, .slice s_a s_n s_c), (1, .int .i64 v)] _ := F5.cut rfl
 clear F2 F3 F4 F5
 refine s_end (x_normal (wp_block ?_))
 refine x_loop (fun (k : Nat) aZ wZ => Fr 19 [(8, .int .i64 ((k : Nat) : Int)), (7, .int .i64 ((s_n : Nat) : Int)), (0, .slice s_a s_n s_c), (1, .int .i64 v)] aZ ∧ Mv [] w [] wZ ∧ (k ≤ s_n) ∧ (∀ j, j < k → ∀ c, nth s j = some c → decide (v = c) = false)) (fun (k : Nat) => s_n - k) (0) ?_ ?_
 · exact ⟨F6.cut rfl, (Mv.refl (At.nil w)), by omega, all_none⟩
 · rintro k a7 w7 ⟨F7, S7, hk_0, hk_1⟩
   refine wp_seq (wp_region_lit (l_op (f_val F7 rfl rfl (r_cmp (b := decide (k < s_n)) (.inr (.inr (.inl rfl))) rfl (F7.ev 8 rfl) (F7.ev 7 rfl) (dec_of (by omega))) rfl fun _ F8 => ?_)))
   have F9 : Fr 19 [(9, .bool (decide (k < s_n))), (8, .int .i64 ((k : Nat) : Int)), (7, .int .i64 ((s_n : Nat) : Int)), (0, .slice s_a s_n s_c), (1, .int .i64 v)] _ := F8.cut rfl
   clear F7 F8
   refine s_end (x_normal (wp_seq (x_cond (p := k < s_n) (F9.ev 9 rfl) (fun h10 => ?_) (fun h10 => ?_))))
   · skip
     refine wp_skip (x_normal (wp_seq (wp_block (wp_seq (wp_region_lit (l_op (f_mv F9 rfl rfl rfl rfl rfl fun _ F11 => ?_)))))))
     refine l_op (f_as F11 rfl rfl rfl rfl rfl fun _ F12 => ?_)
     have F13 : Fr 19 [(5, .int .i64 ((k : Nat) : Int)), (8, .int .i64 ((k : Nat) : Int)), (7, .int .i64 ((s_n : Nat) : Int)), (0, .slice s_a s_n s_c), (1, .int .i64 v)] _ := F12.cut rfl
     clear F9 F11 F12
     refine s_end (x_normal (wp_seq (wp_region_lit (l_op (f_mv F13 rfl rfl rfl rfl rfl fun _ F14 => ?_)))))
     refine l_op (f_mv F14 rfl rfl rfl rfl rfl fun _ F15 => ?_)
     refine l_op (f_mv F15 rfl rfl rfl rfl rfl fun _ F16 => ?_)
     obtain ⟨B17, O17, x1, ad17, hx1, okx1, ln17, cl17⟩ := Rd.at (Rd.mv (Nat.succ_pos _) V_v_s S7) k (by first | assumption | omega)
     clear ln17
     refine l_op (f_val F16 rfl rfl (r_indexAddr (i := k) ET_53 rfl ((F16.ev 12 rfl).trans (by rw [ad17])) (F16.ev 13 rfl) (by omega) (by first | assumption | omega)) rfl fun _ F18 => ?_)
     refine l_op (f_val (v := .int .i64 x1) F18 rfl rfl (r_load (cs := [.int .i64 x1]) TI_3 rfl (F18.ev 14 rfl) rfl (fun _ => rfl) (elem_sub (f := 0) cl17 [.int .i64 x1] rfl)) rfl fun _ F19 => ?_)
     refine l_op (f_val F19 rfl rfl (r_cmp (b := decide (v = x1)) (.inl rfl) rfl (F19.ev 11 rfl) (F19.ev 15 rfl) (dec_of (by omega))) rfl fun _ F20 => ?_)
     have F21 : Fr 19 [(16, .bool (decide (v = x1))), (5, .int .i64 ((k : Nat) : Int)), (8, .int .i64 ((k : Nat) : Int)), (7, .int .i64 ((s_n : Nat) : Int)), (0, .slice s_a s_n s_c), (1, .int .i64 v)] _ := F20.cut rfl
     clear F13 F14 F15 F16 F18 F19 F20
     refine s_end (x_normal (x_cond (p := v = x1) (F21.ev 16 rfl) (fun h22 => ?_) (fun h22 => ?_)))
     · skip
       refine wp_seq (wp_region_lit (l_op (f_mv F21 rfl rfl rfl rfl rfl fun _ F23 => ?_)))
       refine l_op (f_as F23 rfl rfl rfl rfl rfl fun _ F24 => ?_)
       have F25 : Fr 19 [(4, .int .i64 ((k : Nat) : Int))] _ := F24.cut rfl
       clear F21 F23 F24
       refine s_end (x_normal (wp_ret (x_block_ret (x_then_ret (x_then_ret (x_block_ret (x_then_ret ?_)))))))
       refine x_done (v := .int .i64 ((k : Nat) : Int)) F25 (results_1 Try.results126 (.tmp (F25.ev 4 rfl))) ?_
       exact ⟨(by rw [(show ((k : Nat) : Int) = (idxP (fun c => decide (v = c)) s) from by exact (idxP_found _ s k _ (by rw [← nth_eq]; exact hx1) (decide_eq_true (by assumption)) (fun q hq y hy => hk_1 q hq y (by rw [nth_eq]; exact hy))).symm)]), (Mv.pick S7 [] rfl), idxP_ok _ s (by omega)⟩
     · skip
       refine wp_skip (x_block_normal (x_normal (wp_region_lit (l_op (f_val F21 rfl rfl (r_add (z := ((k + 1 : Nat) : Int)) rfl (F21.ev 8 rfl) rfl (by first | rfl | omega) ⟨by first | omega | (unfold i64ok at *; omega), by first | omega | (unfold i64ok at *; omega)⟩) rfl fun _ F26 => ?_)))))
       refine l_op (f_mv F26 rfl rfl rfl rfl rfl fun _ F27 => ?_)
       have F28 : Fr 19 [(8, .int .i64 ((k + 1 : Nat) : Int)), (7, .int .i64 ((s_n : Nat) : Int)), (0, .slice s_a s_n s_c), (1, .int .i64 v)] _ := F27.cut rfl
       clear F21 F26 F27
       refine s_end ?_
       refine x_normal ⟨k + 1, by omega, F28.cut rfl, (S7.pick [] rfl), by omega, all_step hk_1 (fun c hc => by obtain rfl := Option.some.inj (hx1.symm.trans hc); exact decide_eq_false (by assumption))⟩
   · skip
     refine wp_exit (x_then_exit (x_then_exit (x_block_here (x_normal (wp_seq (wp_region_lit (l_op (f_val F9 rfl rfl (r_assign rfl rfl) rfl fun _ F29 => ?_))))))))
     have F30 : Fr 19 [(4, .int .i64 (-1))] _ := F29.cut rfl
     clear F9 F29
     refine s_end (x_normal (wp_ret ?_))
     refine x_done (v := .int .i64 (-1)) F30 (results_1 Try.results126 (.tmp (F30.ev 4 rfl))) ?_
     exact ⟨(by rw [(show (-1) = (idxP (fun c => decide (v = c)) s) from by exact (idxP_none _ s (fun q hq y hy => hk_1 q (by omega) y (by rw [nth_eq]; exact hy))).symm)]), (Mv.pick S7 [] rfl), idxP_ok _ s (by omega)⟩
theorem slices_Contains_Sint_int_c {w : World} {H : Nat → Prop} {s : List Int} {s_a : Option Addr} {s_n s_c : Nat} {v : Int} (v_s : Rd 1 encI okI H w (.slice s_a s_n s_c) s) (h_v : i64ok v) :
    Calls Try.prog 78 #[.slice s_a s_n s_c, .int .i64 v] w fun e w' => e = .returned (.bool (decide (v ∈ s))) ∧ Mv [] w [] w' := by
 have V_v_s : Rd 1 encI okI (V H w []) w (.slice s_a s_n s_c) s := Rd.start v_s (fun _ _ => fps_nil _)
 obtain ⟨ln_s, le_s, mx_s, ni_s⟩ := Rd.inv v_s
 refine calls_enter 9 Try.func78 rfl Try.ntmps78 (Nat.le_of_ble_eq_true rfl) (fun _ F0i => ?_)
 have F0 : Fr 9 [(0, .slice s_a s_n s_c), (1, .int .i64 v)] _ := F0i
 clear F0i
 refine wp_seq (wp_region_lit (l_op (f_val F0 rfl rfl (r_assign rfl rfl) rfl fun _ F1 => ?_)))
 have F2 : Fr 9 [(4, .bool false), (0, .slice s_a s_n s_c), (1, .int .i64 v)] _ := F1.cut rfl
 clear F0 F1
 refine s_end (x_normal (wp_seq (wp_region_lit (l_op (f_mv F2 rfl rfl rfl rfl rfl fun _ F3 => ?_)))))
 refine l_op (f_mv F3 rfl rfl rfl rfl rfl fun _ F4 => ?_)
 refine l_op (f_call F4 CF_126 rfl rfl rfl rfl (lc (F4.ev 5 rfl) (lc (F4.ev 6 rfl) rfl)) (slices_Index_Sint_int_c (s := s) (v := v) V_v_s h_v) ?_)
 rintro _ w5 ⟨rfl, m5, q5_0⟩
 refine ⟨_, rfl, fun _ F6 => ?_⟩
 have S5 := At.frame0 (At.nil w) m5
 clear m5
 refine l_op (f_val F6 rfl rfl (r_cmp (b := decide ((idxP (fun c => decide (v = c)) s) ≥ 0)) (.inr (.inr (.inr (.inr (.inr rfl))))) rfl (F6.ev 7 rfl) rfl (dec_of (by omega))) rfl fun _ F7 => ?_)
 refine l_op (f_as F7 rfl rfl rfl rfl rfl fun _ F8 => ?_)
 have F9 : Fr 9 [(4, .bool (decide ((idxP (fun c => decide (v = c)) s) ≥ 0)))] _ := F8.cut rfl
 clear F2 F3 F4 F6 F7 F8
 have T10 : Mv _ _ [] _ := S5
 refine s_end (x_normal (wp_ret ?_))
 refine x_done (v := .bool (decide ((idxP (fun c => decide (v = c)) s) ≥ 0))) F9 (results_1 Try.results78 (.tmp (F9.ev 4 rfl))) ?_
 exact ⟨(by rw [(show (decide ((idxP (fun c => decide (v = c)) s) ≥ 0)) = (decide (v ∈ s)) from by exact idx_mem)]), (Mv.pick T10 [] rfl)⟩
theorem spec_l19Has_c {w : World} {H : Nat → Prop} {list : List Int} {list_a : Option Addr} {list_n list_c : Nat} {n : Int} (v_list : Rd 1 encI okI H w (.slice list_a list_n list_c) list) (h_n : i64ok n) :
    Calls Try.prog 76 #[.slice list_a list_n list_c, .int .i64 n] w fun e w' => e = .returned (.bool (decide (n ∈ list))) ∧ Mv [] w [] w' := by
 have uU : True := (fun _ => trivial) h_n
 clear uU
 have V_v_list : Rd 1 encI okI (V H w []) w (.slice list_a list_n list_c) list := Rd.start v_list (fun _ _ => fps_nil _)
 obtain ⟨ln_list, le_list, mx_list, ni_list⟩ := Rd.inv v_list
 refine calls_enter 18 Try.func76 rfl Try.ntmps76 (Nat.le_of_ble_eq_true rfl) (fun _ F0i => ?_)
 have F0 : Fr 18 [(0, .slice list_a list_n list_c), (1, .int .i64 n)] _ := F0i
 clear F0i
 refine wp_seq (wp_region_lit (l_op (f_val F0 rfl rfl (r_assign rfl rfl) rfl fun _ F1 => ?_)))
 have F2 : Fr 18 [(4, .bool false), (0, .slice list_a list_n list_c), (1, .int .i64 n)] _ := F1.cut rfl
 clear F0 F1
 refine s_end (x_normal (wp_seq (wp_seq (wp_region_lit (l_op (f_val F2 rfl rfl (r_assign rfl rfl) rfl fun _ F3 => ?_))))))
 have F4 : Fr 18 [(5, .int .i64 0), (0, .slice list_a list_n list_c), (1, .int .i64 n)] _ := F3.cut rfl
 clear F2 F3
 refine s_end (x_normal (wp_block ?_))
 refine x_loop (fun (k : Nat) aZ wZ => Fr 18 [(5, .int .i64 ((k : Nat) : Int)), (0, .slice list_a list_n list_c), (1, .int .i64 n)] aZ ∧ Mv [] w [] wZ ∧ (k ≤ list_n) ∧ (∀ j, j < k → ∀ c, nth list j = some c → ¬ c = n)) (fun (k : Nat) => list_n - k) (0) ?_ ?_
 · exact ⟨F4.cut rfl, (Mv.refl (At.nil w)), by omega, all_none'⟩
 · rintro k a5 w5 ⟨F5, S5, hk_0, hk_1⟩
   refine wp_seq (wp_seq (wp_region_lit (l_op (f_mv F5 rfl rfl rfl rfl rfl fun _ F6 => ?_))))
   refine l_op (f_mv F6 rfl rfl rfl rfl rfl fun _ F7 => ?_)
   refine l_op (f_val F7 rfl rfl (r_len Try.underlying53 rfl (F7.ev 7 rfl)) rfl fun _ F8 => ?_)
   refine l_op (f_val F8 rfl rfl (r_cmp (b := decide (k < list_n)) (.inr (.inr (.inl rfl))) rfl (F8.ev 6 rfl) (F8.ev 8 rfl) (dec_of (by omega))) rfl fun _ F9 => ?_)
   have F10 : Fr 18 [(9, .bool (decide (k < list_n))), (5, .int .i64 ((k : Nat) : Int)), (0, .slice list_a list_n list_c), (1, .int .i64 n)] _ := F9.cut rfl
   clear F5 F6 F7 F8 F9
   refine s_end (x_normal (x_cond (p := k < list_n) (F10.ev 9 rfl) (fun h11 => ?_) (fun h11 => ?_)))
   · skip
     refine wp_skip (x_normal (wp_seq (wp_block (wp_seq (wp_region_lit (l_op (f_mv F10 rfl rfl rfl rfl rfl fun _ F12 => ?_)))))))
     refine l_op (f_mv F12 rfl rfl rfl rfl rfl fun _ F13 => ?_)
     obtain ⟨B14, O14, x1, ad14, hx1, okx1, ln14, cl14⟩ := Rd.at (Rd.mv (Nat.succ_pos _) V_v_list S5) k (by first | assumption | omega)
     clear ln14
     refine l_op (f_val F13 rfl rfl (r_indexAddr (i := k) ET_53 rfl ((F13.ev 12 rfl).trans (by rw [ad14])) (F13.ev 13 rfl) (by omega) (by first | assumption | omega)) rfl fun _ F15 => ?_)
     refine l_op (f_val (v := .int .i64 x1) F15 rfl rfl (r_load (cs := [.int .i64 x1]) TI_3 rfl (F15.ev 14 rfl) rfl (fun _ => rfl) (elem_sub (f := 0) cl14 [.int .i64 x1] rfl)) rfl fun _ F16 => ?_)
     refine l_op (f_mv F16 rfl rfl rfl rfl rfl fun _ F17 => ?_)
     refine l_op (f_val F17 rfl rfl (r_cmp (b := decide (x1 = n)) (.inl rfl) rfl (F17.ev 15 rfl) (F17.ev 16 rfl) (dec_of (by omega))) rfl fun _ F18 => ?_)
     have F19 : Fr 18 [(17, .bool (decide (x1 = n))), (5, .int .i64 ((k : Nat) : Int)), (0, .slice list_a list_n list_c), (1, .int .i64 n)] _ := F18.cut rfl
     clear F10 F12 F13 F15 F16 F17 F18
     refine s_end (x_normal (x_cond (p := x1 = n) (F19.ev 17 rfl) (fun h20 => ?_) (fun h20 => ?_)))
     · skip
       refine wp_seq (wp_region_lit (l_op (f_val F19 rfl rfl (r_assign rfl rfl) rfl fun _ F21 => ?_)))
       have F22 : Fr 18 [(4, .bool true)] _ := F21.cut rfl
       clear F19 F21
       refine s_end (x_normal (wp_ret (x_block_ret (x_then_ret (x_then_ret (x_block_ret (x_then_ret ?_)))))))
       refine x_done (v := .bool true) F22 (results_1 Try.results76 (.tmp (F22.ev 4 rfl))) ?_
       exact ⟨(by rw [(show true = (decide (n ∈ list)) from by exact (decide_eq_true (has_t hx1 (by assumption))).symm)]), (Mv.pick S5 [] rfl)⟩
     · skip
       refine wp_skip (x_block_normal (x_normal (wp_region_lit (l_op (f_mv F19 rfl rfl rfl rfl rfl fun _ F23 => ?_)))))
       refine l_op (f_val F23 rfl rfl (r_add (z := ((k + 1 : Nat) : Int)) rfl (F23.ev 10 rfl) rfl (by first | rfl | omega) ⟨by first | omega | (unfold i64ok at *; omega), by first | omega | (unfold i64ok at *; omega)⟩) rfl fun _ F24 => ?_)
       refine l_op (f_as F24 rfl rfl rfl rfl rfl fun _ F25 => ?_)
       have F26 : Fr 18 [(5, .int .i64 ((k + 1 : Nat) : Int)), (0, .slice list_a list_n list_c), (1, .int .i64 n)] _ := F25.cut rfl
       clear F19 F23 F24 F25
       refine s_end ?_
       refine x_normal ⟨k + 1, by omega, F26.cut rfl, (S5.pick [] rfl), by omega, all_stepP hk_1 (fun c hc => by obtain rfl := Option.some.inj (hx1.symm.trans hc); assumption)⟩
   · skip
     refine wp_exit (x_then_exit (x_then_exit (x_block_here (x_normal (wp_seq (wp_region_lit (l_op (f_val F10 rfl rfl (r_assign rfl rfl) rfl fun _ F27 => ?_))))))))
     have F28 : Fr 18 [(4, .bool false)] _ := F27.cut rfl
     clear F10 F27
     refine s_end (x_normal (wp_ret ?_))
     refine x_done (v := .bool false) F28 (results_1 Try.results76 (.tmp (F28.ev 4 rfl))) ?_
     exact ⟨(by rw [(show false = (decide (n ∈ list)) from by exact (decide_eq_false (has_f (by omega) hk_1)).symm)]), (Mv.pick S5 [] rfl)⟩
theorem impl_Dropped_c {w : World} {H : Nat → Prop} {list : List TxH} {list_a : Option Addr} {list_n list_c : Nat} {ids : List Int} {ids_a : Option Addr} {ids_n ids_c : Nat} {L : List TxD} (v_list : Rd 10 encTx okTx H w (.slice list_a list_n list_c) list) (u_list : NRd inTx H w list) (v_ids : Rd 1 encI okI H w (.slice ids_a ids_n ids_c) ids) (p0 : list.map TxH.d = L) (p1 : txsFit 1048576 L) :
    Calls Try.prog 35 #[.slice list_a list_n list_c, .slice ids_a ids_n ids_c] w fun e w' => ∃ (D : List TxH), ∃ (r0_a : Option Addr), ∃ (r0_n : Nat), ∃ (r0_c : Nat), e = .returned (.slice r0_a r0_n r0_c) ∧ Mv [] w [ow 71 10 encTx okTx (.slice r0_a r0_n r0_c) D, gr inTx D] w' ∧ D.map TxH.d = dropL ids L := by
 have hLn := dM_len p0
 have hll := p1.1
 have V_v_list : Rd 10 encTx okTx (V H w []) w (.slice list_a list_n list_c) list := Rd.start v_list (fun _ _ => fps_nil _)
 obtain ⟨ln_list, le_list, mx_list, ni_list⟩ := Rd.inv v_list
 have V_v_ids : Rd 1 encI okI (V H w []) w (.slice ids_a ids_n ids_c) ids := Rd.start v_ids (fun _ _ => fps_nil _)
 obtain ⟨ln_ids, le_ids, mx_ids, ni_ids⟩ := Rd.inv v_ids
 have V_u_list : NRd inTx (V H w []) w list := NRd.start u_list (fun _ _ => fps_nil _)
 refine calls_enter 32 Try.func35 rfl Try.ntmps35 (Nat.le_of_ble_eq_true rfl) (fun _ F0i => ?_)
 have F0 : Fr 32 [(0, .slice list_a list_n list_c), (1, .slice ids_a ids_n ids_c)] _ := F0i
 clear F0i
 refine wp_seq (wp_region_lit (l_op (f_val F0 rfl rfl (r_assign rfl rfl) rfl fun _ F1 => ?_)))
 have F2 : Fr 32 [(4, .slice none 0 0), (0, .slice list_a list_n list_c), (1, .slice ids_a ids_n ids_c)] _ := F1.cut rfl
 clear F0 F1
 refine s_end (x_normal (wp_seq (wp_region_lit (l_op (f_mv F2 rfl rfl rfl rfl rfl fun _ F3 => ?_)))))
 refine l_op (f_call F3 CF_77 rfl rfl rfl rfl (lc (F3.ev 8 rfl) rfl) (impl_txsCopy_c (list := list) V_v_list V_u_list (by rw [p0]; exact p1)) ?_)
 rintro _ w4 ⟨D_4, r0_a_4, r0_n_4, r0_c_4, rfl, m4, q4_0, q4_1⟩
 refine ⟨_, rfl, fun _ F5 => ?_⟩
 have S4 : Mv _ _ [ow 71 10 encTx okTx (.slice r0_a_4 r0_n_4 r0_c_4) D_4, gr inTx D_4] _ := At.frame (At.nil w) [] rfl m4
 obtain ⟨lo4_0, lp4_0, lq4_0⟩ := At.ownInv S4.at' ET_39.hk 0 rfl
 clear m4
 refine l_op (f_as F5 rfl rfl rfl rfl rfl fun _ F6 => ?_)
 have F7 : Fr 32 [(5, .slice r0_a_4 r0_n_4 r0_c_4), (1, .slice ids_a ids_n ids_c)] _ := F6.cut rfl
 clear F2 F3 F5 F6
 refine s_end (x_normal (wp_seq (wp_seq (wp_region_lit (l_op (f_mv F7 rfl rfl rfl rfl rfl fun _ F8 => ?_))))))
 refine l_op (f_val F8 rfl rfl (r_len Try.underlying39 rfl (F8.ev 10 rfl)) rfl fun _ F9 => ?_)
 refine l_op (f_val F9 rfl rfl (r_move rfl rfl) rfl fun _ F10 => ?_)
 have F11 : Fr 32 [(12, .int .i64 0), (11, .int .i64 ((r0_n_4 : Nat) : Int)), (10, .slice r0_a_4 r0_n_4 r0_c_4), (5, .slice r0_a_4 r0_n_4 r0_c_4), (1, .slice ids_a ids_n ids_c)] _ := F10.cut rfl
 clear F7 F8 F9 F10
 refine s_end (x_normal (wp_block ?_))
 refine x_loop (fun (k : Nat) aZ wZ => ∃ (D : List TxH), Fr 32 [(12, .int .i64 ((k : Nat) : Int)), (11, .int .i64 ((r0_n_4 : Nat) : Int)), (10, .slice r0_a_4 r0_n_4 r0_c_4), (5, .slice r0_a_4 r0_n_4 r0_c_4), (1, .slice ids_a ids_n ids_c)] aZ ∧ Mv [ow 71 10 encTx okTx (.slice r0_a_4 r0_n_4 r0_c_4) D_4, gr inTx D_4] w4 [ow 71 10 encTx okTx (.slice r0_a_4 r0_n_4 r0_c_4) D, gr inTx D] wZ ∧ (k ≤ list_n) ∧ (D.map TxH.d = upM (dropE ids) k L) ∧ (D.length = list_n)) (fun (k : Nat) => list_n - k) (0) ?_ ?_
 · exact ⟨D_4, F11.cut rfl, (Mv.refl S4.at'), by omega, Eq.trans (by assumption) p0, by omega⟩
 · rintro k a12 w12 ⟨D, F12, S12, hk_0, hk_1, hk_2⟩
   refine wp_seq (wp_region_lit (l_op (f_val F12 rfl rfl (r_cmp (b := decide (k < r0_n_4)) (.inr (.inr (.inl rfl))) rfl (F12.ev 12 rfl) (F12.ev 11 rfl) (dec_of (by omega))) rfl fun _ F13 => ?_)))
   have F14 : Fr 32 [(13, .bool (decide (k < r0_n_4))), (12, .int .i64 ((k : Nat) : Int)), (11, .int .i64 ((r0_n_4 : Nat) : Int)), (10, .slice r0_a_4 r0_n_4 r0_c_4), (5, .slice r0_a_4 r0_n_4 r0_c_4), (1, .slice ids_a ids_n ids_c)] _ := F13.cut rfl
   clear F12 F13
   refine s_end (x_normal (wp_seq (x_cond (p := k < r0_n_4) (F14.ev 13 rfl) (fun h15 => ?_) (fun h15 => ?_))))
   · skip
     refine wp_skip (x_normal (wp_seq (wp_block (wp_seq (wp_region_lit (l_op (f_mv F14 rfl rfl rfl rfl rfl fun _ F16 => ?_)))))))
     obtain ⟨B17, x1, ad17, hx1, okx1, cl17⟩ := At.ownAt S12.at' ET_39.hk 0 rfl k (by first | assumption | omega)
     have oj18 := okx1
     obtain ⟨oi18_0, oi18_1, oi18_2, oi18_3, oi18_4⟩ := oj18
     obtain ⟨ln19, le19, mx19, ni19⟩ := Rd.inv (show Rd 6 encK okK (fun _ => True) w12 (.slice x1.a0 x1.n0 x1.c0) x1.d.calls from NRd.get (At.nrd S12.at' 1 rfl) hx1 (j := 0) rfl)
     obtain ⟨ln20, le20, mx20, ni20⟩ := Rd.inv (show Rd 3 encR okR (fun _ => True) w12 (.slice x1.a1 x1.n1 x1.c1) x1.d.answers from NRd.get (At.nrd S12.at' 1 rfl) hx1 (j := 1) rfl)
     obtain ⟨ln21, le21, mx21, ni21⟩ := Rd.inv (show Rd 1 encS okS (fun _ => True) w12 (.slice x1.a2 x1.n2 x1.c2) x1.d.touch.reads from NRd.get (At.nrd S12.at' 1 rfl) hx1 (j := 2) rfl)
     obtain ⟨ln22, le22, mx22, ni22⟩ := Rd.inv (show Rd 1 encS okS (fun _ => True) w12 (.slice x1.a3 x1.n3 x1.c3) x1.d.touch.writes from NRd.get (At.nrd S12.at' 1 rfl) hx1 (j := 3) rfl)
     obtain ⟨ln23, le23, mx23, ni23⟩ := Rd.inv (show Rd 1 encI okI (fun _ => True) w12 (.slice x1.a4 x1.n4 x1.c4) x1.d.marks from NRd.get (At.nrd S12.at' 1 rfl) hx1 (j := 4) rfl)
     refine l_op (f_val F16 rfl rfl (r_indexAddr (i := k) ET_39 rfl ((F16.ev 10 rfl).trans (by rw [ad17])) (F16.ev 12 rfl) (by omega) (by first | assumption | omega)) rfl fun _ F24 => ?_)
     refine l_op (f_val (v := .agg #[.int .i64 x1.d.id, .int .i64 x1.d.age, .int .i64 x1.d.proc, .int .i64 x1.d.began, .slice x1.a0 x1.n0 x1.c0, .slice x1.a1 x1.n1 x1.c1, .slice x1.a2 x1.n2 x1.c2, .slice x1.a3 x1.n3 x1.c3, .slice x1.a4 x1.n4 x1.c4, .int .i64 x1.d.state]) F24 rfl rfl (r_load (cs := [.int .i64 x1.d.id, .int .i64 x1.d.age, .int .i64 x1.d.proc, .int .i64 x1.d.began, .slice x1.a0 x1.n0 x1.c0, .slice x1.a1 x1.n1 x1.c1, .slice x1.a2 x1.n2 x1.c2, .slice x1.a3 x1.n3 x1.c3, .slice x1.a4 x1.n4 x1.c4, .int .i64 x1.d.state]) TI_71 rfl (F24.ev 15 rfl) rfl (fun h => nomatch h) (elem_sub (f := 0) cl17 [.int .i64 x1.d.id, .int .i64 x1.d.age, .int .i64 x1.d.proc, .int .i64 x1.d.began, .slice x1.a0 x1.n0 x1.c0, .slice x1.a1 x1.n1 x1.c1, .slice x1.a2 x1.n2 x1.c2, .slice x1.a3 x1.n3 x1.c3, .slice x1.a4 x1.n4 x1.c4, .int .i64 x1.d.state] rfl)) rfl fun _ F25 => ?_)
     refine l_op (f_alloc F25 S12.at' ZI_71 rfl rfl rfl rfl rfl fun b26 _ w26 F27 S26 => ?_)
     refine l_op (f_as F27 rfl rfl rfl rfl rfl fun _ F28 => ?_)
     refine l_op (s_store S26.at' 0 TI_71 rfl rfl rfl rfl rfl (F28.ev 7 rfl) (F28.ev 16 rfl) rfl rfl rfl rfl rfl fun w29 S29 => ?_)
     have F30 : Fr 32 [(6, .int .i64 ((k : Nat) : Int)), (7, .pointer (some ⟨b26, 0, none⟩)), (16, .agg #[.int .i64 x1.d.id, .int .i64 x1.d.age, .int .i64 x1.d.proc, .int .i64 x1.d.began, .slice x1.a0 x1.n0 x1.c0, .slice x1.a1 x1.n1 x1.c1, .slice x1.a2 x1.n2 x1.c2, .slice x1.a3 x1.n3 x1.c3, .slice x1.a4 x1.n4 x1.c4, .int .i64 x1.d.state]), (12, .int .i64 ((k : Nat) : Int)), (11, .int .i64 ((r0_n_4 : Nat) : Int)), (10, .slice r0_a_4 r0_n_4 r0_c_4), (5, .slice r0_a_4 r0_n_4 r0_c_4), (1, .slice ids_a ids_n ids_c)] _ := F28.cut rfl
     clear F14 F16 F24 F25 F27 F28
     have T31 : Mv _ _ [bx b26 [.int .i64 x1.d.id, .int .i64 x1.d.age, .int .i64 x1.d.proc, .int .i64 x1.d.began, .slice x1.a0 x1.n0 x1.c0, .slice x1.a1 x1.n1 x1.c1, .slice x1.a2 x1.n2 x1.c2, .slice x1.a3 x1.n3 x1.c3, .slice x1.a4 x1.n4 x1.c4, .int .i64 x1.d.state] 71, ow 71 10 encTx okTx (.slice r0_a_4 r0_n_4 r0_c_4) D, gr inTx D] _ := S29
     refine s_end (x_normal (wp_seq ?_))
     have hx1m := nth_upM.symm.trans (dM_at hk_1 hx1)
     refine wp_region_lit (l_op (f_val F30 rfl rfl (r_field FI_71_8 rfl (F30.ev 7 rfl) rfl) rfl fun _ F32 => ?_))
     refine l_op (f_val (v := .int .i64 x1.d.state) F32 rfl rfl (r_loadB T31.at' 0 TI_3 rfl rfl (F32.ev 17 rfl) rfl rfl (fun _ => rfl) rfl) rfl fun _ F33 => ?_)
     refine l_op (f_val F33 rfl rfl (r_cmp (b := decide (x1.d.state = 1)) (.inl rfl) rfl (F33.ev 18 rfl) rfl (dec_of (by omega))) rfl fun _ F34 => ?_)
     refine l_op (f_mv F34 rfl rfl rfl rfl rfl fun _ F35 => ?_)
     rcases Decidable.em (x1.d.state = 1) with h36 | h36
     · rw [decide_eq_true h36] at F35
       refine l_op (f_mv F35 (wanted_g F35 rfl rfl rfl rfl) rfl rfl rfl rfl fun _ F37 => ?_)
       refine l_op (f_val F37 (wanted_g F37 rfl rfl rfl rfl) rfl (r_field FI_71_0 rfl (F37.ev 7 rfl) rfl) rfl fun _ F38 => ?_)
       refine l_op (f_val (v := .int .i64 x1.d.id) F38 (wanted_g F38 rfl rfl rfl rfl) rfl (r_loadB T31.at' 0 TI_3 rfl rfl (F38.ev 22 rfl) rfl rfl (fun _ => rfl) rfl) rfl fun _ F39 => ?_)
       refine l_op (f_call F39 CF_78 (wanted_g F39 rfl rfl rfl rfl) rfl rfl rfl (lc (F39.ev 21 rfl) (lc (F39.ev 23 rfl) rfl)) (slices_Contains_Sint_int_c (s := ids) (v := x1.d.id) (Rd.mv (Nat.succ_pos _) V_v_ids (S4.trans (S12.trans (S26.trans T31)))) (by first | assumption | exact ⟨by omega, by omega⟩ | (unfold i64ok at *; omega))) ?_)
       rintro _ w40 ⟨rfl, m40⟩
       refine ⟨_, rfl, fun _ F41 => ?_⟩
       have S40 := At.frame0 T31.at' m40
       clear m40
       refine l_op (f_val F41 rfl rfl (r_pick (b := true) rfl (F41.ev 20 rfl) (F41.ev 24 rfl)) rfl fun _ F42 => ?_)
       have F43 : Fr 32 [(25, .bool (decide (x1.d.id ∈ ids))), (6, .int .i64 ((k : Nat) : Int)), (12, .int .i64 ((k : Nat) : Int)), (11, .int .i64 ((r0_n_4 : Nat) : Int)), (10, .slice r0_a_4 r0_n_4 r0_c_4), (5, .slice r0_a_4 r0_n_4 r0_c_4), (1, .slice ids_a ids_n ids_c)] _ := F42.cut rfl
       clear F30 F32 F33 F34 F35 F37 F38 F39 F41 F42
       have T44 : Mv _ _ [bx b26 [.int .i64 x1.d.id, .int .i64 x1.d.age, .int .i64 x1.d.proc, .int .i64 x1.d.began, .slice x1.a0 x1.n0 x1.c0, .slice x1.a1 x1.n1 x1.c1, .slice x1.a2 x1.n2 x1.c2, .slice x1.a3 x1.n3 x1.c3, .slice x1.a4 x1.n4 x1.c4, .int .i64 x1.d.state] 71, ow 71 10 encTx okTx (.slice r0_a_4 r0_n_4 r0_c_4) D, gr inTx D] _ := S40
       refine s_end (x_normal (x_condb (b := (decide (x1.d.id ∈ ids))) (F43.ev 25 rfl) (fun h45 => ?_) (fun h45 => ?_)))
       · skip
         refine wp_region_lit (l_op (f_mv F43 rfl rfl rfl rfl rfl fun _ F46 => ?_))
         refine l_op (f_mv F46 rfl rfl rfl rfl rfl fun _ F47 => ?_)
         obtain ⟨B48, y48, ad48, hy48, oky48, cl48⟩ := At.ownAt T44.at' ET_39.hk 1 rfl k (by first | assumption | omega)
         obtain rfl := Option.some.inj (hx1.symm.trans hy48)
         clear hy48 oky48
         obtain ⟨ln50, le50, mx50, ni50⟩ := Rd.inv (show Rd 6 encK okK (fun _ => True) w40 (.slice x1.a0 x1.n0 x1.c0) x1.d.calls from NRd.get (At.nrd T44.at' 2 rfl) hx1 (j := 0) rfl)
         obtain ⟨ln51, le51, mx51, ni51⟩ := Rd.inv (show Rd 3 encR okR (fun _ => True) w40 (.slice x1.a1 x1.n1 x1.c1) x1.d.answers from NRd.get (At.nrd T44.at' 2 rfl) hx1 (j := 1) rfl)
         obtain ⟨ln52, le52, mx52, ni52⟩ := Rd.inv (show Rd 1 encS okS (fun _ => True) w40 (.slice x1.a2 x1.n2 x1.c2) x1.d.touch.reads from NRd.get (At.nrd T44.at' 2 rfl) hx1 (j := 2) rfl)
         obtain ⟨ln53, le53, mx53, ni53⟩ := Rd.inv (show Rd 1 encS okS (fun _ => True) w40 (.slice x1.a3 x1.n3 x1.c3) x1.d.touch.writes from NRd.get (At.nrd T44.at' 2 rfl) hx1 (j := 3) rfl)
         obtain ⟨ln54, le54, mx54, ni54⟩ := Rd.inv (show Rd 1 encI okI (fun _ => True) w40 (.slice x1.a4 x1.n4 x1.c4) x1.d.marks from NRd.get (At.nrd T44.at' 2 rfl) hx1 (j := 4) rfl)
         refine l_op (f_val F47 rfl rfl (r_indexAddr (i := k) ET_39 rfl ((F47.ev 26 rfl).trans (by rw [ad48])) (F47.ev 27 rfl) (by omega) (by first | assumption | omega)) rfl fun _ F55 => ?_)
         refine l_op (f_val F55 rfl rfl (r_field FI_71_8 rfl (F55.ev 28 rfl) rfl) rfl fun _ F56 => ?_)
         refine l_op (s_storeElF (off := 9) T44.at' 1 k x1 (⟨(⟨x1.d.id, x1.d.age, x1.d.proc, x1.d.began, x1.d.calls, x1.d.answers, x1.d.touch, x1.d.marks, 3⟩ : TxD), x1.a0, x1.n0, x1.c0, x1.a1, x1.n1, x1.c1, x1.a2, x1.n2, x1.c2, x1.a3, x1.n3, x1.c3, x1.a4, x1.n4, x1.c4⟩ : TxH) ET_39.hk ET_39.h1 TI_3 rfl ad48 rfl rfl rfl rfl (F56.ev 29 rfl) rfl rfl (by first | assumption | omega) hx1 rfl (by decide) (⟨okx1.1, okx1.2.1, okx1.2.2.1, okx1.2.2.2.1, (show i64ok 3 from by first | assumption | exact ⟨by omega, by omega⟩)⟩) fun w57 S57 => ?_)
         have S58 : Mv [ow 71 10 encTx okTx (.slice r0_a_4 r0_n_4 r0_c_4) (D.set k (⟨(⟨x1.d.id, x1.d.age, x1.d.proc, x1.d.began, x1.d.calls, x1.d.answers, x1.d.touch, x1.d.marks, 3⟩ : TxD), x1.a0, x1.n0, x1.c0, x1.a1, x1.n1, x1.c1, x1.a2, x1.n2, x1.c2, x1.a3, x1.n3, x1.c3, x1.a4, x1.n4, x1.c4⟩ : TxH)), bx b26 [.int .i64 x1.d.id, .int .i64 x1.d.age, .int .i64 x1.d.proc, .int .i64 x1.d.began, .slice x1.a0 x1.n0 x1.c0, .slice x1.a1 x1.n1 x1.c1, .slice x1.a2 x1.n2 x1.c2, .slice x1.a3 x1.n3 x1.c3, .slice x1.a4 x1.n4 x1.c4, .int .i64 x1.d.state] 71, gr inTx D] w57 [gr inTx (D.set k (⟨(⟨x1.d.id, x1.d.age, x1.d.proc, x1.d.began, x1.d.calls, x1.d.answers, x1.d.touch, x1.d.marks, 3⟩ : TxD), x1.a0, x1.n0, x1.c0, x1.a1, x1.n1, x1.c1, x1.a2, x1.n2, x1.c2, x1.a3, x1.n3, x1.c3, x1.a4, x1.n4, x1.c4⟩ : TxH)), ow 71 10 encTx okTx (.slice r0_a_4 r0_n_4 r0_c_4) (D.set k (⟨(⟨x1.d.id, x1.d.age, x1.d.proc, x1.d.began, x1.d.calls, x1.d.answers, x1.d.touch, x1.d.marks, 3⟩ : TxD), x1.a0, x1.n0, x1.c0, x1.a1, x1.n1, x1.c1, x1.a2, x1.n2, x1.c2, x1.a3, x1.n3, x1.c3, x1.a4, x1.n4, x1.c4⟩ : TxH)), bx b26 [.int .i64 x1.d.id, .int .i64 x1.d.age, .int .i64 x1.d.proc, .int .i64 x1.d.began, .slice x1.a0 x1.n0 x1.c0, .slice x1.a1 x1.n1 x1.c1, .slice x1.a2 x1.n2 x1.c2, .slice x1.a3 x1.n3 x1.c3, .slice x1.a4 x1.n4 x1.c4, .int .i64 x1.d.state] 71] w57 := gr_same S57.at' 2 rfl rfl (⟨(⟨x1.d.id, x1.d.age, x1.d.proc, x1.d.began, x1.d.calls, x1.d.answers, x1.d.touch, x1.d.marks, 3⟩ : TxD), x1.a0, x1.n0, x1.c0, x1.a1, x1.n1, x1.c1, x1.a2, x1.n2, x1.c2, x1.a3, x1.n3, x1.c3, x1.a4, x1.n4, x1.c4⟩ : TxH) hx1 rfl
         obtain ⟨x2, hx2, ex2⟩ : ∃ zZ, nth (D.set k (⟨(⟨x1.d.id, x1.d.age, x1.d.proc, x1.d.began, x1.d.calls, x1.d.answers, x1.d.touch, x1.d.marks, 3⟩ : TxD), x1.a0, x1.n0, x1.c0, x1.a1, x1.n1, x1.c1, x1.a2, x1.n2, x1.c2, x1.a3, x1.n3, x1.c3, x1.a4, x1.n4, x1.c4⟩ : TxH)) k = some zZ ∧ zZ = (⟨(⟨x1.d.id, x1.d.age, x1.d.proc, x1.d.began, x1.d.calls, x1.d.answers, x1.d.touch, x1.d.marks, 3⟩ : TxD), x1.a0, x1.n0, x1.c0, x1.a1, x1.n1, x1.c1, x1.a2, x1.n2, x1.c2, x1.a3, x1.n3, x1.c3, x1.a4, x1.n4, x1.c4⟩ : TxH) := ⟨_, nth_setSelf hx1, rfl⟩
         have okx2 : okTx x2 := by rw [ex2]; exact ⟨okx1.1, okx1.2.1, okx1.2.2.1, okx1.2.2.2.1, (show i64ok 3 from by first | assumption | exact ⟨by omega, by omega⟩)⟩
         have gx2_4 : x2.d.calls.length = x1.d.calls.length := by rw [ex2]
         have gx2_5 : x2.d.answers.length = x1.d.answers.length := by rw [ex2]
         have gx2_6 : x2.d.touch.reads.length = x1.d.touch.reads.length := by rw [ex2]
         have gx2_7 : x2.d.touch.writes.length = x1.d.touch.writes.length := by rw [ex2]
         have gx2_8 : x2.d.marks.length = x1.d.marks.length := by rw [ex2]
         have oj59 := okx2
         obtain ⟨oi59_0, oi59_1, oi59_2, oi59_3, oi59_4⟩ := oj59
         have F65 : Fr 32 [(29, .pointer (some ⟨B48, 0 + k * 10 + 9, none⟩)), (12, .int .i64 ((k : Nat) : Int)), (11, .int .i64 ((r0_n_4 : Nat) : Int)), (10, .slice r0_a_4 r0_n_4 r0_c_4), (5, .slice r0_a_4 r0_n_4 r0_c_4), (1, .slice ids_a ids_n ids_c)] _ := F56.cut rfl
         clear F43 F46 F47 F55 F56
         have T66 : Mv _ _ [gr inTx (D.set k (⟨(⟨x1.d.id, x1.d.age, x1.d.proc, x1.d.began, x1.d.calls, x1.d.answers, x1.d.touch, x1.d.marks, 3⟩ : TxD), x1.a0, x1.n0, x1.c0, x1.a1, x1.n1, x1.c1, x1.a2, x1.n2, x1.c2, x1.a3, x1.n3, x1.c3, x1.a4, x1.n4, x1.c4⟩ : TxH)), ow 71 10 encTx okTx (.slice r0_a_4 r0_n_4 r0_c_4) (D.set k (⟨(⟨x1.d.id, x1.d.age, x1.d.proc, x1.d.began, x1.d.calls, x1.d.answers, x1.d.touch, x1.d.marks, 3⟩ : TxD), x1.a0, x1.n0, x1.c0, x1.a1, x1.n1, x1.c1, x1.a2, x1.n2, x1.c2, x1.a3, x1.n3, x1.c3, x1.a4, x1.n4, x1.c4⟩ : TxH)), bx b26 [.int .i64 x1.d.id, .int .i64 x1.d.age, .int .i64 x1.d.proc, .int .i64 x1.d.began, .slice x1.a0 x1.n0 x1.c0, .slice x1.a1 x1.n1 x1.c1, .slice x1.a2 x1.n2 x1.c2, .slice x1.a3 x1.n3 x1.c3, .slice x1.a4 x1.n4 x1.c4, .int .i64 x1.d.state] 71] _ := S58
         refine s_end (x_block_normal (x_normal (wp_region_lit (l_op (f_val F65 rfl rfl (r_add (z := ((k + 1 : Nat) : Int)) rfl (F65.ev 12 rfl) rfl (by first | rfl | omega) ⟨by first | omega | (unfold i64ok at *; omega), by first | omega | (unfold i64ok at *; omega)⟩) rfl fun _ F67 => ?_)))))
         refine l_op (f_mv F67 rfl rfl rfl rfl rfl fun _ F68 => ?_)
         have F69 : Fr 32 [(12, .int .i64 ((k + 1 : Nat) : Int)), (11, .int .i64 ((r0_n_4 : Nat) : Int)), (10, .slice r0_a_4 r0_n_4 r0_c_4), (5, .slice r0_a_4 r0_n_4 r0_c_4), (1, .slice ids_a ids_n ids_c)] _ := F68.cut rfl
         clear F65 F67 F68
         refine s_end ?_
         refine x_normal ⟨k + 1, by omega, D.set k (⟨(⟨x1.d.id, x1.d.age, x1.d.proc, x1.d.began, x1.d.calls, x1.d.answers, x1.d.touch, x1.d.marks, 3⟩ : TxD), x1.a0, x1.n0, x1.c0, x1.a1, x1.n1, x1.c1, x1.a2, x1.n2, x1.c2, x1.a3, x1.n3, x1.c3, x1.a4, x1.n4, x1.c4⟩ : TxH), F69.cut rfl, ((S12.trans (S26.trans (T31.trans (T44.trans (S57.trans T66))))).pick [1, 0] rfl), by omega, by first | (simp only [List.map_set]; rw [hk_1]; exact upM_step hx1m (by subst_vars; exact dropE_y (by assumption) (of_decide_eq_true (by assumption)))) | (rw [hk_1]; exact upM_keep hx1m (dropE_n1 (by assumption))) | (rw [hk_1]; exact upM_keep hx1m (dropE_n2 (of_decide_eq_false (by assumption)))), by (try rw [List.length_set]); assumption⟩
       · skip
         refine wp_skip (x_block_normal (x_normal (wp_region_lit (l_op (f_val F43 rfl rfl (r_add (z := ((k + 1 : Nat) : Int)) rfl (F43.ev 12 rfl) rfl (by first | rfl | omega) ⟨by first | omega | (unfold i64ok at *; omega), by first | omega | (unfold i64ok at *; omega)⟩) rfl fun _ F70 => ?_)))))
         refine l_op (f_mv F70 rfl rfl rfl rfl rfl fun _ F71 => ?_)
         have F72 : Fr 32 [(12, .int .i64 ((k + 1 : Nat) : Int)), (11, .int .i64 ((r0_n_4 : Nat) : Int)), (10, .slice r0_a_4 r0_n_4 r0_c_4), (5, .slice r0_a_4 r0_n_4 r0_c_4), (1, .slice ids_a ids_n ids_c)] _ := F71.cut rfl
         clear F43 F70 F71
         refine s_end ?_
         refine x_normal ⟨k + 1, by omega, D, F72.cut rfl, ((S12.trans (S26.trans (T31.trans T44))).pick [1, 2] rfl), by omega, by first | (simp only [List.map_set]; rw [hk_1]; exact upM_step hx1m (by subst_vars; exact dropE_y (by assumption) (of_decide_eq_true (by assumption)))) | (rw [hk_1]; exact upM_keep hx1m (dropE_n1 (by assumption))) | (rw [hk_1]; exact upM_keep hx1m (dropE_n2 (of_decide_eq_false (by assumption)))), by (try rw [List.length_set]); assumption⟩
     · rw [decide_eq_false h36] at F35
       refine l_op (f_skip F35 (wanted_g F35 rfl rfl rfl rfl) rfl rfl fun _ F73 => ?_)
       refine l_op (f_skip F73 (wanted_g F73 rfl rfl rfl rfl) rfl rfl fun _ F74 => ?_)
       refine l_op (f_skip F74 (wanted_g F74 rfl rfl rfl rfl) rfl rfl fun _ F75 => ?_)
       refine l_op (f_skip F75 (wanted_g F75 rfl rfl rfl rfl) rfl rfl fun _ F76 => ?_)
       refine l_op (f_val F76 rfl rfl (r_pick (b := false) rfl (F76.ev 20 rfl) rfl) rfl fun _ F77 => ?_)
       have F78 : Fr 32 [(25, .bool false), (6, .int .i64 ((k : Nat) : Int)), (12, .int .i64 ((k : Nat) : Int)), (11, .int .i64 ((r0_n_4 : Nat) : Int)), (10, .slice r0_a_4 r0_n_4 r0_c_4), (5, .slice r0_a_4 r0_n_4 r0_c_4), (1, .slice ids_a ids_n ids_c)] _ := F77.cut rfl
       clear F30 F32 F33 F34 F35 F73 F74 F75 F76 F77
       refine s_end (x_normal (wp_cond_false (F78.ev 25 rfl) (wp_skip (x_block_normal (x_normal (wp_region_lit (l_op (f_val F78 rfl rfl (r_add (z := ((k + 1 : Nat) : Int)) rfl (F78.ev 12 rfl) rfl (by first | rfl | omega) ⟨by first | omega | (unfold i64ok at *; omega), by first | omega | (unfold i64ok at *; omega)⟩) rfl fun _ F79 => ?_))))))))
       refine l_op (f_mv F79 rfl rfl rfl rfl rfl fun _ F80 => ?_)
       have F81 : Fr 32 [(12, .int .i64 ((k + 1 : Nat) : Int)), (11, .int .i64 ((r0_n_4 : Nat) : Int)), (10, .slice r0_a_4 r0_n_4 r0_c_4), (5, .slice r0_a_4 r0_n_4 r0_c_4), (1, .slice ids_a ids_n ids_c)] _ := F80.cut rfl
       clear F78 F79 F80
       refine s_end ?_
       refine x_normal ⟨k + 1, by omega, D, F81.cut rfl, ((S12.trans (S26.trans T31)).pick [1, 2] rfl), by omega, by first | (simp only [List.map_set]; rw [hk_1]; exact upM_step hx1m (by subst_vars; exact dropE_y (by assumption) (of_decide_eq_true (by assumption)))) | (rw [hk_1]; exact upM_keep hx1m (dropE_n1 (by assumption))) | (rw [hk_1]; exact upM_keep hx1m (dropE_n2 (of_decide_eq_false (by assumption)))), by (try rw [List.length_set]); assumption⟩
   · skip
     refine wp_exit (x_then_exit (x_then_exit (x_block_here (x_normal (wp_seq (wp_region_lit (l_op (f_mv F14 rfl rfl rfl rfl rfl fun _ F82 => ?_))))))))
     refine l_op (f_as F82 rfl rfl rfl rfl rfl fun _ F83 => ?_)
     have F84 : Fr 32 [(4, .slice r0_a_4 r0_n_4 r0_c_4)] _ := F83.cut rfl
     clear F14 F82 F83
     refine s_end (x_normal (wp_ret ?_))
     refine x_done (v := .slice r0_a_4 r0_n_4 r0_c_4) F84 (results_1 Try.results35 (.tmp (F84.ev 4 rfl))) ?_
     exact ⟨D, r0_a_4, r0_n_4, r0_c_4, rfl, (Mv.pick (S4.trans S12) [0, 1] rfl), by rw [hk_1]; exact upM_end (by omega)⟩
theorem spec_Dropped_c {w : World} {H : Nat → Prop} {list : List TxH} {list_a : Option Addr} {list_n list_c : Nat} {ids : List Int} {ids_a : Option Addr} {ids_n ids_c : Nat} {L : List TxD} (v_list : Rd 10 encTx okTx H w (.slice list_a list_n list_c) list) (u_list : NRd inTx H w list) (v_ids : Rd 1 encI okI H w (.slice ids_a ids_n ids_c) ids) (p0 : list.map TxH.d = L) (p1 : txsFit 1048576 L) :
    Calls Try.prog 33 #[.slice list_a list_n list_c, .slice ids_a ids_n ids_c] w fun e w' => ∃ (D : List TxH), ∃ (r0_a : Option Addr), ∃ (r0_n : Nat), ∃ (r0_c : Nat), e = .returned (.slice r0_a r0_n r0_c) ∧ Mv [] w [ow 71 10 encTx okTx (.slice r0_a r0_n r0_c) D, gr inTx D] w' ∧ D.map TxH.d = dropL ids L := by
 have hLn := dM_len p0
 have hll := p1.1
 have V_v_list : Rd 10 encTx okTx (V H w []) w (.slice list_a list_n list_c) list := Rd.start v_list (fun _ _ => fps_nil _)
 obtain ⟨ln_list, le_list, mx_list, ni_list⟩ := Rd.inv v_list
 have V_v_ids : Rd 1 encI okI (V H w []) w (.slice ids_a ids_n ids_c) ids := Rd.start v_ids (fun _ _ => fps_nil _)
 obtain ⟨ln_ids, le_ids, mx_ids, ni_ids⟩ := Rd.inv v_ids
 have V_u_list : NRd inTx (V H w []) w list := NRd.start u_list (fun _ _ => fps_nil _)
 refine calls_enter 35 Try.func33 rfl Try.ntmps33 (Nat.le_of_ble_eq_true rfl) (fun _ F0i => ?_)
 have F0 : Fr 35 [(0, .slice list_a list_n list_c), (1, .slice ids_a ids_n ids_c)] _ := F0i
 clear F0i
 refine wp_seq (wp_region_lit (l_op (f_val F0 rfl rfl (r_assign rfl rfl) rfl fun _ F1 => ?_)))
 have F2 : Fr 35 [(4, .slice none 0 0), (0, .slice list_a list_n list_c), (1, .slice ids_a ids_n ids_c)] _ := F1.cut rfl
 clear F0 F1
 refine s_end (x_normal (wp_seq (wp_region_lit (l_op (f_mv F2 rfl rfl rfl rfl rfl fun _ F3 => ?_)))))
 refine l_op (f_call F3 CF_75 rfl rfl rfl rfl (lc (F3.ev 7 rfl) rfl) (spec_l19Copy_c (list := list) V_v_list V_u_list (by rw [p0]; exact p1)) ?_)
 rintro _ w4 ⟨D_4, r0_a_4, r0_n_4, r0_c_4, rfl, m4, q4_0, q4_1⟩
 refine ⟨_, rfl, fun _ F5 => ?_⟩
 have S4 : Mv _ _ [ow 71 10 encTx okTx (.slice r0_a_4 r0_n_4 r0_c_4) D_4, gr inTx D_4] _ := At.frame (At.nil w) [] rfl m4
 obtain ⟨lo4_0, lp4_0, lq4_0⟩ := At.ownInv S4.at' ET_39.hk 0 rfl
 clear m4
 refine l_op (f_as F5 rfl rfl rfl rfl rfl fun _ F6 => ?_)
 have F7 : Fr 35 [(5, .slice r0_a_4 r0_n_4 r0_c_4), (1, .slice ids_a ids_n ids_c)] _ := F6.cut rfl
 clear F2 F3 F5 F6
 refine s_end (x_normal (wp_seq (wp_seq (wp_region_lit (l_op (f_val F7 rfl rfl (r_assign rfl rfl) rfl fun _ F8 => ?_))))))
 have F9 : Fr 35 [(6, .int .i64 0), (5, .slice r0_a_4 r0_n_4 r0_c_4), (1, .slice ids_a ids_n ids_c)] _ := F8.cut rfl
 clear F7 F8
 refine s_end (x_normal (wp_block ?_))
 refine x_loop (fun (k : Nat) aZ wZ => ∃ (D : List TxH), Fr 35 [(6, .int .i64 ((k : Nat) : Int)), (5, .slice r0_a_4 r0_n_4 r0_c_4), (1, .slice ids_a ids_n ids_c)] aZ ∧ Mv [ow 71 10 encTx okTx (.slice r0_a_4 r0_n_4 r0_c_4) D_4, gr inTx D_4] w4 [ow 71 10 encTx okTx (.slice r0_a_4 r0_n_4 r0_c_4) D, gr inTx D] wZ ∧ (k ≤ list_n) ∧ (D.map TxH.d = upM (dropE ids) k L) ∧ (D.length = list_n)) (fun (k : Nat) => list_n - k) (0) ?_ ?_
 · exact ⟨D_4, F9.cut rfl, (Mv.refl S4.at'), by omega, Eq.trans (by assumption) p0, by omega⟩
 · rintro k a10 w10 ⟨D, F10, S10, hk_0, hk_1, hk_2⟩
   refine wp_seq (wp_seq (wp_region_lit (l_op (f_mv F10 rfl rfl rfl rfl rfl fun _ F11 => ?_))))
   refine l_op (f_mv F11 rfl rfl rfl rfl rfl fun _ F12 => ?_)
   refine l_op (f_val F12 rfl rfl (r_len Try.underlying39 rfl (F12.ev 10 rfl)) rfl fun _ F13 => ?_)
   refine l_op (f_val F13 rfl rfl (r_cmp (b := decide (k < r0_n_4)) (.inr (.inr (.inl rfl))) rfl (F13.ev 9 rfl) (F13.ev 11 rfl) (dec_of (by omega))) rfl fun _ F14 => ?_)
   have F15 : Fr 35 [(12, .bool (decide (k < r0_n_4))), (6, .int .i64 ((k : Nat) : Int)), (5, .slice r0_a_4 r0_n_4 r0_c_4), (1, .slice ids_a ids_n ids_c)] _ := F14.cut rfl
   clear F10 F11 F12 F13 F14
   refine s_end (x_normal (x_cond (p := k < r0_n_4) (F15.ev 12 rfl) (fun h16 => ?_) (fun h16 => ?_)))
   · skip
     refine wp_skip (x_normal (wp_seq (wp_block (wp_seq (wp_region_lit (l_op (f_mv F15 rfl rfl rfl rfl rfl fun _ F17 => ?_)))))))
     refine l_op (f_mv F17 rfl rfl rfl rfl rfl fun _ F18 => ?_)
     obtain ⟨B19, x1, ad19, hx1, okx1, cl19⟩ := At.ownAt S10.at' ET_39.hk 0 rfl k (by first | assumption | omega)
     have oj20 := okx1
     obtain ⟨oi20_0, oi20_1, oi20_2, oi20_3, oi20_4⟩ := oj20
     obtain ⟨ln21, le21, mx21, ni21⟩ := Rd.inv (show Rd 6 encK okK (fun _ => True) w10 (.slice x1.a0 x1.n0 x1.c0) x1.d.calls from NRd.get (At.nrd S10.at' 1 rfl) hx1 (j := 0) rfl)
     obtain ⟨ln22, le22, mx22, ni22⟩ := Rd.inv (show Rd 3 encR okR (fun _ => True) w10 (.slice x1.a1 x1.n1 x1.c1) x1.d.answers from NRd.get (At.nrd S10.at' 1 rfl) hx1 (j := 1) rfl)
     obtain ⟨ln23, le23, mx23, ni23⟩ := Rd.inv (show Rd 1 encS okS (fun _ => True) w10 (.slice x1.a2 x1.n2 x1.c2) x1.d.touch.reads from NRd.get (At.nrd S10.at' 1 rfl) hx1 (j := 2) rfl)
     obtain ⟨ln24, le24, mx24, ni24⟩ := Rd.inv (show Rd 1 encS okS (fun _ => True) w10 (.slice x1.a3 x1.n3 x1.c3) x1.d.touch.writes from NRd.get (At.nrd S10.at' 1 rfl) hx1 (j := 3) rfl)
     obtain ⟨ln25, le25, mx25, ni25⟩ := Rd.inv (show Rd 1 encI okI (fun _ => True) w10 (.slice x1.a4 x1.n4 x1.c4) x1.d.marks from NRd.get (At.nrd S10.at' 1 rfl) hx1 (j := 4) rfl)
     refine l_op (f_val F18 rfl rfl (r_indexAddr (i := k) ET_39 rfl ((F18.ev 15 rfl).trans (by rw [ad19])) (F18.ev 16 rfl) (by omega) (by first | assumption | omega)) rfl fun _ F26 => ?_)
     refine l_op (f_val F26 rfl rfl (r_field FI_71_8 rfl (F26.ev 17 rfl) rfl) rfl fun _ F27 => ?_)
     refine l_op (f_val (v := .int .i64 x1.d.state) F27 rfl rfl (r_load (cs := [.int .i64 x1.d.state]) TI_3 rfl (F27.ev 18 rfl) rfl (fun _ => rfl) (elem_sub (f := 9) cl19 [.int .i64 x1.d.state] rfl)) rfl fun _ F28 => ?_)
     refine l_op (f_val F28 rfl rfl (r_cmp (b := decide (x1.d.state = 1)) (.inl rfl) rfl (F28.ev 19 rfl) rfl (dec_of (by omega))) rfl fun _ F29 => ?_)
     refine l_op (f_mv F29 rfl rfl rfl rfl rfl fun _ F30 => ?_)
     rcases Decidable.em (x1.d.state = 1) with h31 | h31
     · rw [decide_eq_true h31] at F30
       refine l_op (f_mv F30 (wanted_g F30 rfl rfl rfl rfl) rfl rfl rfl rfl fun _ F32 => ?_)
       refine l_op (f_mv F32 (wanted_g F32 rfl rfl rfl rfl) rfl rfl rfl rfl fun _ F33 => ?_)
       refine l_op (f_mv F33 (wanted_g F33 rfl rfl rfl rfl) rfl rfl rfl rfl fun _ F34 => ?_)
       obtain ⟨B35, y35, ad35, hy35, oky35, cl35⟩ := At.ownAt S10.at' ET_39.hk 0 rfl k (by first | assumption | omega)
       obtain rfl := Option.some.inj (hx1.symm.trans hy35)
       clear hy35 oky35
       obtain ⟨ln37, le37, mx37, ni37⟩ := Rd.inv (show Rd 6 encK okK (fun _ => True) w10 (.slice x1.a0 x1.n0 x1.c0) x1.d.calls from NRd.get (At.nrd S10.at' 1 rfl) hx1 (j := 0) rfl)
       obtain ⟨ln38, le38, mx38, ni38⟩ := Rd.inv (show Rd 3 encR okR (fun _ => True) w10 (.slice x1.a1 x1.n1 x1.c1) x1.d.answers from NRd.get (At.nrd S10.at' 1 rfl) hx1 (j := 1) rfl)
       obtain ⟨ln39, le39, mx39, ni39⟩ := Rd.inv (show Rd 1 encS okS (fun _ => True) w10 (.slice x1.a2 x1.n2 x1.c2) x1.d.touch.reads from NRd.get (At.nrd S10.at' 1 rfl) hx1 (j := 2) rfl)
       obtain ⟨ln40, le40, mx40, ni40⟩ := Rd.inv (show Rd 1 encS okS (fun _ => True) w10 (.slice x1.a3 x1.n3 x1.c3) x1.d.touch.writes from NRd.get (At.nrd S10.at' 1 rfl) hx1 (j := 3) rfl)
       obtain ⟨ln41, le41, mx41, ni41⟩ := Rd.inv (show Rd 1 encI okI (fun _ => True) w10 (.slice x1.a4 x1.n4 x1.c4) x1.d.marks from NRd.get (At.nrd S10.at' 1 rfl) hx1 (j := 4) rfl)
       refine l_op (f_val F34 (wanted_g F34 rfl rfl rfl rfl) rfl (r_indexAddr (i := k) ET_39 rfl ((F34.ev 23 rfl).trans (by rw [ad35])) (F34.ev 24 rfl) (by omega) (by first | assumption | omega)) rfl fun _ F42 => ?_)
       refine l_op (f_val F42 (wanted_g F42 rfl rfl rfl rfl) rfl (r_field FI_71_0 rfl (F42.ev 25 rfl) rfl) rfl fun _ F43 => ?_)
       refine l_op (f_val (v := .int .i64 x1.d.id) F43 (wanted_g F43 rfl rfl rfl rfl) rfl (r_load (cs := [.int .i64 x1.d.id]) TI_3 rfl (F43.ev 26 rfl) rfl (fun _ => rfl) (elem_sub (f := 0) cl35 [.int .i64 x1.d.id] rfl)) rfl fun _ F44 => ?_)
       refine l_op (f_call F44 CF_76 (wanted_g F44 rfl rfl rfl rfl) rfl rfl rfl (lc (F44.ev 22 rfl) (lc (F44.ev 27 rfl) rfl)) (spec_l19Has_c (list := ids) (n := x1.d.id) (Rd.mv (Nat.succ_pos _) V_v_ids (S4.trans S10)) (by first | assumption | exact ⟨by omega, by omega⟩ | (unfold i64ok at *; omega))) ?_)
       rintro _ w45 ⟨rfl, m45⟩
       refine ⟨_, rfl, fun _ F46 => ?_⟩
       have S45 := At.frame0 S10.at' m45
       clear m45
       refine l_op (f_val F46 rfl rfl (r_pick (b := true) rfl (F46.ev 21 rfl) (F46.ev 28 rfl)) rfl fun _ F47 => ?_)
       have F48 : Fr 35 [(29, .bool (decide (x1.d.id ∈ ids))), (6, .int .i64 ((k : Nat) : Int)), (5, .slice r0_a_4 r0_n_4 r0_c_4), (1, .slice ids_a ids_n ids_c)] _ := F47.cut rfl
       clear F15 F17 F18 F26 F27 F28 F29 F30 F32 F33 F34 F42 F43 F44 F46 F47
       have T49 : Mv _ _ [ow 71 10 encTx okTx (.slice r0_a_4 r0_n_4 r0_c_4) D, gr inTx D] _ := S45
       refine s_end (x_normal (x_condb (b := (decide (x1.d.id ∈ ids))) (F48.ev 29 rfl) (fun h50 => ?_) (fun h50 => ?_)))
       · skip
         refine wp_region_lit (l_op (f_mv F48 rfl rfl rfl rfl rfl fun _ F51 => ?_))
         refine l_op (f_mv F51 rfl rfl rfl rfl rfl fun _ F52 => ?_)
         obtain ⟨B53, y53, ad53, hy53, oky53, cl53⟩ := At.ownAt T49.at' ET_39.hk 0 rfl k (by first | assumption | omega)
         obtain rfl := Option.some.inj (hx1.symm.trans hy53)
         clear hy53 oky53
         obtain ⟨ln55, le55, mx55, ni55⟩ := Rd.inv (show Rd 6 encK okK (fun _ => True) w45 (.slice x1.a0 x1.n0 x1.c0) x1.d.calls from NRd.get (At.nrd T49.at' 1 rfl) hx1 (j := 0) rfl)
         obtain ⟨ln56, le56, mx56, ni56⟩ := Rd.inv (show Rd 3 encR okR (fun _ => True) w45 (.slice x1.a1 x1.n1 x1.c1) x1.d.answers from NRd.get (At.nrd T49.at' 1 rfl) hx1 (j := 1) rfl)
         obtain ⟨ln57, le57, mx57, ni57⟩ := Rd.inv (show Rd 1 encS okS (fun _ => True) w45 (.slice x1.a2 x1.n2 x1.c2) x1.d.touch.reads from NRd.get (At.nrd T49.at' 1 rfl) hx1 (j := 2) rfl)
         obtain ⟨ln58, le58, mx58, ni58⟩ := Rd.inv (show Rd 1 encS okS (fun _ => True) w45 (.slice x1.a3 x1.n3 x1.c3) x1.d.touch.writes from NRd.get (At.nrd T49.at' 1 rfl) hx1 (j := 3) rfl)
         obtain ⟨ln59, le59, mx59, ni59⟩ := Rd.inv (show Rd 1 encI okI (fun _ => True) w45 (.slice x1.a4 x1.n4 x1.c4) x1.d.marks from NRd.get (At.nrd T49.at' 1 rfl) hx1 (j := 4) rfl)
         refine l_op (f_val F52 rfl rfl (r_indexAddr (i := k) ET_39 rfl ((F52.ev 30 rfl).trans (by rw [ad53])) (F52.ev 31 rfl) (by omega) (by first | assumption | omega)) rfl fun _ F60 => ?_)
         refine l_op (f_val F60 rfl rfl (r_field FI_71_8 rfl (F60.ev 32 rfl) rfl) rfl fun _ F61 => ?_)
         refine l_op (s_storeElF (off := 9) T49.at' 0 k x1 (⟨(⟨x1.d.id, x1.d.age, x1.d.proc, x1.d.began, x1.d.calls, x1.d.answers, x1.d.touch, x1.d.marks, 3⟩ : TxD), x1.a0, x1.n0, x1.c0, x1.a1, x1.n1, x1.c1, x1.a2, x1.n2, x1.c2, x1.a3, x1.n3, x1.c3, x1.a4, x1.n4, x1.c4⟩ : TxH) ET_39.hk ET_39.h1 TI_3 rfl ad53 rfl rfl rfl rfl (F61.ev 33 rfl) rfl rfl (by first | assumption | omega) hx1 rfl (by decide) (⟨okx1.1, okx1.2.1, okx1.2.2.1, okx1.2.2.2.1, (show i64ok 3 from by first | assumption | exact ⟨by omega, by omega⟩)⟩) fun w62 S62 => ?_)
         have S63 : Mv [ow 71 10 encTx okTx (.slice r0_a_4 r0_n_4 r0_c_4) (D.set k (⟨(⟨x1.d.id, x1.d.age, x1.d.proc, x1.d.began, x1.d.calls, x1.d.answers, x1.d.touch, x1.d.marks, 3⟩ : TxD), x1.a0, x1.n0, x1.c0, x1.a1, x1.n1, x1.c1, x1.a2, x1.n2, x1.c2, x1.a3, x1.n3, x1.c3, x1.a4, x1.n4, x1.c4⟩ : TxH)), gr inTx D] w62 [gr inTx (D.set k (⟨(⟨x1.d.id, x1.d.age, x1.d.proc, x1.d.began, x1.d.calls, x1.d.answers, x1.d.touch, x1.d.marks, 3⟩ : TxD), x1.a0, x1.n0, x1.c0, x1.a1, x1.n1, x1.c1, x1.a2, x1.n2, x1.c2, x1.a3, x1.n3, x1.c3, x1.a4, x1.n4, x1.c4⟩ : TxH)), ow 71 10 encTx okTx (.slice r0_a_4 r0_n_4 r0_c_4) (D.set k (⟨(⟨x1.d.id, x1.d.age, x1.d.proc, x1.d.began, x1.d.calls, x1.d.answers, x1.d.touch, x1.d.marks, 3⟩ : TxD), x1.a0, x1.n0, x1.c0, x1.a1, x1.n1, x1.c1, x1.a2, x1.n2, x1.c2, x1.a3, x1.n3, x1.c3, x1.a4, x1.n4, x1.c4⟩ : TxH))] w62 := gr_same S62.at' 1 rfl rfl (⟨(⟨x1.d.id, x1.d.age, x1.d.proc, x1.d.began, x1.d.calls, x1.d.answers, x1.d.touch, x1.d.marks, 3⟩ : TxD), x1.a0, x1.n0, x1.c0, x1.a1, x1.n1, x1.c1, x1.a2, x1.n2, x1.c2, x1.a3, x1.n3, x1.c3, x1.a4, x1.n4, x1.c4⟩ : TxH) hx1 rfl
         obtain ⟨x2, hx2, ex2⟩ : ∃ zZ, nth (D.set k (⟨(⟨x1.d.id, x1.d.age, x1.d.proc, x1.d.began, x1.d.calls, x1.d.answers, x1.d.touch, x1.d.marks, 3⟩ : TxD), x1.a0, x1.n0, x1.c0, x1.a1, x1.n1, x1.c1, x1.a2, x1.n2, x1.c2, x1.a3, x1.n3, x1.c3, x1.a4, x1.n4, x1.c4⟩ : TxH)) k = some zZ ∧ zZ = (⟨(⟨x1.d.id, x1.d.age, x1.d.proc, x1.d.began, x1.d.calls, x1.d.answers, x1.d.touch, x1.d.marks, 3⟩ : TxD), x1.a0, x1.n0, x1.c0, x1.a1, x1.n1, x1.c1, x1.a2, x1.n2, x1.c2, x1.a3, x1.n3, x1.c3, x1.a4, x1.n4, x1.c4⟩ : TxH) := ⟨_, nth_setSelf hx1, rfl⟩
         have okx2 : okTx x2 := by rw [ex2]; exact ⟨okx1.1, okx1.2.1, okx1.2.2.1, okx1.2.2.2.1, (show i64ok 3 from by first | assumption | exact ⟨by omega, by omega⟩)⟩
         have gx2_4 : x2.d.calls.length = x1.d.calls.length := by rw [ex2]
         have gx2_5 : x2.d.answers.length = x1.d.answers.length := by rw [ex2]
         have gx2_6 : x2.d.touch.reads.length = x1.d.touch.reads.length := by rw [ex2]
         have gx2_7 : x2.d.touch.writes.length = x1.d.touch.writes.length := by rw [ex2]
         have gx2_8 : x2.d.marks.length = x1.d.marks.length := by rw [ex2]
         have oj64 := okx2
         obtain ⟨oi64_0, oi64_1, oi64_2, oi64_3, oi64_4⟩ := oj64
         have F70 : Fr 35 [(33, .pointer (some ⟨B53, 0 + k * 10 + 9, none⟩)), (6, .int .i64 ((k : Nat) : Int)), (5, .slice r0_a_4 r0_n_4 r0_c_4), (1, .slice ids_a ids_n ids_c)] _ := F61.cut rfl
         clear F48 F51 F52 F60 F61
         have T71 : Mv _ _ [gr inTx (D.set k (⟨(⟨x1.d.id, x1.d.age, x1.d.proc, x1.d.began, x1.d.calls, x1.d.answers, x1.d.touch, x1.d.marks, 3⟩ : TxD), x1.a0, x1.n0, x1.c0, x1.a1, x1.n1, x1.c1, x1.a2, x1.n2, x1.c2, x1.a3, x1.n3, x1.c3, x1.a4, x1.n4, x1.c4⟩ : TxH)), ow 71 10 encTx okTx (.slice r0_a_4 r0_n_4 r0_c_4) (D.set k (⟨(⟨x1.d.id, x1.d.age, x1.d.proc, x1.d.began, x1.d.calls, x1.d.answers, x1.d.touch, x1.d.marks, 3⟩ : TxD), x1.a0, x1.n0, x1.c0, x1.a1, x1.n1, x1.c1, x1.a2, x1.n2, x1.c2, x1.a3, x1.n3, x1.c3, x1.a4, x1.n4, x1.c4⟩ : TxH))] _ := S63
         refine s_end (x_block_normal (x_normal ?_))
         have hx1m := nth_upM.symm.trans (dM_at hk_1 hx1)
         refine wp_region_lit (l_op (f_mv F70 rfl rfl rfl rfl rfl fun _ F72 => ?_))
         refine l_op (f_val F72 rfl rfl (r_add (z := ((k + 1 : Nat) : Int)) rfl (F72.ev 13 rfl) rfl (by first | rfl | omega) ⟨by first | omega | (unfold i64ok at *; omega), by first | omega | (unfold i64ok at *; omega)⟩) rfl fun _ F73 => ?_)
         refine l_op (f_as F73 rfl rfl rfl rfl rfl fun _ F74 => ?_)
         have F75 : Fr 35 [(6, .int .i64 ((k + 1 : Nat) : Int)), (5, .slice r0_a_4 r0_n_4 r0_c_4), (1, .slice ids_a ids_n ids_c)] _ := F74.cut rfl
         clear F70 F72 F73 F74
         refine s_end ?_
         refine x_normal ⟨k + 1, by omega, D.set k (⟨(⟨x1.d.id, x1.d.age, x1.d.proc, x1.d.began, x1.d.calls, x1.d.answers, x1.d.touch, x1.d.marks, 3⟩ : TxD), x1.a0, x1.n0, x1.c0, x1.a1, x1.n1, x1.c1, x1.a2, x1.n2, x1.c2, x1.a3, x1.n3, x1.c3, x1.a4, x1.n4, x1.c4⟩ : TxH), F75.cut rfl, ((S10.trans (T49.trans (S62.trans T71))).pick [1, 0] rfl), by omega, by first | (simp only [List.map_set]; rw [hk_1]; exact upM_step hx1m (by subst_vars; exact dropE_y (by assumption) (of_decide_eq_true (by assumption)))) | (rw [hk_1]; exact upM_keep hx1m (dropE_n1 (by assumption))) | (rw [hk_1]; exact upM_keep hx1m (dropE_n2 (of_decide_eq_false (by assumption)))), by (try rw [List.length_set]); assumption⟩
       · skip
         refine wp_skip (x_block_normal (x_normal ?_))
         have hx1m := nth_upM.symm.trans (dM_at hk_1 hx1)
         refine wp_region_lit (l_op (f_mv F48 rfl rfl rfl rfl rfl fun _ F76 => ?_))
         refine l_op (f_val F76 rfl rfl (r_add (z := ((k + 1 : Nat) : Int)) rfl (F76.ev 13 rfl) rfl (by first | rfl | omega) ⟨by first | omega | (unfold i64ok at *; omega), by first | omega | (unfold i64ok at *; omega)⟩) rfl fun _ F77 => ?_)
         refine l_op (f_as F77 rfl rfl rfl rfl rfl fun _ F78 => ?_)
         have F79 : Fr 35 [(6, .int .i64 ((k + 1 : Nat) : Int)), (5, .slice r0_a_4 r0_n_4 r0_c_4), (1, .slice ids_a ids_n ids_c)] _ := F78.cut rfl
         clear F48 F76 F77 F78
         refine s_end ?_
         refine x_normal ⟨k + 1, by omega, D, F79.cut rfl, ((S10.trans T49).pick [0, 1] rfl), by omega, by first | (simp only [List.map_set]; rw [hk_1]; exact upM_step hx1m (by subst_vars; exact dropE_y (by assumption) (of_decide_eq_true (by assumption)))) | (rw [hk_1]; exact upM_keep hx1m (dropE_n1 (by assumption))) | (rw [hk_1]; exact upM_keep hx1m (dropE_n2 (of_decide_eq_false (by assumption)))), by (try rw [List.length_set]); assumption⟩
     · rw [decide_eq_false h31] at F30
       refine l_op (f_skip F30 (wanted_g F30 rfl rfl rfl rfl) rfl rfl fun _ F80 => ?_)
       refine l_op (f_skip F80 (wanted_g F80 rfl rfl rfl rfl) rfl rfl fun _ F81 => ?_)
       refine l_op (f_skip F81 (wanted_g F81 rfl rfl rfl rfl) rfl rfl fun _ F82 => ?_)
       refine l_op (f_skip F82 (wanted_g F82 rfl rfl rfl rfl) rfl rfl fun _ F83 => ?_)
       refine l_op (f_skip F83 (wanted_g F83 rfl rfl rfl rfl) rfl rfl fun _ F84 => ?_)
       refine l_op (f_skip F84 (wanted_g F84 rfl rfl rfl rfl) rfl rfl fun _ F85 => ?_)
       refine l_op (f_skip F85 (wanted_g F85 rfl rfl rfl rfl) rfl rfl fun _ F86 => ?_)
       refine l_op (f_val F86 rfl rfl (r_pick (b := false) rfl (F86.ev 21 rfl) rfl) rfl fun _ F87 => ?_)
       have F88 : Fr 35 [(29, .bool false), (6, .int .i64 ((k : Nat) : Int)), (5, .slice r0_a_4 r0_n_4 r0_c_4), (1, .slice ids_a ids_n ids_c)] _ := F87.cut rfl
       clear F15 F17 F18 F26 F27 F28 F29 F30 F80 F81 F82 F83 F84 F85 F86 F87
       refine s_end (x_normal (wp_cond_false (F88.ev 29 rfl) (wp_skip (x_block_normal (x_normal ?_)))))
       have hx1m := nth_upM.symm.trans (dM_at hk_1 hx1)
       refine wp_region_lit (l_op (f_mv F88 rfl rfl rfl rfl rfl fun _ F89 => ?_))
       refine l_op (f_val F89 rfl rfl (r_add (z := ((k + 1 : Nat) : Int)) rfl (F89.ev 13 rfl) rfl (by first | rfl | omega) ⟨by first | omega | (unfold i64ok at *; omega), by first | omega | (unfold i64ok at *; omega)⟩) rfl fun _ F90 => ?_)
       refine l_op (f_as F90 rfl rfl rfl rfl rfl fun _ F91 => ?_)
       have F92 : Fr 35 [(6, .int .i64 ((k + 1 : Nat) : Int)), (5, .slice r0_a_4 r0_n_4 r0_c_4), (1, .slice ids_a ids_n ids_c)] _ := F91.cut rfl
       clear F88 F89 F90 F91
       refine s_end ?_
       refine x_normal ⟨k + 1, by omega, D, F92.cut rfl, (S10.pick [0, 1] rfl), by omega, by first | (simp only [List.map_set]; rw [hk_1]; exact upM_step hx1m (by subst_vars; exact dropE_y (by assumption) (of_decide_eq_true (by assumption)))) | (rw [hk_1]; exact upM_keep hx1m (dropE_n1 (by assumption))) | (rw [hk_1]; exact upM_keep hx1m (dropE_n2 (of_decide_eq_false (by assumption)))), by (try rw [List.length_set]); assumption⟩
   · skip
     refine wp_exit (x_then_exit (x_then_exit (x_block_here (x_normal (wp_seq (wp_region_lit (l_op (f_mv F15 rfl rfl rfl rfl rfl fun _ F93 => ?_))))))))
     refine l_op (f_as F93 rfl rfl rfl rfl rfl fun _ F94 => ?_)
     have F95 : Fr 35 [(4, .slice r0_a_4 r0_n_4 r0_c_4)] _ := F94.cut rfl
     clear F15 F93 F94
     refine s_end (x_normal (wp_ret ?_))
     refine x_done (v := .slice r0_a_4 r0_n_4 r0_c_4) F95 (results_1 Try.results33 (.tmp (F95.ev 4 rfl))) ?_
     exact ⟨D, r0_a_4, r0_n_4, r0_c_4, rfl, (Mv.pick (S4.trans S10) [0, 1] rfl), by rw [hk_1]; exact upM_end (by omega)⟩
end Go.Proofs.Ytgfilegkabbliaa
