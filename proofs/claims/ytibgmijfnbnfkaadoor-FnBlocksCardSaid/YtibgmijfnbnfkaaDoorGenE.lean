/-
  Walks: the program's machines are looked at.
-/
import Derived.Test.YtibgmijfnbnfkaaDoorGenD
namespace Go.Proofs.YtibgmijfnbnfkaaDoor
open Go.ChangeShapes Go.WideShapes Go.ChangeAt Go.RowKit
set_option maxRecDepth 100000
set_option maxHeartbeats 1000000
theorem impl_cellAt_1_c {w : World} {H : Nat → Prop} {c : CellD} {key_b : Nat} {key : ByteArray} (h_c_key : okS c.key) (h_c_val : okS c.val) (h_key : okS key) (hA : At w [bx key_b [.string key] 9]) :
    Calls Tryd.prog 78 #[.agg #[.string c.key, .string c.val], .pointer (some ⟨key_b, 0, none⟩)] w fun e w' => e = .returned (.bool (decide (c.key = key))) ∧ Mv [bx key_b [.string key] 9] w [bx key_b [.string key] 9] w' := by
 have uU : True := (fun _ _ _ _ => trivial) H h_c_key h_c_val h_key
 clear uU
 refine calls_enter 8 Tryd.func78 rfl Tryd.ntmps78 (Nat.le_of_ble_eq_true rfl) (fun _ F0i => ?_)
 have F0 : Fr 8 [(0, .agg #[.string c.key, .string c.val]), (1, .pointer (some ⟨key_b, 0, none⟩))] _ := F0i
 clear F0i
 refine wp_seq (wp_region_lit (l_op (f_box F0 hA rfl rfl rfl (F0.ev 0 rfl) rfl rfl fun b1 _ w1 F2 S1 => ?_)))
 refine l_op (f_val F2 rfl rfl (r_assign rfl rfl) rfl fun _ F3 => ?_)
 have F4 : Fr 8 [(3, .bool false), (2, .pointer (some ⟨b1, 0, none⟩)), (1, .pointer (some ⟨key_b, 0, none⟩))] _ := F3.cut rfl
 clear F0 F2 F3
 have T5 : Mv _ _ [bx b1 [.string c.key, .string c.val] 53, bx key_b [.string key] 9] _ := S1
 refine s_end (x_normal (wp_seq (wp_region_lit (l_op (f_val F4 rfl rfl (r_field FI_53_0 rfl (F4.ev 2 rfl) rfl) rfl fun _ F6 => ?_)))))
 refine l_op (f_val (v := .string c.key) F6 rfl rfl (r_loadB T5.at' 0 TI_9 rfl rfl (F6.ev 4 rfl) rfl rfl (fun _ => rfl) rfl) rfl fun _ F7 => ?_)
 refine l_op (f_val (v := .string key) F7 rfl rfl (r_loadB T5.at' 1 TI_9 rfl rfl (F7.ev 1 rfl) rfl rfl (fun _ => rfl) rfl) rfl fun _ F8 => ?_)
 refine l_op (f_val F8 rfl rfl (r_cmps (b := (decide (c.key = key))) (.inl rfl) rfl (F8.ev 5 rfl) (F8.ev 6 rfl) rfl) rfl fun _ F9 => ?_)
 refine l_op (f_as F9 rfl rfl rfl rfl rfl fun _ F10 => ?_)
 have F11 : Fr 8 [(3, .bool (decide (c.key = key)))] _ := F10.cut rfl
 clear F4 F6 F7 F8 F9 F10
 refine s_end (x_normal (wp_ret ?_))
 refine x_done (v := .bool (decide (c.key = key))) F11 (results_1 Tryd.results78 (.tmp (F11.ev 3 rfl))) ?_
 exact ⟨rfl, (Mv.pick T5 [1] rfl)⟩
theorem IndexFunc_impl_cellAt_1_c {w : World} {H : Nat → Prop} {s : List CellD} {s_a : Option Addr} {s_n s_c : Nat} {f_b : Nat} {f : ByteArray} (v_s : Rd 2 encC okC H w (.slice s_a s_n s_c) s) (h_f : okS f) (hA : At w [bx f_b [.string f] 9]) (hD : ∀ b, H b → ¬ fps [bx f_b [.string f] 9] b) :
    Calls Tryd.prog 59 #[.slice s_a s_n s_c, .func (.func 78) #[] #[.pointer (some ⟨f_b, 0, none⟩)]] w fun e w' => e = .returned (.int .i64 (idxP (fun c : CellD => decide (c.key = f)) s)) ∧ Mv [bx f_b [.string f] 9] w [bx f_b [.string f] 9] w' ∧ i64ok (idxP (fun c : CellD => decide (c.key = f)) s) := by
 have V_v_s : Rd 2 encC okC (V H w [bx f_b [.string f] 9]) w (.slice s_a s_n s_c) s := Rd.start v_s hD
 obtain ⟨ln_s, le_s, mx_s, ni_s⟩ := Rd.inv v_s
 refine calls_enter 19 Tryd.func59 rfl Tryd.ntmps59 (Nat.le_of_ble_eq_true rfl) (fun _ F0i => ?_)
 have F0 : Fr 19 [(0, .slice s_a s_n s_c), (1, .func (.func 78) #[] #[.pointer (some ⟨f_b, 0, none⟩)])] _ := F0i
 clear F0i
 refine wp_seq (wp_region_lit (l_op (f_val F0 rfl rfl (r_assign rfl rfl) rfl fun _ F1 => ?_)))
 have F2 : Fr 19 [(4, .int .i64 0), (0, .slice s_a s_n s_c), (1, .func (.func 78) #[] #[.pointer (some ⟨f_b, 0, none⟩)])] _ := F1.cut rfl
 clear F0 F1
 refine s_end (x_normal (wp_seq (wp_seq (wp_region_lit (l_op (f_mv F2 rfl rfl rfl rfl rfl fun _ F3 => ?_))))))
 refine l_op (f_val F3 rfl rfl (r_len Tryd.underlying26 rfl (F3.ev 6 rfl)) rfl fun _ F4 => ?_)
 refine l_op (f_val F4 rfl rfl (r_move rfl rfl) rfl fun _ F5 => ?_)
 have F6 : Fr 19 [(8, .int .i64 0), (7, .int .i64 ((s_n : Nat) : Int)), (0, .slice s_a s_n s_c), (1, .func (.func 78) #[] #[.pointer (some ⟨f_b, 0, none⟩)])] _ := F5.cut rfl
 clear F2 F3 F4 F5
 refine s_end (x_normal (wp_block ?_))
 refine x_loop (fun (k : Nat) aZ wZ => Fr 19 [(8, .int .i64 ((k : Nat) : Int)), (7, .int .i64 ((s_n : Nat) : Int)), (0, .slice s_a s_n s_c), (1, .func (.func 78) #[] #[.pointer (some ⟨f_b, 0, none⟩)])] aZ ∧ Mv [bx f_b [.string f] 9] w [bx f_b [.string f] 9] wZ ∧ (k ≤ s_n) ∧ (∀ j, j < k → ∀ c, nth s j = some c → (decide (c.key = f)) = false)) (fun (k : Nat) => s_n - k) (0) ?_ ?_
 · exact ⟨F6.cut rfl, (Mv.refl hA), by omega, all_none⟩
 · rintro k a7 w7 ⟨F7, S7, hk_0, hk_1⟩
   refine wp_seq (wp_region_lit (l_op (f_val F7 rfl rfl (r_cmp (b := decide (k < s_n)) (.inr (.inr (.inl rfl))) rfl (F7.ev 8 rfl) (F7.ev 7 rfl) (dec_of (by omega))) rfl fun _ F8 => ?_)))
   have F9 : Fr 19 [(9, .bool (decide (k < s_n))), (8, .int .i64 ((k : Nat) : Int)), (7, .int .i64 ((s_n : Nat) : Int)), (0, .slice s_a s_n s_c), (1, .func (.func 78) #[] #[.pointer (some ⟨f_b, 0, none⟩)])] _ := F8.cut rfl
   clear F7 F8
   refine s_end (x_normal (wp_seq (x_cond (p := k < s_n) (F9.ev 9 rfl) (fun h10 => ?_) (fun h10 => ?_))))
   · skip
     refine wp_skip (x_normal (wp_seq (wp_block (wp_seq (wp_region_lit (l_op (f_mv F9 rfl rfl rfl rfl rfl fun _ F11 => ?_)))))))
     refine l_op (f_as F11 rfl rfl rfl rfl rfl fun _ F12 => ?_)
     have F13 : Fr 19 [(5, .int .i64 ((k : Nat) : Int)), (8, .int .i64 ((k : Nat) : Int)), (7, .int .i64 ((s_n : Nat) : Int)), (0, .slice s_a s_n s_c), (1, .func (.func 78) #[] #[.pointer (some ⟨f_b, 0, none⟩)])] _ := F12.cut rfl
     clear F9 F11 F12
     refine s_end (x_normal (wp_seq (wp_region_lit (l_op (f_mv F13 rfl rfl rfl rfl rfl fun _ F14 => ?_)))))
     refine l_op (f_mv F14 rfl rfl rfl rfl rfl fun _ F15 => ?_)
     refine l_op (f_mv F15 rfl rfl rfl rfl rfl fun _ F16 => ?_)
     obtain ⟨B17, O17, x1, ad17, hx1, okx1, ln17, cl17⟩ := Rd.at (Rd.mv (Nat.succ_pos _) V_v_s S7) k (by first | assumption | omega)
     clear ln17
     refine l_op (f_val F16 rfl rfl (r_indexAddr (i := k) ET_26 rfl ((F16.ev 12 rfl).trans (by rw [ad17])) (F16.ev 13 rfl) (by omega) (by first | assumption | omega)) rfl fun _ F18 => ?_)
     refine l_op (f_val (v := .agg #[.string x1.key, .string x1.val]) F18 rfl rfl (r_load (cs := [.string x1.key, .string x1.val]) TI_53 rfl (F18.ev 14 rfl) rfl (fun h => nomatch h) (elem_sub (f := 0) cl17 [.string x1.key, .string x1.val] rfl)) rfl fun _ F19 => ?_)
     refine l_op (f_callv F19 CF_78 rfl rfl rfl rfl (F19.ev 11 rfl) (lc (F19.ev 15 rfl) rfl) (impl_cellAt_1_c (H := fun _ => True) (c := x1) (key := f) okx1.1 okx1.2 h_f (At.pick (is := [0]) S7.at' rfl)) ?_)
     rintro _ w20 ⟨rfl, m20⟩
     refine ⟨_, rfl, fun _ F21 => ?_⟩
     have S20 : Mv _ _ [bx f_b [.string f] 9] _ := At.frame S7.at' [0] rfl m20
     clear m20
     have F22 : Fr 19 [(16, .bool (decide (x1.key = f))), (5, .int .i64 ((k : Nat) : Int)), (8, .int .i64 ((k : Nat) : Int)), (7, .int .i64 ((s_n : Nat) : Int)), (0, .slice s_a s_n s_c), (1, .func (.func 78) #[] #[.pointer (some ⟨f_b, 0, none⟩)])] _ := F21.cut rfl
     clear F13 F14 F15 F16 F18 F19 F21
     refine s_end (x_normal (x_condb (b := (decide (x1.key = f))) (F22.ev 16 rfl) (fun h23 => ?_) (fun h23 => ?_)))
     · skip
       refine wp_seq (wp_region_lit (l_op (f_mv F22 rfl rfl rfl rfl rfl fun _ F24 => ?_)))
       refine l_op (f_as F24 rfl rfl rfl rfl rfl fun _ F25 => ?_)
       have F26 : Fr 19 [(4, .int .i64 ((k : Nat) : Int))] _ := F25.cut rfl
       clear F22 F24 F25
       refine s_end (x_normal (wp_ret (x_block_ret (x_then_ret (x_then_ret (x_block_ret (x_then_ret ?_)))))))
       refine x_done (v := .int .i64 ((k : Nat) : Int)) F26 (results_1 Tryd.results59 (.tmp (F26.ev 4 rfl))) ?_
       exact ⟨(by rw [(show ((k : Nat) : Int) = (idxP (fun c : CellD => decide (c.key = f)) s) from by exact (idxP_found _ s k _ (by rw [← nth_eq]; exact hx1) (by first | assumption | exact decide_eq_true (by assumption)) (fun q hq y hy => hk_1 q hq y (by rw [nth_eq]; exact hy))).symm)]), (Mv.pick (S7.trans S20) [0] rfl), idxP_ok _ s (by omega)⟩
     · skip
       refine wp_skip (x_block_normal (x_normal (wp_region_lit (l_op (f_val F22 rfl rfl (r_add (z := ((k + 1 : Nat) : Int)) rfl (F22.ev 8 rfl) rfl (by first | rfl | omega) ⟨by first | omega | (unfold i64ok at *; omega), by first | omega | (unfold i64ok at *; omega)⟩) rfl fun _ F27 => ?_)))))
       refine l_op (f_mv F27 rfl rfl rfl rfl rfl fun _ F28 => ?_)
       have F29 : Fr 19 [(8, .int .i64 ((k + 1 : Nat) : Int)), (7, .int .i64 ((s_n : Nat) : Int)), (0, .slice s_a s_n s_c), (1, .func (.func 78) #[] #[.pointer (some ⟨f_b, 0, none⟩)])] _ := F28.cut rfl
       clear F22 F27 F28
       refine s_end ?_
       refine x_normal ⟨k + 1, by omega, F29.cut rfl, ((S7.trans S20).pick [0] rfl), by omega, all_step hk_1 (fun c hc => by obtain rfl := Option.some.inj (hx1.symm.trans hc); first | assumption | exact decide_eq_false (by assumption))⟩
   · skip
     refine wp_exit (x_then_exit (x_then_exit (x_block_here (x_normal (wp_seq (wp_region_lit (l_op (f_val F9 rfl rfl (r_assign rfl rfl) rfl fun _ F30 => ?_))))))))
     have F31 : Fr 19 [(4, .int .i64 (-1))] _ := F30.cut rfl
     clear F9 F30
     refine s_end (x_normal (wp_ret ?_))
     refine x_done (v := .int .i64 (-1)) F31 (results_1 Tryd.results59 (.tmp (F31.ev 4 rfl))) ?_
     exact ⟨(by rw [(show (-1) = (idxP (fun c : CellD => decide (c.key = f)) s) from by exact (idxP_none _ s (fun q hq y hy => hk_1 q (by omega) y (by rw [nth_eq]; exact hy))).symm)]), (Mv.pick S7 [0] rfl), idxP_ok _ s (by omega)⟩
theorem impl_cellAt_c {w : World} {H : Nat → Prop} {s : List CellD} {s_a : Option Addr} {s_n s_c : Nat} {key : ByteArray} (v_s : Rd 2 encC okC H w (.slice s_a s_n s_c) s) (h_key : okS key) :
    Calls Tryd.prog 63 #[.slice s_a s_n s_c, .string key] w fun e w' => e = .returned (.int .i64 (idxKey s key)) ∧ Mv [] w [] w' ∧ i64ok (idxKey s key) := by
 have V_v_s : Rd 2 encC okC (V H w []) w (.slice s_a s_n s_c) s := Rd.start v_s (fun _ _ => fps_nil _)
 obtain ⟨ln_s, le_s, mx_s, ni_s⟩ := Rd.inv v_s
 refine calls_enter 8 Tryd.func63 rfl Tryd.ntmps63 (Nat.le_of_ble_eq_true rfl) (fun _ F0i => ?_)
 have F0 : Fr 8 [(0, .slice s_a s_n s_c), (1, .string key)] _ := F0i
 clear F0i
 refine wp_seq (wp_region_lit (l_op (f_box F0 (At.nil w) rfl rfl rfl (F0.ev 1 rfl) rfl rfl fun b1 _ w1 F2 S1 => ?_)))
 refine l_op (f_val F2 rfl rfl (r_assign rfl rfl) rfl fun _ F3 => ?_)
 have F4 : Fr 8 [(4, .int .i64 0), (3, .pointer (some ⟨b1, 0, none⟩)), (0, .slice s_a s_n s_c)] _ := F3.cut rfl
 clear F0 F2 F3
 have T5 : Mv _ _ [bx b1 [.string key] 9] _ := S1
 refine s_end (x_normal (wp_seq (wp_region_lit (l_op (f_mv F4 rfl rfl rfl rfl rfl fun _ F6 => ?_)))))
 refine l_op (f_val F6 rfl rfl (r_makeFuncL rfl (lc (F6.ev 3 rfl) rfl)) rfl fun _ F7 => ?_)
 refine l_op (f_call F7 CF_59 rfl rfl rfl rfl (lc (F7.ev 5 rfl) (lc (F7.ev 6 rfl) rfl)) (IndexFunc_impl_cellAt_1_c (s := s) (f := key) (Rd.mv (Nat.succ_pos _) V_v_s T5) h_key (At.pick (is := [0]) T5.at' rfl) (V_off (is := [0]))) ?_)
 rintro _ w8 ⟨rfl, m8, q8_0⟩
 refine ⟨_, rfl, fun _ F9 => ?_⟩
 have S8 : Mv _ _ [bx b1 [.string key] 9] _ := At.frame T5.at' [0] rfl m8
 clear m8
 refine l_op (f_as F9 rfl rfl rfl rfl rfl fun _ F10 => ?_)
 have F11 : Fr 8 [(4, .int .i64 (idxP (fun c : CellD => decide (c.key = key)) s))] _ := F10.cut rfl
 clear F4 F6 F7 F9 F10
 refine s_end (x_normal (wp_ret ?_))
 refine x_done (v := .int .i64 (idxP (fun c : CellD => decide (c.key = key)) s)) F11 (results_1 Tryd.results63 (.tmp (F11.ev 4 rfl))) ?_
 exact ⟨rfl, (Mv.pick (T5.trans S8) [] rfl), by first | assumption | omega⟩
theorem impl_GetKey_c {w : World} {H : Nat → Prop} {s : List CellD} {s_a : Option Addr} {s_n s_c : Nat} {key : ByteArray} (v_s : Rd 2 encC okC H w (.slice s_a s_n s_c) s) (h_key : okS key) :
    Calls Tryd.prog 49 #[.slice s_a s_n s_c, .string key] w fun e w' => e = .returned (.string (getKey s key)) ∧ Mv [] w [] w' ∧ okS (getKey s key) := by
 have V_v_s : Rd 2 encC okC (V H w []) w (.slice s_a s_n s_c) s := Rd.start v_s (fun _ _ => fps_nil _)
 obtain ⟨ln_s, le_s, mx_s, ni_s⟩ := Rd.inv v_s
 refine calls_enter 16 Tryd.func49 rfl Tryd.ntmps49 (Nat.le_of_ble_eq_true rfl) (fun _ F0i => ?_)
 have F0 : Fr 16 [(0, .slice s_a s_n s_c), (1, .string key)] _ := F0i
 clear F0i
 refine wp_seq (wp_region_lit (l_op (f_val F0 rfl rfl (r_assign rfl rfl) rfl fun _ F1 => ?_)))
 have F2 : Fr 16 [(4, .string (⟨#[]⟩ : ByteArray)), (0, .slice s_a s_n s_c), (1, .string key)] _ := F1.cut rfl
 clear F0 F1
 refine s_end (x_normal (wp_seq (wp_seq (wp_region_lit (l_op (f_mv F2 rfl rfl rfl rfl rfl fun _ F3 => ?_))))))
 refine l_op (f_mv F3 rfl rfl rfl rfl rfl fun _ F4 => ?_)
 refine l_op (f_call F4 CF_63 rfl rfl rfl rfl (lc (F4.ev 6 rfl) (lc (F4.ev 7 rfl) rfl)) (impl_cellAt_c (s := s) (key := key) V_v_s h_key) ?_)
 rintro _ w5 ⟨rfl, m5, q5_0⟩
 refine ⟨_, rfl, fun _ F6 => ?_⟩
 have S5 := At.frame0 (At.nil w) m5
 clear m5
 refine l_op (f_as F6 rfl rfl rfl rfl rfl fun _ F7 => ?_)
 have F8 : Fr 16 [(5, .int .i64 (idxKey s key)), (0, .slice s_a s_n s_c)] _ := F7.cut rfl
 clear F2 F3 F4 F6 F7
 have T9 : Mv _ _ [] _ := S5
 refine s_end (x_normal (wp_seq (wp_region_lit (l_op (f_mv F8 rfl rfl rfl rfl rfl fun _ F10 => ?_)))))
 refine l_op (f_val F10 rfl rfl (r_cmp (b := decide ((idxKey s key) ≥ 0)) (.inr (.inr (.inr (.inr (.inr rfl))))) rfl (F10.ev 9 rfl) rfl (dec_of (by omega))) rfl fun _ F11 => ?_)
 have F12 : Fr 16 [(10, .bool (decide ((idxKey s key) ≥ 0))), (5, .int .i64 (idxKey s key)), (0, .slice s_a s_n s_c)] _ := F11.cut rfl
 clear F8 F10 F11
 refine s_end (x_normal (x_cond (p := (idxKey s key) ≥ 0) (F12.ev 10 rfl) (fun h13 => ?_) (fun h13 => ?_)))
 · skip
   refine wp_seq (wp_region_lit (l_op (f_mv F12 rfl rfl rfl rfl rfl fun _ F14 => ?_)))
   refine l_op (f_mv F14 rfl rfl rfl rfl rfl fun _ F15 => ?_)
   obtain ⟨B16, O16, x1, ad16, hx1, okx1, ln16, cl16⟩ := Rd.at (Rd.mv (Nat.succ_pos _) V_v_s T9) (idxKey s key).toNat (by have := idxKey_bd s key; omega)
   clear ln16
   refine l_op (f_val F15 rfl rfl (r_indexAddr (i := (idxKey s key).toNat) ET_26 rfl ((F15.ev 11 rfl).trans (by rw [ad16])) (F15.ev 12 rfl) (by omega) (by have := idxKey_bd s key; omega)) rfl fun _ F17 => ?_)
   refine l_op (f_val F17 rfl rfl (r_field FI_53_1 rfl (F17.ev 13 rfl) rfl) rfl fun _ F18 => ?_)
   refine l_op (f_val (v := .string x1.val) F18 rfl rfl (r_load (cs := [.string x1.val]) TI_9 rfl (F18.ev 14 rfl) rfl (fun _ => rfl) (elem_sub (f := 1) cl16 [.string x1.val] rfl)) rfl fun _ F19 => ?_)
   refine l_op (f_as F19 rfl rfl rfl rfl rfl fun _ F20 => ?_)
   have F21 : Fr 16 [(4, .string x1.val)] _ := F20.cut rfl
   clear F12 F14 F15 F17 F18 F19 F20
   refine s_end (x_normal (wp_ret (x_then_ret ?_)))
   refine x_done (v := .string x1.val) F21 (results_1 Tryd.results49 (.tmp (F21.ev 4 rfl))) ?_
   exact ⟨(by rw [(show x1.val = (getKey s key) from by obtain ⟨g1, g2⟩ := idxP_at (p := fun c : CellD => decide (c.key = key)) (k := (idxKey s key).toNat) (show idxKey s key = _ by omega) hx1; exact (getKey_found hx1 (of_decide_eq_true g1) (fun j hj y hy => of_decide_eq_false (g2 j hj y hy))).symm)]), (Mv.pick T9 [] rfl), ((show x1.val = (getKey s key) from by obtain ⟨g1, g2⟩ := idxP_at (p := fun c : CellD => decide (c.key = key)) (k := (idxKey s key).toNat) (show idxKey s key = _ by omega) hx1; exact (getKey_found hx1 (of_decide_eq_true g1) (fun j hj y hy => of_decide_eq_false (g2 j hj y hy))).symm) ▸ okx1.2)⟩
 · skip
   refine wp_skip (x_normal (wp_seq (wp_region_lit (l_op (f_val F12 rfl rfl (r_assign rfl rfl) rfl fun _ F22 => ?_)))))
   have F23 : Fr 16 [(4, .string (⟨#[]⟩ : ByteArray))] _ := F22.cut rfl
   clear F12 F22
   refine s_end (x_normal (wp_ret ?_))
   refine x_done (v := .string (⟨#[]⟩ : ByteArray)) F23 (results_1 Tryd.results49 (.tmp (F23.ev 4 rfl))) ?_
   exact ⟨(by rw [(show (⟨#[]⟩ : ByteArray) = (getKey s key) from by exact (getKey_none (k := s.length) (Nat.le_refl _) (fun j hj y hy => of_decide_eq_false (idxP_no (p := fun c : CellD => decide (c.key = key)) (show ¬ 0 ≤ idxKey s key by omega) j hj y hy))).symm)]), (Mv.pick T9 [] rfl), ((show (⟨#[]⟩ : ByteArray) = (getKey s key) from by exact (getKey_none (k := s.length) (Nat.le_refl _) (fun j hj y hy => of_decide_eq_false (idxP_no (p := fun c : CellD => decide (c.key = key)) (show ¬ 0 ≤ idxKey s key by omega) j hj y hy))).symm) ▸ (by unfold okS; decide))⟩
theorem impl_Touch_clone_c {w : World} {H : Nat → Prop} {t : TouchD} {t_reads_a : Option Addr} {t_reads_n t_reads_c : Nat} {t_writes_a : Option Addr} {t_writes_n t_writes_c : Nat} (v_t_reads : Rd 1 encS okS H w (.slice t_reads_a t_reads_n t_reads_c) t.reads) (v_t_writes : Rd 1 encS okS H w (.slice t_writes_a t_writes_n t_writes_c) t.writes) (p0 : t.reads.length ≤ 1099511627776) (p1 : t.writes.length ≤ 1099511627776) :
    Calls Tryd.prog 33 #[.agg #[.slice t_reads_a t_reads_n t_reads_c, .slice t_writes_a t_writes_n t_writes_c]] w fun e w' => ∃ (r0_reads_a : Option Addr), ∃ (r0_reads_n : Nat), ∃ (r0_reads_c : Nat), ∃ (r0_writes_a : Option Addr), ∃ (r0_writes_n : Nat), ∃ (r0_writes_c : Nat), e = .returned (.agg #[.slice r0_reads_a r0_reads_n r0_reads_c, .slice r0_writes_a r0_writes_n r0_writes_c]) ∧ Mv [] w [ow 9 1 encS okS (.slice r0_reads_a r0_reads_n r0_reads_c) t.reads, ow 9 1 encS okS (.slice r0_writes_a r0_writes_n r0_writes_c) t.writes] w' := by
 have uU : True := (fun _ _ => trivial) p0 p1
 clear uU
 have V_v_t_reads : Rd 1 encS okS (V H w []) w (.slice t_reads_a t_reads_n t_reads_c) t.reads := Rd.start v_t_reads (fun _ _ => fps_nil _)
 obtain ⟨ln_t_reads, le_t_reads, mx_t_reads, ni_t_reads⟩ := Rd.inv v_t_reads
 have V_v_t_writes : Rd 1 encS okS (V H w []) w (.slice t_writes_a t_writes_n t_writes_c) t.writes := Rd.start v_t_writes (fun _ _ => fps_nil _)
 obtain ⟨ln_t_writes, le_t_writes, mx_t_writes, ni_t_writes⟩ := Rd.inv v_t_writes
 refine calls_enter 10 Tryd.func33 rfl Tryd.ntmps33 (Nat.le_of_ble_eq_true rfl) (fun _ F0i => ?_)
 have F0 : Fr 10 [(0, .agg #[.slice t_reads_a t_reads_n t_reads_c, .slice t_writes_a t_writes_n t_writes_c])] _ := F0i
 clear F0i
 refine wp_seq (wp_region_lit (l_op (f_box F0 (At.nil w) rfl rfl rfl (F0.ev 0 rfl) rfl rfl fun b1 _ w1 F2 S1 => ?_)))
 refine l_op (f_alloc F2 S1.at' ZI_29 rfl rfl rfl rfl rfl fun b3 _ w3 F4 S3 => ?_)
 have F5 : Fr 10 [(2, .pointer (some ⟨b3, 0, none⟩)), (1, .pointer (some ⟨b1, 0, none⟩))] _ := F4.cut rfl
 clear F0 F2 F4
 have T6 : Mv _ _ [bx b3 [.slice none 0 0, .slice none 0 0] 29, bx b1 [.slice t_reads_a t_reads_n t_reads_c, .slice t_writes_a t_writes_n t_writes_c] 29] _ := S3
 refine s_end (x_normal (wp_seq ?_))
 refine x_draw (fun aZ wZ => ∃ (r0_a_13 : Option Addr), ∃ (r0_n_13 : Nat), ∃ (r0_c_13 : Nat), ∃ (r0_a_15 : Option Addr), ∃ (r0_n_15 : Nat), ∃ (r0_c_15 : Nat), Fr 10 [(2, .pointer (some ⟨b3, 0, none⟩))] aZ ∧ Mv [bx b3 [.slice none 0 0, .slice none 0 0] 29, bx b1 [.slice t_reads_a t_reads_n t_reads_c, .slice t_writes_a t_writes_n t_writes_c] 29] w3 [bx b3 [.slice r0_a_13 r0_n_13 r0_c_13, .slice r0_a_15 r0_n_15 r0_c_15] 29, bx b1 [.slice t_reads_a t_reads_n t_reads_c, .slice t_writes_a t_writes_n t_writes_c] 29, ow 9 1 encS okS (.slice r0_a_13 r0_n_13 r0_c_13) t.reads, ow 9 1 encS okS (.slice r0_a_15 r0_n_15 r0_c_15) t.writes] wZ) [bx b1 [.slice t_reads_a t_reads_n t_reads_c, .slice t_writes_a t_writes_n t_writes_c] 29] mixed T6.at' (listed := #[false, false, false, false, false, false, false, false]) rfl (fun w8 S8 => ?_) [1] rfl ?_
 · skip
   refine g_take F5 rfl (i := 0) (listed' := #[true, false, false, false, false, false, false, false]) rfl (by kernel_rfl) (by kernel_rfl) (by kernel_rfl) (fun _ _ _ h => h) (Sd.of (Mv.refl S8.at') [1] rfl) rfl rfl rfl rfl (fun _ hz => (r_field FI_29_0 rfl (F5.ev 1 rfl) rfl)) fun _ F9 => ?_
   refine g_take (v := .slice t_reads_a t_reads_n t_reads_c) F9 rfl (i := 1) (listed' := #[true, true, false, false, false, false, false, false]) rfl (by kernel_rfl) (by kernel_rfl) (by kernel_rfl) (fun _ _ _ h => h) (Sd.of (Mv.refl S8.at') [1] rfl) rfl rfl rfl rfl (fun _ hz => (r_loadX (hz.bx 0 rfl) TI_27 rfl (F9.ev 3 rfl) rfl rfl (fun _ => rfl) rfl)) fun _ F10 => ?_
   refine g_take F10 rfl (i := 3) (listed' := #[true, true, false, true, false, false, false, false]) rfl (by kernel_rfl) (by kernel_rfl) (by kernel_rfl) (fun _ _ _ h => h) (Sd.of (Mv.refl S8.at') [1] rfl) rfl rfl rfl rfl (fun _ hz => (r_field FI_29_1 rfl (F10.ev 1 rfl) rfl)) fun _ F11 => ?_
   refine g_take (v := .slice t_writes_a t_writes_n t_writes_c) F11 rfl (i := 4) (listed' := #[true, true, false, true, true, false, false, false]) rfl (by kernel_rfl) (by kernel_rfl) (by kernel_rfl) (fun _ _ _ h => h) (Sd.of (Mv.refl S8.at') [1] rfl) rfl rfl rfl rfl (fun _ hz => (r_loadX (hz.bx 0 rfl) TI_27 rfl (F11.ev 6 rfl) rfl rfl (fun _ => rfl) rfl)) fun _ F12 => ?_
   refine d_one (i := 2) (listed' := #[true, true, true, true, true, false, false, false]) rfl (by kernel_rfl) rfl rfl ?_
   refine f_call F12 CF_44 rfl rfl rfl rfl (lc (F12.ev 4 rfl) rfl) (slices_Clone_Sstring_string_c (s := t.reads) (Rd.mv (Nat.succ_pos _) V_v_t_reads (S1.trans (T6.trans S8))) (by first | assumption | omega | (simp <;> omega))) ?_
   rintro _ w13 ⟨r0_a_13, r0_n_13, r0_c_13, rfl, m13⟩
   refine ⟨_, rfl, fun _ F14 => ?_⟩
   have S13 : Mv _ _ [ow 9 1 encS okS (.slice r0_a_13 r0_n_13 r0_c_13) t.reads, bx b3 [.slice none 0 0, .slice none 0 0] 29, bx b1 [.slice t_reads_a t_reads_n t_reads_c, .slice t_writes_a t_writes_n t_writes_c] 29] _ := At.frame S8.at' [] rfl m13
   obtain ⟨lo13_0, lp13_0, lq13_0⟩ := At.ownInv S13.at' ET_27.hk 0 rfl
   clear m13
   refine ⟨Sd.of S13 [2] rfl, ?_⟩
   refine d_one (i := 5) (listed' := #[true, true, true, true, true, true, false, false]) rfl (by kernel_rfl) rfl rfl ?_
   refine f_call F14 CF_44 rfl rfl rfl rfl (lc (F14.ev 7 rfl) rfl) (slices_Clone_Sstring_string_c (s := t.writes) (Rd.mv (Nat.succ_pos _) V_v_t_writes (S1.trans (T6.trans (S8.trans S13)))) (by first | assumption | omega | (simp <;> omega))) ?_
   rintro _ w15 ⟨r0_a_15, r0_n_15, r0_c_15, rfl, m15⟩
   refine ⟨_, rfl, fun _ F16 => ?_⟩
   have S15 : Mv _ _ [ow 9 1 encS okS (.slice r0_a_15 r0_n_15 r0_c_15) t.writes, ow 9 1 encS okS (.slice r0_a_13 r0_n_13 r0_c_13) t.reads, bx b3 [.slice none 0 0, .slice none 0 0] 29, bx b1 [.slice t_reads_a t_reads_n t_reads_c, .slice t_writes_a t_writes_n t_writes_c] 29] _ := At.frame S13.at' [] rfl m15
   obtain ⟨lo15_0, lp15_0, lq15_0⟩ := At.ownInv S15.at' ET_27.hk 0 rfl
   clear m15
   refine ⟨Sd.of (S13.trans S15) [3] rfl, ?_⟩
   refine g_take (v := .agg #[.slice r0_a_13 r0_n_13 r0_c_13, .slice r0_a_15 r0_n_15 r0_c_15]) F16 rfl (i := 6) (listed' := #[true, true, true, true, true, true, true, false]) rfl (by kernel_rfl) (by kernel_rfl) (by kernel_rfl) (fun _ _ _ h => h) (Sd.of (S13.trans S15) [3] rfl) rfl rfl rfl rfl (fun _ hz => (r_build BI_29 rfl (lc (pr2 (F16.ev 5 rfl)) (lc (pr2 (F16.ev 8 rfl)) rfl)) rfl)) fun _ F17 => ?_
   refine d_one (i := 7) (listed' := #[true, true, true, true, true, true, true, true]) rfl (by kernel_rfl) rfl rfl ?_
   refine s_store S15.at' 2 TI_29 rfl rfl rfl rfl rfl (F17.ev 2 rfl) (F17.ev 9 rfl) rfl rfl rfl rfl rfl fun w18 S18 => ?_
   refine ⟨Sd.of (S13.trans (S15.trans S18)) [3] rfl, ?_⟩
   refine wpAnyH_done (by kernel_rfl) (x_normal ?_) _
   exact ⟨r0_a_13, r0_n_13, r0_c_13, r0_a_15, r0_n_15, r0_c_15, F17.cut rfl, ((S8.trans (S13.trans (S15.trans S18))).pick [0, 3, 2, 1] rfl)⟩
 · rintro a19 w19 ⟨r0_a_13, r0_n_13, r0_c_13, r0_a_15, r0_n_15, r0_c_15, F19, S19⟩
   obtain ⟨lo19_2, lp19_2, lq19_2⟩ := At.ownInv S19.at' ET_27.hk 2 rfl
   obtain ⟨lo19_3, lp19_3, lq19_3⟩ := At.ownInv S19.at' ET_27.hk 3 rfl
   refine x_normal (wp_ret ?_)
   refine x_done (v := .agg #[.slice r0_a_13 r0_n_13 r0_c_13, .slice r0_a_15 r0_n_15 r0_c_15]) F19 (results_1 Tryd.results33 (.cell (F19.ev 2 rfl) (run_loadVar' TI_29 _ [.slice r0_a_13 r0_n_13 r0_c_13, .slice r0_a_15 r0_n_15 r0_c_15] rfl (fun h => nomatch h) (At.cells S19.at' 0 rfl 0 [.slice r0_a_13 r0_n_13 r0_c_13, .slice r0_a_15 r0_n_15 r0_c_15] rfl)))) ?_
   exact ⟨r0_a_13, r0_n_13, r0_c_13, r0_a_15, r0_n_15, r0_c_15, rfl, (Mv.pick (S1.trans (T6.trans S19)) [2, 3] rfl)⟩
theorem impl_Mach_clone_c {w : World} {H : Nat → Prop} {m : MachD} {m_store_a : Option Addr} {m_store_n m_store_c : Nat} {m_touch_reads_a : Option Addr} {m_touch_reads_n m_touch_reads_c : Nat} {m_touch_writes_a : Option Addr} {m_touch_writes_n m_touch_writes_c : Nat} (v_m_store : Rd 2 encC okC H w (.slice m_store_a m_store_n m_store_c) m.store) (v_m_touch_reads : Rd 1 encS okS H w (.slice m_touch_reads_a m_touch_reads_n m_touch_reads_c) m.touch.reads) (v_m_touch_writes : Rd 1 encS okS H w (.slice m_touch_writes_a m_touch_writes_n m_touch_writes_c) m.touch.writes) (p0 : m.store.length ≤ 1099511627776) (p1 : m.touch.reads.length ≤ 1099511627776) (p2 : m.touch.writes.length ≤ 1099511627776) :
    Calls Tryd.prog 21 #[.agg #[.slice m_store_a m_store_n m_store_c, .slice m_touch_reads_a m_touch_reads_n m_touch_reads_c, .slice m_touch_writes_a m_touch_writes_n m_touch_writes_c]] w fun e w' => ∃ (r0_store_a : Option Addr), ∃ (r0_store_n : Nat), ∃ (r0_store_c : Nat), ∃ (r0_touch_reads_a : Option Addr), ∃ (r0_touch_reads_n : Nat), ∃ (r0_touch_reads_c : Nat), ∃ (r0_touch_writes_a : Option Addr), ∃ (r0_touch_writes_n : Nat), ∃ (r0_touch_writes_c : Nat), e = .returned (.agg #[.slice r0_store_a r0_store_n r0_store_c, .slice r0_touch_reads_a r0_touch_reads_n r0_touch_reads_c, .slice r0_touch_writes_a r0_touch_writes_n r0_touch_writes_c]) ∧ Mv [] w [ow 53 2 encC okC (.slice r0_store_a r0_store_n r0_store_c) m.store, ow 9 1 encS okS (.slice r0_touch_reads_a r0_touch_reads_n r0_touch_reads_c) m.touch.reads, ow 9 1 encS okS (.slice r0_touch_writes_a r0_touch_writes_n r0_touch_writes_c) m.touch.writes] w' := by
 have uU : True := (fun _ _ _ => trivial) p0 p1 p2
 clear uU
 have V_v_m_store : Rd 2 encC okC (V H w []) w (.slice m_store_a m_store_n m_store_c) m.store := Rd.start v_m_store (fun _ _ => fps_nil _)
 obtain ⟨ln_m_store, le_m_store, mx_m_store, ni_m_store⟩ := Rd.inv v_m_store
 have V_v_m_touch_reads : Rd 1 encS okS (V H w []) w (.slice m_touch_reads_a m_touch_reads_n m_touch_reads_c) m.touch.reads := Rd.start v_m_touch_reads (fun _ _ => fps_nil _)
 obtain ⟨ln_m_touch_reads, le_m_touch_reads, mx_m_touch_reads, ni_m_touch_reads⟩ := Rd.inv v_m_touch_reads
 have V_v_m_touch_writes : Rd 1 encS okS (V H w []) w (.slice m_touch_writes_a m_touch_writes_n m_touch_writes_c) m.touch.writes := Rd.start v_m_touch_writes (fun _ _ => fps_nil _)
 obtain ⟨ln_m_touch_writes, le_m_touch_writes, mx_m_touch_writes, ni_m_touch_writes⟩ := Rd.inv v_m_touch_writes
 refine calls_enter 10 Tryd.func21 rfl Tryd.ntmps21 (Nat.le_of_ble_eq_true rfl) (fun _ F0i => ?_)
 have F0 : Fr 10 [(0, .agg #[.slice m_store_a m_store_n m_store_c, .slice m_touch_reads_a m_touch_reads_n m_touch_reads_c, .slice m_touch_writes_a m_touch_writes_n m_touch_writes_c])] _ := F0i
 clear F0i
 refine wp_seq (wp_region_lit (l_op (f_box F0 (At.nil w) rfl rfl rfl (F0.ev 0 rfl) rfl rfl fun b1 _ w1 F2 S1 => ?_)))
 refine l_op (f_alloc F2 S1.at' ZI_31 rfl rfl rfl rfl rfl fun b3 _ w3 F4 S3 => ?_)
 have F5 : Fr 10 [(2, .pointer (some ⟨b3, 0, none⟩)), (1, .pointer (some ⟨b1, 0, none⟩))] _ := F4.cut rfl
 clear F0 F2 F4
 have T6 : Mv _ _ [bx b3 [.slice none 0 0, .slice none 0 0, .slice none 0 0] 31, bx b1 [.slice m_store_a m_store_n m_store_c, .slice m_touch_reads_a m_touch_reads_n m_touch_reads_c, .slice m_touch_writes_a m_touch_writes_n m_touch_writes_c] 31] _ := S3
 refine s_end (x_normal (wp_seq ?_))
 refine x_draw (fun aZ wZ => ∃ (r0_a_13 : Option Addr), ∃ (r0_n_13 : Nat), ∃ (r0_c_13 : Nat), ∃ (r0_reads_a_15 : Option Addr), ∃ (r0_reads_n_15 : Nat), ∃ (r0_reads_c_15 : Nat), ∃ (r0_writes_a_15 : Option Addr), ∃ (r0_writes_n_15 : Nat), ∃ (r0_writes_c_15 : Nat), Fr 10 [(2, .pointer (some ⟨b3, 0, none⟩))] aZ ∧ Mv [bx b3 [.slice none 0 0, .slice none 0 0, .slice none 0 0] 31, bx b1 [.slice m_store_a m_store_n m_store_c, .slice m_touch_reads_a m_touch_reads_n m_touch_reads_c, .slice m_touch_writes_a m_touch_writes_n m_touch_writes_c] 31] w3 [bx b3 [.slice r0_a_13 r0_n_13 r0_c_13, .slice r0_reads_a_15 r0_reads_n_15 r0_reads_c_15, .slice r0_writes_a_15 r0_writes_n_15 r0_writes_c_15] 31, bx b1 [.slice m_store_a m_store_n m_store_c, .slice m_touch_reads_a m_touch_reads_n m_touch_reads_c, .slice m_touch_writes_a m_touch_writes_n m_touch_writes_c] 31, ow 53 2 encC okC (.slice r0_a_13 r0_n_13 r0_c_13) m.store, ow 9 1 encS okS (.slice r0_reads_a_15 r0_reads_n_15 r0_reads_c_15) m.touch.reads, ow 9 1 encS okS (.slice r0_writes_a_15 r0_writes_n_15 r0_writes_c_15) m.touch.writes] wZ) [bx b1 [.slice m_store_a m_store_n m_store_c, .slice m_touch_reads_a m_touch_reads_n m_touch_reads_c, .slice m_touch_writes_a m_touch_writes_n m_touch_writes_c] 31] mixed T6.at' (listed := #[false, false, false, false, false, false, false, false]) rfl (fun w8 S8 => ?_) [1] rfl ?_
 · skip
   refine g_take F5 rfl (i := 0) (listed' := #[true, false, false, false, false, false, false, false]) rfl (by kernel_rfl) (by kernel_rfl) (by kernel_rfl) (fun _ _ _ h => h) (Sd.of (Mv.refl S8.at') [1] rfl) rfl rfl rfl rfl (fun _ hz => (r_field FI_31_0 rfl (F5.ev 1 rfl) rfl)) fun _ F9 => ?_
   refine g_take (v := .slice m_store_a m_store_n m_store_c) F9 rfl (i := 1) (listed' := #[true, true, false, false, false, false, false, false]) rfl (by kernel_rfl) (by kernel_rfl) (by kernel_rfl) (fun _ _ _ h => h) (Sd.of (Mv.refl S8.at') [1] rfl) rfl rfl rfl rfl (fun _ hz => (r_loadX (hz.bx 0 rfl) TI_26 rfl (F9.ev 3 rfl) rfl rfl (fun _ => rfl) rfl)) fun _ F10 => ?_
   refine g_take F10 rfl (i := 3) (listed' := #[true, true, false, true, false, false, false, false]) rfl (by kernel_rfl) (by kernel_rfl) (by kernel_rfl) (fun _ _ _ h => h) (Sd.of (Mv.refl S8.at') [1] rfl) rfl rfl rfl rfl (fun _ hz => (r_field FI_31_1 rfl (F10.ev 1 rfl) rfl)) fun _ F11 => ?_
   refine g_take (v := .agg #[.slice m_touch_reads_a m_touch_reads_n m_touch_reads_c, .slice m_touch_writes_a m_touch_writes_n m_touch_writes_c]) F11 rfl (i := 4) (listed' := #[true, true, false, true, true, false, false, false]) rfl (by kernel_rfl) (by kernel_rfl) (by kernel_rfl) (fun _ _ _ h => h) (Sd.of (Mv.refl S8.at') [1] rfl) rfl rfl rfl rfl (fun _ hz => (r_loadX (hz.bx 0 rfl) TI_29 rfl (F11.ev 6 rfl) rfl rfl (fun h => nomatch h) rfl)) fun _ F12 => ?_
   refine d_one (i := 2) (listed' := #[true, true, true, true, true, false, false, false]) rfl (by kernel_rfl) rfl rfl ?_
   refine f_call F12 CF_32 rfl rfl rfl rfl (lc (F12.ev 4 rfl) rfl) (slices_Clone_Simpl_Cell_impl_Cell_c (s := m.store) (Rd.mv (Nat.succ_pos _) V_v_m_store (S1.trans (T6.trans S8))) (by first | assumption | omega | (simp <;> omega))) ?_
   rintro _ w13 ⟨r0_a_13, r0_n_13, r0_c_13, rfl, m13⟩
   refine ⟨_, rfl, fun _ F14 => ?_⟩
   have S13 : Mv _ _ [ow 53 2 encC okC (.slice r0_a_13 r0_n_13 r0_c_13) m.store, bx b3 [.slice none 0 0, .slice none 0 0, .slice none 0 0] 31, bx b1 [.slice m_store_a m_store_n m_store_c, .slice m_touch_reads_a m_touch_reads_n m_touch_reads_c, .slice m_touch_writes_a m_touch_writes_n m_touch_writes_c] 31] _ := At.frame S8.at' [] rfl m13
   obtain ⟨lo13_0, lp13_0, lq13_0⟩ := At.ownInv S13.at' ET_26.hk 0 rfl
   clear m13
   refine ⟨Sd.of S13 [2] rfl, ?_⟩
   refine d_one (i := 5) (listed' := #[true, true, true, true, true, true, false, false]) rfl (by kernel_rfl) rfl rfl ?_
   refine f_call F14 CF_33 rfl rfl rfl rfl (lc (F14.ev 7 rfl) rfl) (impl_Touch_clone_c (t := m.touch) (Rd.mv (Nat.succ_pos _) V_v_m_touch_reads (S1.trans (T6.trans (S8.trans S13)))) (Rd.mv (Nat.succ_pos _) V_v_m_touch_writes (S1.trans (T6.trans (S8.trans S13)))) (by first | assumption | omega | (simp <;> omega)) (by first | assumption | omega | (simp <;> omega))) ?_
   rintro _ w15 ⟨r0_reads_a_15, r0_reads_n_15, r0_reads_c_15, r0_writes_a_15, r0_writes_n_15, r0_writes_c_15, rfl, m15⟩
   refine ⟨_, rfl, fun _ F16 => ?_⟩
   have S15 : Mv _ _ [ow 9 1 encS okS (.slice r0_reads_a_15 r0_reads_n_15 r0_reads_c_15) m.touch.reads, ow 9 1 encS okS (.slice r0_writes_a_15 r0_writes_n_15 r0_writes_c_15) m.touch.writes, ow 53 2 encC okC (.slice r0_a_13 r0_n_13 r0_c_13) m.store, bx b3 [.slice none 0 0, .slice none 0 0, .slice none 0 0] 31, bx b1 [.slice m_store_a m_store_n m_store_c, .slice m_touch_reads_a m_touch_reads_n m_touch_reads_c, .slice m_touch_writes_a m_touch_writes_n m_touch_writes_c] 31] _ := At.frame S13.at' [] rfl m15
   obtain ⟨lo15_0, lp15_0, lq15_0⟩ := At.ownInv S15.at' ET_27.hk 0 rfl
   obtain ⟨lo15_1, lp15_1, lq15_1⟩ := At.ownInv S15.at' ET_27.hk 1 rfl
   clear m15
   refine ⟨Sd.of (S13.trans S15) [4] rfl, ?_⟩
   refine g_take (v := .agg #[.slice r0_a_13 r0_n_13 r0_c_13, .slice r0_reads_a_15 r0_reads_n_15 r0_reads_c_15, .slice r0_writes_a_15 r0_writes_n_15 r0_writes_c_15]) F16 rfl (i := 6) (listed' := #[true, true, true, true, true, true, true, false]) rfl (by kernel_rfl) (by kernel_rfl) (by kernel_rfl) (fun _ _ _ h => h) (Sd.of (S13.trans S15) [4] rfl) rfl rfl rfl rfl (fun _ hz => (r_build BI_31 rfl (lc (pr2 (F16.ev 5 rfl)) (lc (pr2 (F16.ev 8 rfl)) rfl)) rfl)) fun _ F17 => ?_
   refine d_one (i := 7) (listed' := #[true, true, true, true, true, true, true, true]) rfl (by kernel_rfl) rfl rfl ?_
   refine s_store S15.at' 3 TI_31 rfl rfl rfl rfl rfl (F17.ev 2 rfl) (F17.ev 9 rfl) rfl rfl rfl rfl rfl fun w18 S18 => ?_
   refine ⟨Sd.of (S13.trans (S15.trans S18)) [4] rfl, ?_⟩
   refine wpAnyH_done (by kernel_rfl) (x_normal ?_) _
   exact ⟨r0_a_13, r0_n_13, r0_c_13, r0_reads_a_15, r0_reads_n_15, r0_reads_c_15, r0_writes_a_15, r0_writes_n_15, r0_writes_c_15, F17.cut rfl, ((S8.trans (S13.trans (S15.trans S18))).pick [0, 4, 3, 1, 2] rfl)⟩
 · rintro a19 w19 ⟨r0_a_13, r0_n_13, r0_c_13, r0_reads_a_15, r0_reads_n_15, r0_reads_c_15, r0_writes_a_15, r0_writes_n_15, r0_writes_c_15, F19, S19⟩
   obtain ⟨lo19_2, lp19_2, lq19_2⟩ := At.ownInv S19.at' ET_26.hk 2 rfl
   obtain ⟨lo19_3, lp19_3, lq19_3⟩ := At.ownInv S19.at' ET_27.hk 3 rfl
   obtain ⟨lo19_4, lp19_4, lq19_4⟩ := At.ownInv S19.at' ET_27.hk 4 rfl
   refine x_normal (wp_ret ?_)
   refine x_done (v := .agg #[.slice r0_a_13 r0_n_13 r0_c_13, .slice r0_reads_a_15 r0_reads_n_15 r0_reads_c_15, .slice r0_writes_a_15 r0_writes_n_15 r0_writes_c_15]) F19 (results_1 Tryd.results21 (.cell (F19.ev 2 rfl) (run_loadVar' TI_31 _ [.slice r0_a_13 r0_n_13 r0_c_13, .slice r0_reads_a_15 r0_reads_n_15 r0_reads_c_15, .slice r0_writes_a_15 r0_writes_n_15 r0_writes_c_15] rfl (fun h => nomatch h) (At.cells S19.at' 0 rfl 0 [.slice r0_a_13 r0_n_13 r0_c_13, .slice r0_reads_a_15 r0_reads_n_15 r0_reads_c_15, .slice r0_writes_a_15 r0_writes_n_15 r0_writes_c_15] rfl)))) ?_
   exact ⟨r0_a_13, r0_n_13, r0_c_13, r0_reads_a_15, r0_reads_n_15, r0_reads_c_15, r0_writes_a_15, r0_writes_n_15, r0_writes_c_15, rfl, (Mv.pick (S1.trans (T6.trans S19)) [2, 3, 4] rfl)⟩
theorem impl_Mach_look_c {w : World} {H : Nat → Prop} {m : MachD} {m_store_a : Option Addr} {m_store_n m_store_c : Nat} {m_touch_reads_a : Option Addr} {m_touch_reads_n m_touch_reads_c : Nat} {m_touch_writes_a : Option Addr} {m_touch_writes_n m_touch_writes_c : Nat} {m_b : Nat} {key : ByteArray} (h_key : okS key) (p0 : m.touch.reads.length ≤ 274877906944) (hA : At w [bx m_b [.slice m_store_a m_store_n m_store_c, .slice m_touch_reads_a m_touch_reads_n m_touch_reads_c, .slice m_touch_writes_a m_touch_writes_n m_touch_writes_c] 31, ow 53 2 encC okC (.slice m_store_a m_store_n m_store_c) m.store, ow 9 1 encS okS (.slice m_touch_reads_a m_touch_reads_n m_touch_reads_c) m.touch.reads, ow 9 1 encS okS (.slice m_touch_writes_a m_touch_writes_n m_touch_writes_c) m.touch.writes]) :
    Calls Tryd.prog 40 #[.pointer (some ⟨m_b, 0, none⟩), .string key] w fun e w' => ∃ (q_m_store_a : Option Addr), ∃ (q_m_store_n : Nat), ∃ (q_m_store_c : Nat), ∃ (q_m_touch_reads_a : Option Addr), ∃ (q_m_touch_reads_n : Nat), ∃ (q_m_touch_reads_c : Nat), ∃ (q_m_touch_writes_a : Option Addr), ∃ (q_m_touch_writes_n : Nat), ∃ (q_m_touch_writes_c : Nat), e = .returned (.string (getKey m.store key)) ∧ Mv [bx m_b [.slice m_store_a m_store_n m_store_c, .slice m_touch_reads_a m_touch_reads_n m_touch_reads_c, .slice m_touch_writes_a m_touch_writes_n m_touch_writes_c] 31, ow 53 2 encC okC (.slice m_store_a m_store_n m_store_c) m.store, ow 9 1 encS okS (.slice m_touch_reads_a m_touch_reads_n m_touch_reads_c) m.touch.reads, ow 9 1 encS okS (.slice m_touch_writes_a m_touch_writes_n m_touch_writes_c) m.touch.writes] w [bx m_b [.slice q_m_store_a q_m_store_n q_m_store_c, .slice q_m_touch_reads_a q_m_touch_reads_n q_m_touch_reads_c, .slice q_m_touch_writes_a q_m_touch_writes_n q_m_touch_writes_c] 31, ow 53 2 encC okC (.slice q_m_store_a q_m_store_n q_m_store_c) (lookM m key).store, ow 9 1 encS okS (.slice q_m_touch_reads_a q_m_touch_reads_n q_m_touch_reads_c) (lookM m key).touch.reads, ow 9 1 encS okS (.slice q_m_touch_writes_a q_m_touch_writes_n q_m_touch_writes_c) (lookM m key).touch.writes] w' ∧ okS (getKey m.store key) := by
 have uU : True := (fun _ _ => trivial) H p0
 clear uU
 obtain ⟨lo1, lp1, lq1⟩ := At.ownInv hA ET_26.hk 1 rfl
 obtain ⟨lo2, lp2, lq2⟩ := At.ownInv hA ET_27.hk 2 rfl
 obtain ⟨lo3, lp3, lq3⟩ := At.ownInv hA ET_27.hk 3 rfl
 refine calls_enter 22 Tryd.func40 rfl Tryd.ntmps40 (Nat.le_of_ble_eq_true rfl) (fun _ F0i => ?_)
 have F0 : Fr 22 [(0, .pointer (some ⟨m_b, 0, none⟩)), (1, .string key)] _ := F0i
 clear F0i
 refine wp_seq (wp_region_lit (l_op (f_val F0 rfl rfl (r_assign rfl rfl) rfl fun _ F1 => ?_)))
 have F2 : Fr 22 [(4, .string (⟨#[]⟩ : ByteArray)), (0, .pointer (some ⟨m_b, 0, none⟩)), (1, .string key)] _ := F1.cut rfl
 clear F0 F1
 refine s_end (x_normal (wp_seq (wp_region_lit (l_op (f_mv F2 rfl rfl rfl rfl rfl fun _ F3 => ?_)))))
 refine l_op (f_mv F3 rfl rfl rfl rfl rfl fun _ F4 => ?_)
 refine l_op (f_val F4 rfl rfl (r_nilCheck rfl (F4.ev 6 rfl)) rfl fun _ F5 => ?_)
 refine l_op (f_val F5 rfl rfl (r_field FI_31_1 rfl (F5.ev 7 rfl) rfl) rfl fun _ F6 => ?_)
 refine l_op (f_val F6 rfl rfl (r_field FI_29_0 rfl (F6.ev 8 rfl) rfl) rfl fun _ F7 => ?_)
 refine l_op (f_val (v := .slice m_touch_reads_a m_touch_reads_n m_touch_reads_c) F7 rfl rfl (r_loadB hA 0 TI_27 rfl rfl (F7.ev 9 rfl) rfl rfl (fun _ => rfl) rfl) rfl fun _ F8 => ?_)
 refine l_op (f_mv F8 rfl rfl rfl rfl rfl fun _ F9 => ?_)
 refine l_op (f_call F9 CF_45 rfl rfl rfl rfl (lc (F9.ev 10 rfl) (lc (F9.ev 11 rfl) rfl)) (impl_addSpan_c (H := fun _ => True) (list := m.touch.reads) (span := key) h_key (by first | assumption | omega | (simp <;> omega)) (At.pick (is := [2]) hA rfl)) ?_)
 rintro _ w10 ⟨r0_a_10, r0_n_10, r0_c_10, rfl, m10⟩
 refine ⟨_, rfl, fun _ F11 => ?_⟩
 have S10 : Mv _ _ [ow 9 1 encS okS (.slice r0_a_10 r0_n_10 r0_c_10) (putL m.touch.reads key), bx m_b [.slice m_store_a m_store_n m_store_c, .slice m_touch_reads_a m_touch_reads_n m_touch_reads_c, .slice m_touch_writes_a m_touch_writes_n m_touch_writes_c] 31, ow 53 2 encC okC (.slice m_store_a m_store_n m_store_c) m.store, ow 9 1 encS okS (.slice m_touch_writes_a m_touch_writes_n m_touch_writes_c) m.touch.writes] _ := At.frame hA [2] rfl m10
 obtain ⟨lo10_0, lp10_0, lq10_0⟩ := At.ownInv S10.at' ET_27.hk 0 rfl
 clear m10
 refine l_op (f_val F11 rfl rfl (r_nilCheck rfl (F11.ev 5 rfl)) rfl fun _ F12 => ?_)
 refine l_op (f_val F12 rfl rfl (r_field FI_31_1 rfl (F12.ev 13 rfl) rfl) rfl fun _ F13 => ?_)
 refine l_op (f_val F13 rfl rfl (r_field FI_29_0 rfl (F13.ev 14 rfl) rfl) rfl fun _ F14 => ?_)
 refine l_op (s_store S10.at' 1 TI_27 rfl rfl rfl rfl rfl (F14.ev 15 rfl) (F14.ev 12 rfl) rfl rfl rfl rfl rfl fun w15 S15 => ?_)
 have F16 : Fr 22 [(15, .pointer (some ⟨m_b, 1, none⟩)), (12, .slice r0_a_10 r0_n_10 r0_c_10), (0, .pointer (some ⟨m_b, 0, none⟩)), (1, .string key)] _ := F14.cut rfl
 clear F2 F3 F4 F5 F6 F7 F8 F9 F11 F12 F13 F14
 have T17 : Mv _ _ [bx m_b [.slice m_store_a m_store_n m_store_c, .slice r0_a_10 r0_n_10 r0_c_10, .slice m_touch_writes_a m_touch_writes_n m_touch_writes_c] 31, ow 9 1 encS okS (.slice r0_a_10 r0_n_10 r0_c_10) (putL m.touch.reads key), ow 53 2 encC okC (.slice m_store_a m_store_n m_store_c) m.store, ow 9 1 encS okS (.slice m_touch_writes_a m_touch_writes_n m_touch_writes_c) m.touch.writes] _ := S15
 refine s_end (x_normal (wp_seq (wp_region_lit (l_op (f_mv F16 rfl rfl rfl rfl rfl fun _ F18 => ?_)))))
 refine l_op (f_val F18 rfl rfl (r_nilCheck rfl (F18.ev 16 rfl)) rfl fun _ F19 => ?_)
 refine l_op (f_val F19 rfl rfl (r_field FI_31_0 rfl (F19.ev 17 rfl) rfl) rfl fun _ F20 => ?_)
 refine l_op (f_val (v := .slice m_store_a m_store_n m_store_c) F20 rfl rfl (r_loadB T17.at' 0 TI_26 rfl rfl (F20.ev 18 rfl) rfl rfl (fun _ => rfl) rfl) rfl fun _ F21 => ?_)
 refine l_op (f_mv F21 rfl rfl rfl rfl rfl fun _ F22 => ?_)
 refine l_op (f_call F22 CF_49 rfl rfl rfl rfl (lc (F22.ev 19 rfl) (lc (F22.ev 20 rfl) rfl)) (impl_GetKey_c (H := fun _ => True) (s := m.store) (key := key) (At.rd T17.at' ET_26.hk 2 rfl) h_key) ?_)
 rintro _ w23 ⟨rfl, m23, ok_r0_23⟩
 refine ⟨_, rfl, fun _ F24 => ?_⟩
 have S23 := At.frame0 T17.at' m23
 clear m23
 refine l_op (f_as F24 rfl rfl rfl rfl rfl fun _ F25 => ?_)
 have F26 : Fr 22 [(4, .string (getKey m.store key))] _ := F25.cut rfl
 clear F16 F18 F19 F20 F21 F22 F24 F25
 have T27 : Mv _ _ [bx m_b [.slice m_store_a m_store_n m_store_c, .slice r0_a_10 r0_n_10 r0_c_10, .slice m_touch_writes_a m_touch_writes_n m_touch_writes_c] 31, ow 9 1 encS okS (.slice r0_a_10 r0_n_10 r0_c_10) (putL m.touch.reads key), ow 53 2 encC okC (.slice m_store_a m_store_n m_store_c) m.store, ow 9 1 encS okS (.slice m_touch_writes_a m_touch_writes_n m_touch_writes_c) m.touch.writes] _ := S23
 refine s_end (x_normal (wp_ret ?_))
 refine x_done (v := .string (getKey m.store key)) F26 (results_1 Tryd.results40 (.tmp (F26.ev 4 rfl))) ?_
 exact ⟨m_store_a, m_store_n, m_store_c, r0_a_10, r0_n_10, r0_c_10, m_touch_writes_a, m_touch_writes_n, m_touch_writes_c, rfl, (Mv.cast (Mv.pick (S10.trans (T17.trans T27)) [0, 2, 1, 3] rfl) rfl), ok_r0_23⟩
end Go.Proofs.YtibgmijfnbnfkaaDoor
