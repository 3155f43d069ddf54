/-
  Walks: the program's machines are looked at.
-/
import Derived.Test.YtibgmijfnbnfkaaGreatDoorGenD
namespace Go.Proofs.YtibgmijfnbnfkaaGreatDoor
open Go.ChangeShapes Go.WideShapes Go.ChangeAt Go.RowKit
set_option maxRecDepth 100000
set_option maxHeartbeats 1000000
theorem impl_cellAt_1_c {w : World} {H : Nat → Prop} {c : CellD} {key_b : Nat} {key : ByteArray} (Q0 : okS c.key) (Q1 : okS c.val) (Q2 : okS key) (hA : At w [bx key_b [.string key] 9]) :
    Calls Tryz.prog 136 #[.agg #[.string c.key, .string c.val], .pointer (some ⟨key_b, 0, none⟩)] w fun e w' => e = .returned (.bool (decide (c.key = key))) ∧ Mv [bx key_b [.string key] 9] w [bx key_b [.string key] 9] w' := by
 have uU : True := (fun _ _ _ _ => trivial) H Q0 Q1 Q2
 clear uU
 refine calls_enter 8 Tryz.func136 rfl Tryz.ntmps136 (Nat.le_of_ble_eq_true rfl) (fun _ F0i => ?_)
 have F0 : Fr 8 [(0, .agg #[.string c.key, .string c.val]), (1, .pointer (some ⟨key_b, 0, none⟩))] _ := F0i
 clear F0i
 refine wp_seq (wp_region_lit (l_op (f_box F0 hA rfl rfl rfl (F0.ev 0 rfl) rfl rfl fun b1 _ w1 F2 S1 => ?_)))
 refine l_op (f_val F2 rfl rfl (r_assign rfl rfl) rfl fun _ F3 => ?_)
 refine s_end (x_normal (wp_seq (wp_region_lit (l_op (f_val F3 rfl rfl (r_field FI_73_0 rfl (F3.ev 2 rfl) rfl) rfl fun _ F4 => ?_)))))
 refine l_op (f_val (v := .string c.key) F4 rfl rfl (r_loadB S1.at' 0 TI_9 rfl rfl (F4.ev 4 rfl) rfl rfl (fun _ => rfl) rfl) rfl fun _ F5 => ?_)
 refine l_op (f_val (v := .string key) F5 rfl rfl (r_loadB S1.at' 1 TI_9 rfl rfl (F5.ev 1 rfl) rfl rfl (fun _ => rfl) rfl) rfl fun _ F6 => ?_)
 refine l_op (f_val F6 rfl rfl (r_cmps (b := (decide (c.key = key))) (.inl rfl) rfl (F6.ev 5 rfl) (F6.ev 6 rfl) rfl) rfl fun _ F7 => ?_)
 refine l_op (f_as F7 rfl rfl rfl rfl rfl fun _ F8 => ?_)
 refine s_end (x_normal (wp_ret ?_))
 refine x_done (v := .bool (decide (c.key = key))) F8 (results_1 Tryz.results136 (.tmp (F8.ev 3 rfl))) ?_
 exact ⟨rfl, (Mv.pick S1 [1] rfl)⟩
theorem IndexFunc_impl_cellAt_1_c {w : World} {H : Nat → Prop} {s : List CellD} {s_a : Option Addr} {s_n s_c : Nat} {f_b : Nat} {f : ByteArray} (v_s : Rd 2 encC okC H w (.slice s_a s_n s_c) s) (h_f : okS f) (hA : At w [bx f_b [.string f] 9]) (hD : ∀ b, H b → ¬ fps [bx f_b [.string f] 9] b) :
    Calls Tryz.prog 119 #[.slice s_a s_n s_c, .func (.func 136) #[] #[.pointer (some ⟨f_b, 0, none⟩)]] w fun e w' => e = .returned (.int .i64 (idxP (fun c : CellD => decide (c.key = f)) s)) ∧ Mv [bx f_b [.string f] 9] w [bx f_b [.string f] 9] w' ∧ i64ok (idxP (fun c : CellD => decide (c.key = f)) s) := by
 have Q0 : Rd 2 encC okC (V H w [bx f_b [.string f] 9]) w (.slice s_a s_n s_c) s := Rd.start v_s hD
 obtain ⟨ln_s, le_s, mx_s, ni_s⟩ := Rd.inv v_s
 refine calls_enter 19 Tryz.func119 rfl Tryz.ntmps119 (Nat.le_of_ble_eq_true rfl) (fun _ F0i => ?_)
 have F0 : Fr 19 [(0, .slice s_a s_n s_c), (1, .func (.func 136) #[] #[.pointer (some ⟨f_b, 0, none⟩)])] _ := F0i
 clear F0i
 refine wp_seq (wp_region_lit (l_op (f_val F0 rfl rfl (r_assign rfl rfl) rfl fun _ F1 => ?_)))
 refine s_end (x_normal (wp_seq (wp_seq (wp_region_lit (l_op (f_mv F1 rfl rfl rfl rfl rfl fun _ F2 => ?_))))))
 refine l_op (f_val F2 rfl rfl (r_len Tryz.underlying24 rfl (F2.ev 6 rfl)) rfl fun _ F3 => ?_)
 refine l_op (f_val F3 rfl rfl (r_move rfl rfl) rfl fun _ F4 => ?_)
 refine s_end (x_normal (wp_block ?_))
 refine x_loop (fun (k : Nat) aZ wZ => Fr 19 [(8, .int .i64 ((k : Nat) : Int)), (7, .int .i64 ((s_n : Nat) : Int)), (0, .slice s_a s_n s_c), (1, .func (.func 136) #[] #[.pointer (some ⟨f_b, 0, none⟩)])] aZ ∧ Mv [bx f_b [.string f] 9] w [bx f_b [.string f] 9] wZ ∧ (k ≤ s_n) ∧ (∀ j, j < k → ∀ c, nth s j = some c → (decide (c.key = f)) = false)) (fun (k : Nat) => s_n - k) (0) ?_ ?_
 · exact ⟨F4.cut rfl, (Mv.refl hA), by omega, all_none⟩
 · rintro k a5 w5 ⟨F5, S5, hk_0, hk_1⟩
   refine wp_seq (wp_region_lit (l_op (f_val F5 rfl rfl (r_cmp (b := decide (k < s_n)) (.inr (.inr (.inl rfl))) rfl (F5.ev 8 rfl) (F5.ev 7 rfl) (dec_of (by omega))) rfl fun _ F6 => ?_)))
   refine s_end (x_normal (wp_seq (x_cond (p := k < s_n) (F6.ev 9 rfl) (fun h7 => ?_) (fun h7 => ?_))))
   · skip
     refine wp_skip (x_normal (wp_seq (wp_block (wp_seq (wp_region_lit (l_op (f_mv F6 rfl rfl rfl rfl rfl fun _ F8 => ?_)))))))
     refine l_op (f_as F8 rfl rfl rfl rfl rfl fun _ F9 => ?_)
     refine s_end (x_normal (wp_seq (wp_region_lit (l_op (f_mv F9 rfl rfl rfl rfl rfl fun _ F10 => ?_)))))
     refine l_op (f_mv F10 rfl rfl rfl rfl rfl fun _ F11 => ?_)
     refine l_op (f_mv F11 rfl rfl rfl rfl rfl fun _ F12 => ?_)
     obtain ⟨B13, O13, x1, ad13, hx1, okx1, ln13, cl13⟩ := Rd.at (Rd.mq Q0 S5) k (by first | assumption | omega)
     clear ln13
     refine l_op (f_val F12 rfl rfl (r_indexAddr (i := k) ET_24 rfl ((F12.ev 12 rfl).trans (by rw [ad13])) (F12.ev 13 rfl) (by omega) (by first | assumption | omega)) rfl fun _ F14 => ?_)
     refine l_op (f_val (v := .agg #[.string x1.key, .string x1.val]) F14 rfl rfl (r_load (cs := [.string x1.key, .string x1.val]) TI_73 rfl (F14.ev 14 rfl) rfl (fun h => nomatch h) (elem_sub (f := 0) cl13 [.string x1.key, .string x1.val] rfl)) rfl fun _ F15 => ?_)
     refine l_op (f_callv F15 CF_136 rfl rfl rfl rfl (F15.ev 11 rfl) (lc (F15.ev 15 rfl) rfl) (impl_cellAt_1_c (H := fun _ => True) (c := x1) (key := f) okx1.1 okx1.2 h_f (At.pick (is := [0]) S5.at' rfl)) ?_)
     rintro _ w16 ⟨rfl, m16⟩
     refine ⟨_, rfl, fun _ F17 => ?_⟩
     have S16 : Mv _ _ [bx f_b [.string f] 9] _ := At.frame S5.at' [0] rfl m16
     clear m16
     refine s_end (x_normal (x_condb (b := (decide (x1.key = f))) (F17.ev 16 rfl) (fun h18 => ?_) (fun h18 => ?_)))
     · skip
       refine wp_seq (wp_region_lit (l_op (f_mv F17 rfl rfl rfl rfl rfl fun _ F19 => ?_)))
       refine l_op (f_as F19 rfl rfl rfl rfl rfl fun _ F20 => ?_)
       refine s_end (x_normal (wp_ret (x_block_ret (x_then_ret (x_then_ret (x_block_ret (x_then_ret ?_)))))))
       refine x_done (v := .int .i64 ((k : Nat) : Int)) F20 (results_1 Tryz.results119 (.tmp (F20.ev 4 rfl))) ?_
       exact ⟨(by rw [(show ((k : Nat) : Int) = (idxP (fun c : CellD => decide (c.key = f)) s) from by exact (idxP_found _ s k _ (by rw [← nth_eq]; exact hx1) (by first | assumption | exact decide_eq_true ‹_›) (fun q hq y hy => hk_1 q hq y (by rw [nth_eq]; exact hy))).symm)]), (Mv.pick (S5.trans S16) [0] rfl), idxP_ok _ s (by omega)⟩
     · skip
       refine wp_skip (x_block_normal (x_normal (wp_region_lit (l_op (f_val F17 rfl rfl (r_add (z := ((k + 1 : Nat) : Int)) rfl (F17.ev 8 rfl) rfl (by first | rfl | omega) ⟨by first | omega | (unfold i64ok at *; omega), by first | omega | (unfold i64ok at *; omega)⟩) rfl fun _ F21 => ?_)))))
       refine l_op (f_mv F21 rfl rfl rfl rfl rfl fun _ F22 => ?_)
       refine s_end ?_
       refine x_normal ⟨k + 1, by omega, F22.cut rfl, ((S5.trans S16).pick [0] rfl), by omega, all_step hk_1 (fun c hc => by obtain rfl := Option.some.inj (hx1.symm.trans hc); first | assumption | exact decide_eq_false ‹_›)⟩
   · skip
     refine wp_exit (x_then_exit (x_then_exit (x_block_here (x_normal (wp_seq (wp_region_lit (l_op (f_val F6 rfl rfl (r_assign rfl rfl) rfl fun _ F23 => ?_))))))))
     refine s_end (x_normal (wp_ret ?_))
     refine x_done (v := .int .i64 (-1)) F23 (results_1 Tryz.results119 (.tmp (F23.ev 4 rfl))) ?_
     exact ⟨(by rw [(show (-1) = (idxP (fun c : CellD => decide (c.key = f)) s) from by exact (idxP_none _ s (fun q hq y hy => hk_1 q (by omega) y (by rw [nth_eq]; exact hy))).symm)]), (Mv.pick S5 [0] rfl), idxP_ok _ s (by omega)⟩
theorem impl_cellAt_c {w : World} {H : Nat → Prop} {s : List CellD} {s_a : Option Addr} {s_n s_c : Nat} {key : ByteArray} (v_s : Rd 2 encC okC H w (.slice s_a s_n s_c) s) (Q1 : okS key) :
    Calls Tryz.prog 124 #[.slice s_a s_n s_c, .string key] w fun e w' => e = .returned (.int .i64 (idxKey s key)) ∧ Mv [] w [] w' ∧ i64ok (idxKey s key) := by
 have Q0 : Rd 2 encC okC (V H w []) w (.slice s_a s_n s_c) s := Rd.start v_s (fun _ _ => fps_nil _)
 obtain ⟨ln_s, le_s, mx_s, ni_s⟩ := Rd.inv v_s
 refine calls_enter 8 Tryz.func124 rfl Tryz.ntmps124 (Nat.le_of_ble_eq_true rfl) (fun _ F0i => ?_)
 have F0 : Fr 8 [(0, .slice s_a s_n s_c), (1, .string key)] _ := F0i
 clear F0i
 refine wp_seq (wp_region_lit (l_op (f_box F0 (At.nil w) rfl rfl rfl (F0.ev 1 rfl) rfl rfl fun b1 _ w1 F2 S1 => ?_)))
 refine l_op (f_val F2 rfl rfl (r_assign rfl rfl) rfl fun _ F3 => ?_)
 refine s_end (x_normal (wp_seq (wp_region_lit (l_op (f_mv F3 rfl rfl rfl rfl rfl fun _ F4 => ?_)))))
 refine l_op (f_val F4 rfl rfl (r_makeFuncL rfl (lc (F4.ev 3 rfl) rfl)) rfl fun _ F5 => ?_)
 refine l_op (f_call F5 CF_119 rfl rfl rfl rfl (lc (F5.ev 5 rfl) (lc (F5.ev 6 rfl) rfl)) (IndexFunc_impl_cellAt_1_c (s := s) (f := key) (Rd.mq Q0 S1) Q1 (At.pick (is := [0]) S1.at' rfl) (V_off (is := [0]))) ?_)
 rintro _ w6 ⟨rfl, m6, q6_0⟩
 refine ⟨_, rfl, fun _ F7 => ?_⟩
 have S6 : Mv _ _ [bx b1 [.string key] 9] _ := At.frame S1.at' [0] rfl m6
 clear m6
 refine l_op (f_as F7 rfl rfl rfl rfl rfl fun _ F8 => ?_)
 refine s_end (x_normal (wp_ret ?_))
 refine x_done (v := .int .i64 (idxP (fun c : CellD => decide (c.key = key)) s)) F8 (results_1 Tryz.results124 (.tmp (F8.ev 4 rfl))) ?_
 exact ⟨rfl, (Mv.pick (S1.trans S6) [] rfl), by first | assumption | omega⟩
theorem impl_GetKey_c {w : World} {H : Nat → Prop} {s : List CellD} {s_a : Option Addr} {s_n s_c : Nat} {key : ByteArray} (v_s : Rd 2 encC okC H w (.slice s_a s_n s_c) s) (Q1 : okS key) :
    Calls Tryz.prog 106 #[.slice s_a s_n s_c, .string key] w fun e w' => e = .returned (.string (getKey s key)) ∧ Mv [] w [] w' ∧ okS (getKey s key) := by
 have Q0 : Rd 2 encC okC (V H w []) w (.slice s_a s_n s_c) s := Rd.start v_s (fun _ _ => fps_nil _)
 obtain ⟨ln_s, le_s, mx_s, ni_s⟩ := Rd.inv v_s
 refine calls_enter 16 Tryz.func106 rfl Tryz.ntmps106 (Nat.le_of_ble_eq_true rfl) (fun _ F0i => ?_)
 have F0 : Fr 16 [(0, .slice s_a s_n s_c), (1, .string key)] _ := F0i
 clear F0i
 refine wp_seq (wp_region_lit (l_op (f_val F0 rfl rfl (r_assign rfl rfl) rfl fun _ F1 => ?_)))
 refine s_end (x_normal (wp_seq (wp_seq (wp_region_lit (l_op (f_mv F1 rfl rfl rfl rfl rfl fun _ F2 => ?_))))))
 refine l_op (f_mv F2 rfl rfl rfl rfl rfl fun _ F3 => ?_)
 refine l_op (f_call F3 CF_124 rfl rfl rfl rfl (lc (F3.ev 6 rfl) (lc (F3.ev 7 rfl) rfl)) (impl_cellAt_c (s := s) (key := key) Q0 Q1) ?_)
 rintro _ w4 ⟨rfl, m4, q4_0⟩
 refine ⟨_, rfl, fun _ F5 => ?_⟩
 have S4 := At.frame0 (At.nil w) m4
 clear m4
 refine l_op (f_as F5 rfl rfl rfl rfl rfl fun _ F6 => ?_)
 refine s_end (x_normal (wp_seq (wp_region_lit (l_op (f_mv F6 rfl rfl rfl rfl rfl fun _ F7 => ?_)))))
 refine l_op (f_val F7 rfl rfl (r_cmp (b := decide ((idxKey s key) ≥ 0)) (.inr (.inr (.inr (.inr (.inr rfl))))) rfl (F7.ev 9 rfl) rfl (dec_of (by omega))) rfl fun _ F8 => ?_)
 refine s_end (x_normal (x_cond (p := (idxKey s key) ≥ 0) (F8.ev 10 rfl) (fun h9 => ?_) (fun h9 => ?_)))
 · skip
   refine wp_seq (wp_region_lit (l_op (f_mv F8 rfl rfl rfl rfl rfl fun _ F10 => ?_)))
   refine l_op (f_mv F10 rfl rfl rfl rfl rfl fun _ F11 => ?_)
   obtain ⟨B12, O12, x1, ad12, hx1, okx1, ln12, cl12⟩ := Rd.at (Rd.mq Q0 S4) (idxKey s key).toNat (by have := idxKey_bd s key; omega)
   clear ln12
   refine l_op (f_val F11 rfl rfl (r_indexAddr (i := (idxKey s key).toNat) ET_24 rfl ((F11.ev 11 rfl).trans (by rw [ad12])) (F11.ev 12 rfl) (by omega) (by have := idxKey_bd s key; omega)) rfl fun _ F13 => ?_)
   refine l_op (f_val F13 rfl rfl (r_field FI_73_1 rfl (F13.ev 13 rfl) rfl) rfl fun _ F14 => ?_)
   refine l_op (f_val (v := .string x1.val) F14 rfl rfl (r_load (cs := [.string x1.val]) TI_9 rfl (F14.ev 14 rfl) rfl (fun _ => rfl) (elem_sub (f := 1) cl12 [.string x1.val] rfl)) rfl fun _ F15 => ?_)
   refine l_op (f_as F15 rfl rfl rfl rfl rfl fun _ F16 => ?_)
   refine s_end (x_normal (wp_ret (x_then_ret ?_)))
   refine x_done (v := .string x1.val) F16 (results_1 Tryz.results106 (.tmp (F16.ev 4 rfl))) ?_
   exact ⟨(by rw [(show x1.val = (getKey s key) from by obtain ⟨g1, g2⟩ := idxP_at (p := fun c : CellD => decide (c.key = key)) (k := (idxKey s key).toNat) (show idxKey s key = _ by omega) hx1; exact (getKey_found hx1 (of_decide_eq_true g1) (fun j hj y hy => of_decide_eq_false (g2 j hj y hy))).symm)]), (Mv.pick S4 [] rfl), ((show x1.val = (getKey s key) from by obtain ⟨g1, g2⟩ := idxP_at (p := fun c : CellD => decide (c.key = key)) (k := (idxKey s key).toNat) (show idxKey s key = _ by omega) hx1; exact (getKey_found hx1 (of_decide_eq_true g1) (fun j hj y hy => of_decide_eq_false (g2 j hj y hy))).symm) ▸ okx1.2)⟩
 · skip
   refine wp_skip (x_normal (wp_seq (wp_region_lit (l_op (f_val F8 rfl rfl (r_assign rfl rfl) rfl fun _ F17 => ?_)))))
   refine s_end (x_normal (wp_ret ?_))
   refine x_done (v := .string bE_) F17 (results_1 Tryz.results106 (.tmp (F17.ev 4 rfl))) ?_
   exact ⟨(by rw [(show bE_ = (getKey s key) from by exact (getKey_none (k := s.length) (Nat.le_refl _) (fun j hj y hy => of_decide_eq_false (idxP_no (p := fun c : CellD => decide (c.key = key)) (show ¬ 0 ≤ idxKey s key by omega) j hj y hy))).symm)]), (Mv.pick S4 [] rfl), ((show bE_ = (getKey s key) from by exact (getKey_none (k := s.length) (Nat.le_refl _) (fun j hj y hy => of_decide_eq_false (idxP_no (p := fun c : CellD => decide (c.key = key)) (show ¬ 0 ≤ idxKey s key by omega) j hj y hy))).symm) ▸ (by unfold okS; decide))⟩
theorem impl_Touch_clone_c {w : World} {H : Nat → Prop} {t : TouchD} {t_Ra : Option Addr} {t_Rn t_Rc : Nat} {t_Wa : Option Addr} {t_Wn t_Wc : Nat} (Q12 : Rd 1 encS okS H w (.slice t_Ra t_Rn t_Rc) t.reads) (Q13 : Rd 1 encS okS H w (.slice t_Wa t_Wn t_Wc) t.writes) (p0 : t.reads.length ≤ 1099511627776) (p1 : t.writes.length ≤ 1099511627776) :
    Calls Tryz.prog 71 #[.agg #[.slice t_Ra t_Rn t_Rc, .slice t_Wa t_Wn t_Wc]] w fun e w' => ∃ (Q6 : Option Addr), ∃ (Q8 : Nat), ∃ (Q7 : Nat), ∃ (Q9 : Option Addr), ∃ (Q11 : Nat), ∃ (Q10 : Nat), e = .returned (.agg #[.slice Q6 Q8 Q7, .slice Q9 Q11 Q10]) ∧ Mv [] w [ow 9 1 encS okS (.slice Q6 Q8 Q7) t.reads, ow 9 1 encS okS (.slice Q9 Q11 Q10) t.writes] w' := by
 have uU : True := (fun _ _ => trivial) p0 p1
 clear uU
 have Q14 : Rd 1 encS okS (V H w []) w (.slice t_Ra t_Rn t_Rc) t.reads := Rd.start Q12 (fun _ _ => fps_nil _)
 obtain ⟨Q18, Q16, Q32, Q34⟩ := Rd.inv Q12
 have Q15 : Rd 1 encS okS (V H w []) w (.slice t_Wa t_Wn t_Wc) t.writes := Rd.start Q13 (fun _ _ => fps_nil _)
 obtain ⟨Q19, Q17, Q33, Q35⟩ := Rd.inv Q13
 refine calls_enter 10 Tryz.func71 rfl Tryz.ntmps71 (Nat.le_of_ble_eq_true rfl) (fun _ F0i => ?_)
 have F0 : Fr 10 [(0, .agg #[.slice t_Ra t_Rn t_Rc, .slice t_Wa t_Wn t_Wc])] _ := F0i
 clear F0i
 refine wp_seq (wp_region_lit (l_op (f_box F0 (At.nil w) rfl rfl rfl (F0.ev 0 rfl) rfl rfl fun b1 _ w1 F2 S1 => ?_)))
 refine l_op (f_alloc F2 S1.at' ZI_27 rfl rfl rfl rfl rfl fun b3 _ w3 F4 S3 => ?_)
 refine s_end (x_normal (wp_seq ?_))
 refine x_draw (fun aZ wZ => ∃ (Q0 : Option Addr), ∃ (Q2 : Nat), ∃ (Q1 : Nat), ∃ (Q3 : Option Addr), ∃ (Q5 : Nat), ∃ (Q4 : Nat), Fr 10 [(2, .pointer (some ⟨b3, 0, none⟩))] aZ ∧ Mv [bx b3 [.slice none 0 0, .slice none 0 0] 27, bx b1 [.slice t_Ra t_Rn t_Rc, .slice t_Wa t_Wn t_Wc] 27] w3 [bx b3 [.slice Q0 Q2 Q1, .slice Q3 Q5 Q4] 27, bx b1 [.slice t_Ra t_Rn t_Rc, .slice t_Wa t_Wn t_Wc] 27, ow 9 1 encS okS (.slice Q0 Q2 Q1) t.reads, ow 9 1 encS okS (.slice Q3 Q5 Q4) t.writes] wZ) [bx b1 [.slice t_Ra t_Rn t_Rc, .slice t_Wa t_Wn t_Wc] 27] mixed S3.at' (listed := #[false, false, false, false, false, false, false, false]) rfl (fun w6 S6 => ?_) [1] rfl ?_
 · skip
   refine g_take F4 rfl (i := 0) (listed' := #[true, false, false, false, false, false, false, false]) rfl (by kernel_rfl) (by kernel_rfl) (by kernel_rfl) (fun _ _ _ h => h) (Sd.of (Mv.refl S6.at') [1] rfl) rfl rfl rfl rfl (fun _ hz => (r_field FI_27_0 rfl (F4.ev 1 rfl) rfl)) fun _ F7 => ?_
   refine g_take (v := .slice t_Ra t_Rn t_Rc) F7 rfl (i := 1) (listed' := #[true, true, false, false, false, false, false, false]) rfl (by kernel_rfl) (by kernel_rfl) (by kernel_rfl) (fun _ _ _ h => h) (Sd.of (Mv.refl S6.at') [1] rfl) rfl rfl rfl rfl (fun _ hz => (r_loadX (hz.bx 0 rfl) TI_25 rfl (F7.ev 3 rfl) rfl rfl (fun _ => rfl) rfl)) fun _ F8 => ?_
   refine g_take F8 rfl (i := 3) (listed' := #[true, true, false, true, false, false, false, false]) rfl (by kernel_rfl) (by kernel_rfl) (by kernel_rfl) (fun _ _ _ h => h) (Sd.of (Mv.refl S6.at') [1] rfl) rfl rfl rfl rfl (fun _ hz => (r_field FI_27_1 rfl (F8.ev 1 rfl) rfl)) fun _ F9 => ?_
   refine g_take (v := .slice t_Wa t_Wn t_Wc) F9 rfl (i := 4) (listed' := #[true, true, false, true, true, false, false, false]) rfl (by kernel_rfl) (by kernel_rfl) (by kernel_rfl) (fun _ _ _ h => h) (Sd.of (Mv.refl S6.at') [1] rfl) rfl rfl rfl rfl (fun _ hz => (r_loadX (hz.bx 0 rfl) TI_25 rfl (F9.ev 6 rfl) rfl rfl (fun _ => rfl) rfl)) fun _ F10 => ?_
   refine d_one (i := 2) (listed' := #[true, true, true, true, true, false, false, false]) rfl (by kernel_rfl) rfl rfl ?_
   refine f_call F10 CF_98 rfl rfl rfl rfl (lc (F10.ev 4 rfl) rfl) (slices_Clone_Sstring_string_c (s := t.reads) (Rd.mq Q14 (S1.trans (S3.trans S6))) (by first | assumption | omega | (simp <;> omega))) ?_
   rintro _ w11 ⟨Q0, Q2, Q1, rfl, m11⟩
   refine ⟨_, rfl, fun _ F12 => ?_⟩
   have S11 : Mv _ _ [ow 9 1 encS okS (.slice Q0 Q2 Q1) t.reads, bx b3 [.slice none 0 0, .slice none 0 0] 27, bx b1 [.slice t_Ra t_Rn t_Rc, .slice t_Wa t_Wn t_Wc] 27] _ := At.frame S6.at' [] rfl m11
   obtain ⟨Q20, Q24, Q28⟩ := At.ownInv S11.at' ET_25.hk 0 rfl
   clear m11
   refine ⟨Sd.of S11 [2] rfl, ?_⟩
   refine d_one (i := 5) (listed' := #[true, true, true, true, true, true, false, false]) rfl (by kernel_rfl) rfl rfl ?_
   refine f_call F12 CF_98 rfl rfl rfl rfl (lc (F12.ev 7 rfl) rfl) (slices_Clone_Sstring_string_c (s := t.writes) (Rd.mq Q15 (S1.trans (S3.trans (S6.trans S11)))) (by first | assumption | omega | (simp <;> omega))) ?_
   rintro _ w13 ⟨Q3, Q5, Q4, rfl, m13⟩
   refine ⟨_, rfl, fun _ F14 => ?_⟩
   have S13 : Mv _ _ [ow 9 1 encS okS (.slice Q3 Q5 Q4) t.writes, ow 9 1 encS okS (.slice Q0 Q2 Q1) t.reads, bx b3 [.slice none 0 0, .slice none 0 0] 27, bx b1 [.slice t_Ra t_Rn t_Rc, .slice t_Wa t_Wn t_Wc] 27] _ := At.frame S11.at' [] rfl m13
   obtain ⟨Q21, Q25, Q29⟩ := At.ownInv S13.at' ET_25.hk 0 rfl
   clear m13
   refine ⟨Sd.of (S11.trans S13) [3] rfl, ?_⟩
   refine g_take (v := .agg #[.slice Q0 Q2 Q1, .slice Q3 Q5 Q4]) F14 rfl (i := 6) (listed' := #[true, true, true, true, true, true, true, false]) rfl (by kernel_rfl) (by kernel_rfl) (by kernel_rfl) (fun _ _ _ h => h) (Sd.of (S11.trans S13) [3] rfl) rfl rfl rfl rfl (fun _ hz => (r_build BI_27 rfl (lc (pr2 (F14.ev 5 rfl)) (lc (pr2 (F14.ev 8 rfl)) rfl)) rfl)) fun _ F15 => ?_
   refine d_one (i := 7) (listed' := #[true, true, true, true, true, true, true, true]) rfl (by kernel_rfl) rfl rfl ?_
   refine s_store S13.at' 2 TI_27 rfl rfl rfl rfl rfl (F15.ev 2 rfl) (F15.ev 9 rfl) rfl rfl rfl rfl rfl fun w16 S16 => ?_
   refine ⟨Sd.of (S11.trans (S13.trans S16)) [3] rfl, ?_⟩
   refine wpAnyH_done (by kernel_rfl) (x_normal ?_) _
   exact ⟨Q0, Q2, Q1, Q3, Q5, Q4, F15.cut rfl, ((S6.trans (S11.trans (S13.trans S16))).pick [0, 3, 2, 1] rfl)⟩
 · rintro a17 w17 ⟨Q0, Q2, Q1, Q3, Q5, Q4, F17, S17⟩
   obtain ⟨Q22, Q26, Q30⟩ := At.ownInv S17.at' ET_25.hk 2 rfl
   obtain ⟨Q23, Q27, Q31⟩ := At.ownInv S17.at' ET_25.hk 3 rfl
   refine x_normal (wp_ret ?_)
   refine x_done (v := .agg #[.slice Q0 Q2 Q1, .slice Q3 Q5 Q4]) F17 (results_1 Tryz.results71 (.cell (F17.ev 2 rfl) (run_loadVar' TI_27 _ [.slice Q0 Q2 Q1, .slice Q3 Q5 Q4] rfl (fun h => nomatch h) (At.cells S17.at' 0 rfl 0 [.slice Q0 Q2 Q1, .slice Q3 Q5 Q4] rfl)))) ?_
   exact ⟨Q0, Q2, Q1, Q3, Q5, Q4, rfl, (Mv.pick (S1.trans (S3.trans S17)) [2, 3] rfl)⟩
theorem impl_Mach_clone_c {w : World} {H : Nat → Prop} {m : MachD} {m_Sa : Option Addr} {m_Sn m_Sc : Nat} {m_Ra : Option Addr} {m_Rn m_Rc : Nat} {m_Wa : Option Addr} {m_Wn m_Wc : Nat} (Q18 : Rd 2 encC okC H w (.slice m_Sa m_Sn m_Sc) m.store) (Q19 : Rd 1 encS okS H w (.slice m_Ra m_Rn m_Rc) m.touch.reads) (Q20 : Rd 1 encS okS H w (.slice m_Wa m_Wn m_Wc) m.touch.writes) (p0 : m.store.length ≤ 1099511627776) (p1 : m.touch.reads.length ≤ 1099511627776) (p2 : m.touch.writes.length ≤ 1099511627776) :
    Calls Tryz.prog 39 #[.agg #[.slice m_Sa m_Sn m_Sc, .slice m_Ra m_Rn m_Rc, .slice m_Wa m_Wn m_Wc]] w fun e w' => ∃ (Q12 : Option Addr), ∃ (Q14 : Nat), ∃ (Q13 : Nat), ∃ (Q9 : Option Addr), ∃ (Q11 : Nat), ∃ (Q10 : Nat), ∃ (Q15 : Option Addr), ∃ (Q17 : Nat), ∃ (Q16 : Nat), e = .returned (.agg #[.slice Q12 Q14 Q13, .slice Q9 Q11 Q10, .slice Q15 Q17 Q16]) ∧ Mv [] w [ow 73 2 encC okC (.slice Q12 Q14 Q13) m.store, ow 9 1 encS okS (.slice Q9 Q11 Q10) m.touch.reads, ow 9 1 encS okS (.slice Q15 Q17 Q16) m.touch.writes] w' := by
 have uU : True := (fun _ _ _ => trivial) p0 p1 p2
 clear uU
 have Q21 : Rd 2 encC okC (V H w []) w (.slice m_Sa m_Sn m_Sc) m.store := Rd.start Q18 (fun _ _ => fps_nil _)
 obtain ⟨Q27, Q24, Q48, Q51⟩ := Rd.inv Q18
 have Q22 : Rd 1 encS okS (V H w []) w (.slice m_Ra m_Rn m_Rc) m.touch.reads := Rd.start Q19 (fun _ _ => fps_nil _)
 obtain ⟨Q28, Q25, Q49, Q52⟩ := Rd.inv Q19
 have Q23 : Rd 1 encS okS (V H w []) w (.slice m_Wa m_Wn m_Wc) m.touch.writes := Rd.start Q20 (fun _ _ => fps_nil _)
 obtain ⟨Q29, Q26, Q50, Q53⟩ := Rd.inv Q20
 refine calls_enter 10 Tryz.func39 rfl Tryz.ntmps39 (Nat.le_of_ble_eq_true rfl) (fun _ F0i => ?_)
 have F0 : Fr 10 [(0, .agg #[.slice m_Sa m_Sn m_Sc, .slice m_Ra m_Rn m_Rc, .slice m_Wa m_Wn m_Wc])] _ := F0i
 clear F0i
 refine wp_seq (wp_region_lit (l_op (f_box F0 (At.nil w) rfl rfl rfl (F0.ev 0 rfl) rfl rfl fun b1 _ w1 F2 S1 => ?_)))
 refine l_op (f_alloc F2 S1.at' ZI_29 rfl rfl rfl rfl rfl fun b3 _ w3 F4 S3 => ?_)
 refine s_end (x_normal (wp_seq ?_))
 refine x_draw (fun aZ wZ => ∃ (Q0 : Option Addr), ∃ (Q2 : Nat), ∃ (Q1 : Nat), ∃ (Q3 : Option Addr), ∃ (Q5 : Nat), ∃ (Q4 : Nat), ∃ (Q6 : Option Addr), ∃ (Q8 : Nat), ∃ (Q7 : Nat), Fr 10 [(2, .pointer (some ⟨b3, 0, none⟩))] aZ ∧ Mv [bx b3 [.slice none 0 0, .slice none 0 0, .slice none 0 0] 29, bx b1 [.slice m_Sa m_Sn m_Sc, .slice m_Ra m_Rn m_Rc, .slice m_Wa m_Wn m_Wc] 29] w3 [bx b3 [.slice Q0 Q2 Q1, .slice Q3 Q5 Q4, .slice Q6 Q8 Q7] 29, bx b1 [.slice m_Sa m_Sn m_Sc, .slice m_Ra m_Rn m_Rc, .slice m_Wa m_Wn m_Wc] 29, ow 73 2 encC okC (.slice Q0 Q2 Q1) m.store, ow 9 1 encS okS (.slice Q3 Q5 Q4) m.touch.reads, ow 9 1 encS okS (.slice Q6 Q8 Q7) m.touch.writes] wZ) [bx b1 [.slice m_Sa m_Sn m_Sc, .slice m_Ra m_Rn m_Rc, .slice m_Wa m_Wn m_Wc] 29] mixed S3.at' (listed := #[false, false, false, false, false, false, false, false]) rfl (fun w6 S6 => ?_) [1] rfl ?_
 · skip
   refine g_take F4 rfl (i := 0) (listed' := #[true, false, false, false, false, false, false, false]) rfl (by kernel_rfl) (by kernel_rfl) (by kernel_rfl) (fun _ _ _ h => h) (Sd.of (Mv.refl S6.at') [1] rfl) rfl rfl rfl rfl (fun _ hz => (r_field FI_29_0 rfl (F4.ev 1 rfl) rfl)) fun _ F7 => ?_
   refine g_take (v := .slice m_Sa m_Sn m_Sc) F7 rfl (i := 1) (listed' := #[true, true, false, false, false, false, false, false]) rfl (by kernel_rfl) (by kernel_rfl) (by kernel_rfl) (fun _ _ _ h => h) (Sd.of (Mv.refl S6.at') [1] rfl) rfl rfl rfl rfl (fun _ hz => (r_loadX (hz.bx 0 rfl) TI_24 rfl (F7.ev 3 rfl) rfl rfl (fun _ => rfl) rfl)) fun _ F8 => ?_
   refine g_take F8 rfl (i := 3) (listed' := #[true, true, false, true, false, false, false, false]) rfl (by kernel_rfl) (by kernel_rfl) (by kernel_rfl) (fun _ _ _ h => h) (Sd.of (Mv.refl S6.at') [1] rfl) rfl rfl rfl rfl (fun _ hz => (r_field FI_29_1 rfl (F8.ev 1 rfl) rfl)) fun _ F9 => ?_
   refine g_take (v := .agg #[.slice m_Ra m_Rn m_Rc, .slice m_Wa m_Wn m_Wc]) F9 rfl (i := 4) (listed' := #[true, true, false, true, true, false, false, false]) rfl (by kernel_rfl) (by kernel_rfl) (by kernel_rfl) (fun _ _ _ h => h) (Sd.of (Mv.refl S6.at') [1] rfl) rfl rfl rfl rfl (fun _ hz => (r_loadX (hz.bx 0 rfl) TI_27 rfl (F9.ev 6 rfl) rfl rfl (fun h => nomatch h) rfl)) fun _ F10 => ?_
   refine d_one (i := 2) (listed' := #[true, true, true, true, true, false, false, false]) rfl (by kernel_rfl) rfl rfl ?_
   refine f_call F10 CF_70 rfl rfl rfl rfl (lc (F10.ev 4 rfl) rfl) (slices_Clone_Simpl_Cell_impl_Cell_c (s := m.store) (Rd.mq Q21 (S1.trans (S3.trans S6))) (by first | assumption | omega | (simp <;> omega))) ?_
   rintro _ w11 ⟨Q0, Q2, Q1, rfl, m11⟩
   refine ⟨_, rfl, fun _ F12 => ?_⟩
   have S11 : Mv _ _ [ow 73 2 encC okC (.slice Q0 Q2 Q1) m.store, bx b3 [.slice none 0 0, .slice none 0 0, .slice none 0 0] 29, bx b1 [.slice m_Sa m_Sn m_Sc, .slice m_Ra m_Rn m_Rc, .slice m_Wa m_Wn m_Wc] 29] _ := At.frame S6.at' [] rfl m11
   obtain ⟨Q30, Q36, Q42⟩ := At.ownInv S11.at' ET_24.hk 0 rfl
   clear m11
   refine ⟨Sd.of S11 [2] rfl, ?_⟩
   refine d_one (i := 5) (listed' := #[true, true, true, true, true, true, false, false]) rfl (by kernel_rfl) rfl rfl ?_
   refine f_call F12 CF_71 rfl rfl rfl rfl (lc (F12.ev 7 rfl) rfl) (impl_Touch_clone_c (t := m.touch) (Rd.mq Q22 (S1.trans (S3.trans (S6.trans S11)))) (Rd.mq Q23 (S1.trans (S3.trans (S6.trans S11)))) (by first | assumption | omega | (simp <;> omega)) (by first | assumption | omega | (simp <;> omega))) ?_
   rintro _ w13 ⟨Q3, Q5, Q4, Q6, Q8, Q7, rfl, m13⟩
   refine ⟨_, rfl, fun _ F14 => ?_⟩
   have S13 : Mv _ _ [ow 9 1 encS okS (.slice Q3 Q5 Q4) m.touch.reads, ow 9 1 encS okS (.slice Q6 Q8 Q7) m.touch.writes, ow 73 2 encC okC (.slice Q0 Q2 Q1) m.store, bx b3 [.slice none 0 0, .slice none 0 0, .slice none 0 0] 29, bx b1 [.slice m_Sa m_Sn m_Sc, .slice m_Ra m_Rn m_Rc, .slice m_Wa m_Wn m_Wc] 29] _ := At.frame S11.at' [] rfl m13
   obtain ⟨Q31, Q37, Q43⟩ := At.ownInv S13.at' ET_25.hk 0 rfl
   obtain ⟨Q32, Q38, Q44⟩ := At.ownInv S13.at' ET_25.hk 1 rfl
   clear m13
   refine ⟨Sd.of (S11.trans S13) [4] rfl, ?_⟩
   refine g_take (v := .agg #[.slice Q0 Q2 Q1, .slice Q3 Q5 Q4, .slice Q6 Q8 Q7]) F14 rfl (i := 6) (listed' := #[true, true, true, true, true, true, true, false]) rfl (by kernel_rfl) (by kernel_rfl) (by kernel_rfl) (fun _ _ _ h => h) (Sd.of (S11.trans S13) [4] rfl) rfl rfl rfl rfl (fun _ hz => (r_build BI_29 rfl (lc (pr2 (F14.ev 5 rfl)) (lc (pr2 (F14.ev 8 rfl)) rfl)) rfl)) fun _ F15 => ?_
   refine d_one (i := 7) (listed' := #[true, true, true, true, true, true, true, true]) rfl (by kernel_rfl) rfl rfl ?_
   refine s_store S13.at' 3 TI_29 rfl rfl rfl rfl rfl (F15.ev 2 rfl) (F15.ev 9 rfl) rfl rfl rfl rfl rfl fun w16 S16 => ?_
   refine ⟨Sd.of (S11.trans (S13.trans S16)) [4] rfl, ?_⟩
   refine wpAnyH_done (by kernel_rfl) (x_normal ?_) _
   exact ⟨Q0, Q2, Q1, Q3, Q5, Q4, Q6, Q8, Q7, F15.cut rfl, ((S6.trans (S11.trans (S13.trans S16))).pick [0, 4, 3, 1, 2] rfl)⟩
 · rintro a17 w17 ⟨Q0, Q2, Q1, Q3, Q5, Q4, Q6, Q8, Q7, F17, S17⟩
   obtain ⟨Q33, Q39, Q45⟩ := At.ownInv S17.at' ET_24.hk 2 rfl
   obtain ⟨Q34, Q40, Q46⟩ := At.ownInv S17.at' ET_25.hk 3 rfl
   obtain ⟨Q35, Q41, Q47⟩ := At.ownInv S17.at' ET_25.hk 4 rfl
   refine x_normal (wp_ret ?_)
   refine x_done (v := .agg #[.slice Q0 Q2 Q1, .slice Q3 Q5 Q4, .slice Q6 Q8 Q7]) F17 (results_1 Tryz.results39 (.cell (F17.ev 2 rfl) (run_loadVar' TI_29 _ [.slice Q0 Q2 Q1, .slice Q3 Q5 Q4, .slice Q6 Q8 Q7] rfl (fun h => nomatch h) (At.cells S17.at' 0 rfl 0 [.slice Q0 Q2 Q1, .slice Q3 Q5 Q4, .slice Q6 Q8 Q7] rfl)))) ?_
   exact ⟨Q0, Q2, Q1, Q3, Q5, Q4, Q6, Q8, Q7, rfl, (Mv.pick (S1.trans (S3.trans S17)) [2, 3, 4] rfl)⟩
theorem impl_Mach_look_c {w : World} {H : Nat → Prop} {m : MachD} {m_Sa : Option Addr} {m_Sn m_Sc : Nat} {m_Ra : Option Addr} {m_Rn m_Rc : Nat} {m_Wa : Option Addr} {m_Wn m_Wc : Nat} {m_b : Nat} {key : ByteArray} (Q0 : okS key) (p0 : m.touch.reads.length ≤ 274877906944) (hA : At w [bx m_b [.slice m_Sa m_Sn m_Sc, .slice m_Ra m_Rn m_Rc, .slice m_Wa m_Wn m_Wc] 29, ow 73 2 encC okC (.slice m_Sa m_Sn m_Sc) m.store, ow 9 1 encS okS (.slice m_Ra m_Rn m_Rc) m.touch.reads, ow 9 1 encS okS (.slice m_Wa m_Wn m_Wc) m.touch.writes]) :
    Calls Tryz.prog 83 #[.pointer (some ⟨m_b, 0, none⟩), .string key] w fun e w' => ∃ (Q4 : Option Addr), ∃ (Q6 : Nat), ∃ (Q5 : Nat), ∃ (Q1 : Option Addr), ∃ (Q3 : Nat), ∃ (Q2 : Nat), ∃ (Q7 : Option Addr), ∃ (Q9 : Nat), ∃ (Q8 : Nat), e = .returned (.string (getKey m.store key)) ∧ Mv [bx m_b [.slice m_Sa m_Sn m_Sc, .slice m_Ra m_Rn m_Rc, .slice m_Wa m_Wn m_Wc] 29, ow 73 2 encC okC (.slice m_Sa m_Sn m_Sc) m.store, ow 9 1 encS okS (.slice m_Ra m_Rn m_Rc) m.touch.reads, ow 9 1 encS okS (.slice m_Wa m_Wn m_Wc) m.touch.writes] w [bx m_b [.slice Q4 Q6 Q5, .slice Q1 Q3 Q2, .slice Q7 Q9 Q8] 29, ow 73 2 encC okC (.slice Q4 Q6 Q5) (lookM m key).store, ow 9 1 encS okS (.slice Q1 Q3 Q2) (lookM m key).touch.reads, ow 9 1 encS okS (.slice Q7 Q9 Q8) (lookM m key).touch.writes] w' ∧ okS (getKey m.store key) := by
 have uU : True := (fun _ _ => trivial) H p0
 clear uU
 obtain ⟨lo1, lp1, lq1⟩ := At.ownInv hA ET_24.hk 1 rfl
 obtain ⟨lo2, lp2, lq2⟩ := At.ownInv hA ET_25.hk 2 rfl
 obtain ⟨lo3, lp3, lq3⟩ := At.ownInv hA ET_25.hk 3 rfl
 refine calls_enter 22 Tryz.func83 rfl Tryz.ntmps83 (Nat.le_of_ble_eq_true rfl) (fun _ F0i => ?_)
 have F0 : Fr 22 [(0, .pointer (some ⟨m_b, 0, none⟩)), (1, .string key)] _ := F0i
 clear F0i
 refine wp_seq (wp_region_lit (l_op (f_val F0 rfl rfl (r_assign rfl rfl) rfl fun _ F1 => ?_)))
 refine s_end (x_normal (wp_seq (wp_region_lit (l_op (f_mv F1 rfl rfl rfl rfl rfl fun _ F2 => ?_)))))
 refine l_op (f_mv F2 rfl rfl rfl rfl rfl fun _ F3 => ?_)
 refine l_op (f_val F3 rfl rfl (r_nilCheck rfl (F3.ev 6 rfl)) rfl fun _ F4 => ?_)
 refine l_op (f_val F4 rfl rfl (r_field FI_29_1 rfl (F4.ev 7 rfl) rfl) rfl fun _ F5 => ?_)
 refine l_op (f_val F5 rfl rfl (r_field FI_27_0 rfl (F5.ev 8 rfl) rfl) rfl fun _ F6 => ?_)
 refine l_op (f_val (v := .slice m_Ra m_Rn m_Rc) F6 rfl rfl (r_loadB hA 0 TI_25 rfl rfl (F6.ev 9 rfl) rfl rfl (fun _ => rfl) rfl) rfl fun _ F7 => ?_)
 refine l_op (f_mv F7 rfl rfl rfl rfl rfl fun _ F8 => ?_)
 refine l_op (f_call F8 CF_84 rfl rfl rfl rfl (lc (F8.ev 10 rfl) (lc (F8.ev 11 rfl) rfl)) (impl_addSpan_c (H := fun _ => True) (list := m.touch.reads) (span := key) Q0 (by first | assumption | omega | (simp <;> omega)) (At.pick (is := [2]) hA rfl)) ?_)
 rintro _ w9 ⟨Q10, Q12, Q11, rfl, m9⟩
 refine ⟨_, rfl, fun _ F10 => ?_⟩
 have S9 : Mv _ _ [ow 9 1 encS okS (.slice Q10 Q12 Q11) (putL m.touch.reads key), bx m_b [.slice m_Sa m_Sn m_Sc, .slice m_Ra m_Rn m_Rc, .slice m_Wa m_Wn m_Wc] 29, ow 73 2 encC okC (.slice m_Sa m_Sn m_Sc) m.store, ow 9 1 encS okS (.slice m_Wa m_Wn m_Wc) m.touch.writes] _ := At.frame hA [2] rfl m9
 obtain ⟨Q14, Q15, Q16⟩ := At.ownInv S9.at' ET_25.hk 0 rfl
 clear m9
 refine l_op (f_val F10 rfl rfl (r_nilCheck rfl (F10.ev 5 rfl)) rfl fun _ F11 => ?_)
 refine l_op (f_val F11 rfl rfl (r_field FI_29_1 rfl (F11.ev 13 rfl) rfl) rfl fun _ F12 => ?_)
 refine l_op (f_val F12 rfl rfl (r_field FI_27_0 rfl (F12.ev 14 rfl) rfl) rfl fun _ F13 => ?_)
 refine l_op (s_store S9.at' 1 TI_25 rfl rfl rfl rfl rfl (F13.ev 15 rfl) (F13.ev 12 rfl) rfl rfl rfl rfl rfl fun w14 S14 => ?_)
 refine s_end (x_normal (wp_seq (wp_region_lit (l_op (f_mv F13 rfl rfl rfl rfl rfl fun _ F15 => ?_)))))
 refine l_op (f_val F15 rfl rfl (r_nilCheck rfl (F15.ev 16 rfl)) rfl fun _ F16 => ?_)
 refine l_op (f_val F16 rfl rfl (r_field FI_29_0 rfl (F16.ev 17 rfl) rfl) rfl fun _ F17 => ?_)
 refine l_op (f_val (v := .slice m_Sa m_Sn m_Sc) F17 rfl rfl (r_loadB S14.at' 0 TI_24 rfl rfl (F17.ev 18 rfl) rfl rfl (fun _ => rfl) rfl) rfl fun _ F18 => ?_)
 refine l_op (f_mv F18 rfl rfl rfl rfl rfl fun _ F19 => ?_)
 refine l_op (f_call F19 CF_106 rfl rfl rfl rfl (lc (F19.ev 19 rfl) (lc (F19.ev 20 rfl) rfl)) (impl_GetKey_c (H := fun _ => True) (s := m.store) (key := key) (At.rd S14.at' ET_24.hk 2 rfl) Q0) ?_)
 rintro _ w20 ⟨rfl, m20, Q13⟩
 refine ⟨_, rfl, fun _ F21 => ?_⟩
 have S20 := At.frame0 S14.at' m20
 clear m20
 refine l_op (f_as F21 rfl rfl rfl rfl rfl fun _ F22 => ?_)
 refine s_end (x_normal (wp_ret ?_))
 refine x_done (v := .string (getKey m.store key)) F22 (results_1 Tryz.results83 (.tmp (F22.ev 4 rfl))) ?_
 exact ⟨m_Sa, m_Sn, m_Sc, Q10, Q12, Q11, m_Wa, m_Wn, m_Wc, rfl, (Mv.cast (Mv.pick (S9.trans (S14.trans S20)) [0, 2, 1, 3] rfl) rfl), Q13⟩
end Go.Proofs.YtibgmijfnbnfkaaGreatDoor
