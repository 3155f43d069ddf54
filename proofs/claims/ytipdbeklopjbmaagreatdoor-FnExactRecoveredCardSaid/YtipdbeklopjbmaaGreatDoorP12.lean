/-
  Texts laid together: GenQ, GenR.
-/
import Derived.Test.YtipdbeklopjbmaaGreatDoorGenP
import Derived.Test.YtipdbeklopjbmaaGreatDoorP05
/-
  Walks: a key is put into a store, by the program and by the reference.
-/

namespace Go.Proofs.YtipdbeklopjbmaaGreatDoor
open Go.ChangeShapes Go.WideShapes Go.ChangeAt Go.RowKit
set_option maxRecDepth 100000
set_option maxHeartbeats 1000000
theorem impl_put_c {w : World} {H : Nat → Prop} {s : List CellD} {s_a : Option Addr} {s_n s_c : Nat} {key : ByteArray} {val : ByteArray} (Q1 : okS key) (Q10 : okS val) (p0 : s.length ≤ 274877906944) (hA : At w [ow 91 2 encC okC (.slice s_a s_n s_c) s]) :
    Calls Tryz.prog 47 #[.slice s_a s_n s_c, .string key, .string val] w fun e w' => ∃ (r0_a : Option Addr), ∃ (r0_n : Nat), ∃ (r0_c : Nat), e = .returned (.slice r0_a r0_n r0_c) ∧ Mv [ow 91 2 encC okC (.slice s_a s_n s_c) s] w [ow 91 2 encC okC (.slice r0_a r0_n r0_c) (putKey s key val)] w' := by
 have uU : True := (fun _ _ => trivial) H p0
 clear uU
 obtain ⟨lo0, lp0, lq0⟩ := At.ownInv hA ET_28.hk 0 rfl
 refine calls_enter 37 Tryz.func47 rfl Tryz.ntmps47 (Nat.le_of_ble_eq_true rfl) (fun _ F0i => ?_)
 have F0 : Fr 37 [(0, .slice s_a s_n s_c), (1, .string key), (2, .string val)] _ := F0i
 clear F0i
 refine wp_seq (wp_region_lit (l_op (f_box F0 hA rfl rfl rfl (F0.ev 1 rfl) rfl rfl fun b1 _ w1 F2 S1 => ?_)))
 refine l_op (f_val F2 rfl rfl (r_assign rfl rfl) rfl fun _ F3 => ?_)
 refine s_end (x_normal (wp_seq (wp_seq (wp_region_lit (l_op (f_val (v := .string key) F3 rfl rfl (r_loadB S1.at' 0 TI_9 rfl rfl (F3.ev 4 rfl) rfl rfl (fun _ => rfl) rfl) rfl fun _ F4 => ?_))))))
 refine l_op (f_call F4 CF_97 rfl rfl rfl rfl (lc (F4.ev 8 rfl) rfl) (impl_KeyOk_c (H := fun _ => True) (key := key) Q1) ?_)
 rintro _ w5 ⟨rfl, m5⟩
 refine ⟨_, rfl, fun _ F6 => ?_⟩
 have S5 := At.frame0 S1.at' m5
 clear m5
 refine l_op (f_val F6 rfl rfl (r_not rfl (F6.ev 9 rfl)) rfl fun _ F7 => ?_)
 refine l_op (f_mv F7 rfl rfl rfl rfl rfl fun _ F8 => ?_)
 rcases Bool.eq_false_or_eq_true (!(keyOk key)) with h9 | h9
 · rw [h9] at F8
   refine l_op (f_skip F8 (wanted_g F8 rfl rfl rfl rfl) rfl rfl fun _ F10 => ?_)
   refine l_op (f_skip F10 (wanted_g F10 rfl rfl rfl rfl) rfl rfl fun _ F11 => ?_)
   refine l_op (f_skip F11 (wanted_g F11 rfl rfl rfl rfl) rfl rfl fun _ F12 => ?_)
   refine l_op (f_val F12 rfl rfl (r_pick (b := true) rfl (F12.ev 11 rfl) rfl) rfl fun _ F13 => ?_)
   refine s_end (x_normal (wp_cond_true (F13.ev 15 rfl) (wp_seq (wp_region_lit (l_op (f_mv F13 rfl rfl rfl rfl rfl fun _ F14 => ?_))))))
   refine l_op (f_as F14 rfl rfl rfl rfl rfl fun _ F15 => ?_)
   refine s_end (x_normal (wp_ret (x_then_ret ?_)))
   refine x_done (v := .slice s_a s_n s_c) F15 (results_1 Tryz.results47 (.tmp (F15.ev 6 rfl))) ?_
   exact ⟨s_a, s_n, s_c, rfl, (Mv.cast (Mv.pick (S1.trans S5) [1] rfl) (by rw [← (show s = (putKey s key val) from by first | exact (putKey_no (.inl (nt ‹_›))).symm | exact (putKey_no (.inr (by omega))).symm | exact (putKey_del (nf ‹_›) ‹_›).symm | (rw [putKey_ins (nf ‹_›) (by omega) ‹_›]; first | exact insK_at rfl (by omega) | exact insK_end (by omega) (by omega)))]; all_goals rfl))⟩
 · rw [h9] at F8
   refine l_op (f_mv F8 (wanted_g F8 rfl rfl rfl rfl) rfl rfl rfl rfl fun _ F16 => ?_)
   refine l_op (f_val F16 (wanted_g F16 rfl rfl rfl rfl) rfl (r_lenS (fun t ht => by cases ht; exact Tryz.underlying9) rfl rfl (F16.ev 12 rfl)) rfl fun _ F17 => ?_)
   refine l_op (f_val F17 (wanted_g F17 rfl rfl rfl rfl) rfl (r_cmp (b := decide (val.size > 60)) (.inr (.inr (.inr (.inr (.inl rfl))))) rfl (F17.ev 13 rfl) rfl (dec_of (by omega))) rfl fun _ F18 => ?_)
   refine l_op (f_val F18 rfl rfl (r_pick (b := false) rfl (F18.ev 11 rfl) (F18.ev 14 rfl)) rfl fun _ F19 => ?_)
   refine s_end (x_normal (x_cond (p := val.size > 60) (F19.ev 15 rfl) (fun h20 => ?_) (fun h20 => ?_)))
   · skip
     refine wp_seq (wp_region_lit (l_op (f_mv F19 rfl rfl rfl rfl rfl fun _ F21 => ?_)))
     refine l_op (f_as F21 rfl rfl rfl rfl rfl fun _ F22 => ?_)
     refine s_end (x_normal (wp_ret (x_then_ret ?_)))
     refine x_done (v := .slice s_a s_n s_c) F22 (results_1 Tryz.results47 (.tmp (F22.ev 6 rfl))) ?_
     exact ⟨s_a, s_n, s_c, rfl, (Mv.cast (Mv.pick (S1.trans S5) [1] rfl) (by rw [← (show s = (putKey s key val) from by first | exact (putKey_no (.inl (nt ‹_›))).symm | exact (putKey_no (.inr (by omega))).symm | exact (putKey_del (nf ‹_›) ‹_›).symm | (rw [putKey_ins (nf ‹_›) (by omega) ‹_›]; first | exact insK_at rfl (by omega) | exact insK_end (by omega) (by omega)))]; all_goals rfl))⟩
   · skip
     refine wp_skip (x_normal (wp_seq (wp_region_lit (l_op (f_mv F19 rfl rfl rfl rfl rfl fun _ F23 => ?_)))))
     refine l_op (f_val F23 rfl rfl (r_makeFuncL rfl (lc (F23.ev 4 rfl) rfl)) rfl fun _ F24 => ?_)
     refine l_op (f_call F24 CF_98 rfl rfl rfl rfl (lc (F24.ev 17 rfl) (lc (F24.ev 18 rfl) rfl)) (DeleteFunc_c (H := fun _ => True) (s := s) (del := key) Q1 (At.pick (is := [1, 0]) S5.at' rfl)) ?_)
     rintro _ w25 ⟨Q2, Q0, Q3, rfl, m25⟩
     refine ⟨_, rfl, fun _ F26 => ?_⟩
     have S25 : Mv _ _ [ow 91 2 encC okC (.slice Q2 Q0 Q3) (delKey s key), bx b1 [.string key] 9] _ := At.frame S5.at' [1, 0] rfl m25
     obtain ⟨Q11, Q14, Q17⟩ := At.ownInv S25.at' ET_28.hk 0 rfl
     clear m25
     refine l_op (f_as F26 rfl rfl rfl rfl rfl fun _ F27 => ?_)
     refine s_end (x_normal (wp_seq (wp_seq (wp_region_lit (l_op (f_mv F27 rfl rfl rfl rfl rfl fun _ F28 => ?_))))))
     refine l_op (f_val F28 rfl rfl (r_cmps (b := (decide (val = bE_))) (.inl rfl) rfl (F28.ev 20 rfl) rfl rfl) rfl fun _ F29 => ?_)
     refine s_end (x_normal (x_cond (p := val = bE_) (F29.ev 21 rfl) (fun h30 => ?_) (fun h30 => ?_)))
     · skip
       refine wp_seq (wp_region_lit (l_op (f_mv F29 rfl rfl rfl rfl rfl fun _ F31 => ?_)))
       refine l_op (f_as F31 rfl rfl rfl rfl rfl fun _ F32 => ?_)
       refine s_end (x_normal (wp_ret (x_then_ret ?_)))
       refine x_done (v := .slice Q2 Q0 Q3) F32 (results_1 Tryz.results47 (.tmp (F32.ev 6 rfl))) ?_
       exact ⟨Q2, Q0, Q3, rfl, (Mv.cast (Mv.pick (S1.trans (S5.trans S25)) [0] rfl) (by rw [(show (delKey s key) = (putKey s key val) from by first | exact (putKey_no (.inl (nt ‹_›))).symm | exact (putKey_no (.inr (by omega))).symm | exact (putKey_del (nf ‹_›) ‹_›).symm | (rw [putKey_ins (nf ‹_›) (by omega) ‹_›]; first | exact insK_at rfl (by omega) | exact insK_end (by omega) (by omega)))]; all_goals rfl))⟩
     · skip
       refine wp_skip (x_normal (wp_seq (wp_region_lit (l_op (f_mv F29 rfl rfl rfl rfl rfl fun _ F33 => ?_)))))
       refine l_op (f_val F33 rfl rfl (r_makeFuncL rfl (lc (F33.ev 4 rfl) rfl)) rfl fun _ F34 => ?_)
       refine l_op (f_call F34 CF_100 rfl rfl rfl rfl (lc (F34.ev 23 rfl) (lc (F34.ev 24 rfl) rfl)) (IndexFunc_impl_put_2_c (H := fun b => ¬ fps (sel [ow 91 2 encC okC (.slice Q2 Q0 Q3) (delKey s key), bx b1 [.string key] 9] [1]) b) (s := delKey s key) (f := key) (At.rdOff S25.at' ET_28.hk 0 rfl [1] rfl) Q1 (At.pick (is := [1]) S25.at' rfl) (fun _ h => h)) ?_)
       rintro _ w35 ⟨rfl, m35, q35_0⟩
       refine ⟨_, rfl, fun _ F36 => ?_⟩
       have S35 : Mv _ _ [bx b1 [.string key] 9, ow 91 2 encC okC (.slice Q2 Q0 Q3) (delKey s key)] _ := At.frame S25.at' [1] rfl m35
       clear m35
       refine l_op (f_as F36 rfl rfl rfl rfl rfl fun _ F37 => ?_)
       refine s_end (x_normal (wp_seq (wp_seq (wp_region_lit (l_op (f_mv F37 rfl rfl rfl rfl rfl fun _ F38 => ?_))))))
       refine l_op (f_val F38 rfl rfl (r_cmp (b := decide ((idxP (fun c : CellD => !leS c.key key) (delKey s key)) < 0)) (.inr (.inr (.inl rfl))) rfl (F38.ev 26 rfl) rfl (dec_of (by omega))) rfl fun _ F39 => ?_)
       refine s_end (x_normal (x_cond (p := (idxP (fun c : CellD => !leS c.key key) (delKey s key)) < 0) (F39.ev 27 rfl) (fun h40 => ?_) (fun h40 => ?_)))
       · skip
         refine wp_region_lit (l_op (f_mv F39 rfl rfl rfl rfl rfl fun _ F41 => ?_))
         refine l_op (f_val F41 rfl rfl (r_len Tryz.underlying28 rfl (F41.ev 28 rfl)) rfl fun _ F42 => ?_)
         refine l_op (f_as F42 rfl rfl rfl rfl rfl fun _ F43 => ?_)
         refine s_end (x_normal (wp_seq (wp_region_lit (l_op (f_mv F43 rfl rfl rfl rfl rfl fun _ F44 => ?_)))))
         refine l_op (f_mv F44 rfl rfl rfl rfl rfl fun _ F45 => ?_)
         refine l_op (f_val (v := .string key) F45 rfl rfl (r_loadB S35.at' 0 TI_9 rfl rfl (F45.ev 4 rfl) rfl rfl (fun _ => rfl) rfl) rfl fun _ F46 => ?_)
         refine l_op (f_mv F46 rfl rfl rfl rfl rfl fun _ F47 => ?_)
         refine l_op (f_val (v := .agg #[.string key, .string val]) F47 rfl rfl (r_build BI_91 rfl (lc (pr2 (F47.ev 32 rfl)) (lc (pr2 (F47.ev 33 rfl)) rfl)) rfl) rfl fun _ F48 => ?_)
         refine l_op (f_buildSl (ok := okC) (vs := [.agg #[.string key, .string val]]) F48 S35.at' ([(⟨key, val⟩ : CellD)]) ET_28 rfl rfl rfl rfl rfl rfl (lc (pr2 (F48.ev 34 rfl)) rfl) rfl rfl (fun x hx => (List.mem_singleton.1 hx) ▸ ⟨Q1, Q10⟩) fun b49 _ w49 F50 S49 => ?_)
         refine l_op (f_call F50 CF_102 rfl rfl rfl rfl (lc (F50.ev 30 rfl) (lc (F50.ev 31 rfl) (lc (F50.ev 35 rfl) rfl))) (slices_Insert_Simpl_Cell_impl_Cell_c (H := fun _ => True) (s := delKey s key) (i := ((Q0 : Nat) : Int)) (v := (⟨key, val⟩ : CellD)) (by first | assumption | exact ⟨by omega, by omega⟩ | (unfold i64ok at *; omega)) (by have := idxP_bd (fun c : CellD => !leS c.key key) (delKey s key); have := delKey_length s key; omega) (by have := idxP_bd (fun c : CellD => !leS c.key key) (delKey s key); have := delKey_length s key; omega) (by have := idxP_bd (fun c : CellD => !leS c.key key) (delKey s key); have := delKey_length s key; omega) (At.pick (is := [2, 0]) S49.at' rfl)) ?_)
         rintro _ w51 ⟨Q4, Q8, Q6, rfl, m51⟩
         refine ⟨_, rfl, fun _ F52 => ?_⟩
         have S51 : Mv _ _ [ow 91 2 encC okC (.slice Q4 Q8 Q6) (insAt (delKey s key) ((Q0 : Nat) : Int).toNat (⟨key, val⟩ : CellD)), bx b1 [.string key] 9] _ := At.frame S49.at' [2, 0] rfl m51
         obtain ⟨Q12, Q15, Q18⟩ := At.ownInv S51.at' ET_28.hk 0 rfl
         clear m51
         refine l_op (f_as F52 rfl rfl rfl rfl rfl fun _ F53 => ?_)
         refine s_end (x_normal (wp_ret ?_))
         refine x_done (v := .slice Q4 Q8 Q6) F53 (results_1 Tryz.results47 (.tmp (F53.ev 6 rfl))) ?_
         exact ⟨Q4, Q8, Q6, rfl, (Mv.cast (Mv.pick (S1.trans (S5.trans (S25.trans (S35.trans (S49.trans S51))))) [0] rfl) (by rw [(show (insAt (delKey s key) ((Q0 : Nat) : Int).toNat (⟨key, val⟩ : CellD)) = (putKey s key val) from by first | exact (putKey_no (.inl (nt ‹_›))).symm | exact (putKey_no (.inr (by omega))).symm | exact (putKey_del (nf ‹_›) ‹_›).symm | (rw [putKey_ins (nf ‹_›) (by omega) ‹_›]; first | exact insK_at rfl (by omega) | exact insK_end (by omega) (by omega)))]; all_goals rfl))⟩
       · skip
         refine wp_skip (x_normal (wp_seq (wp_region_lit (l_op (f_mv F39 rfl rfl rfl rfl rfl fun _ F54 => ?_)))))
         refine l_op (f_mv F54 rfl rfl rfl rfl rfl fun _ F55 => ?_)
         refine l_op (f_val (v := .string key) F55 rfl rfl (r_loadB S35.at' 0 TI_9 rfl rfl (F55.ev 4 rfl) rfl rfl (fun _ => rfl) rfl) rfl fun _ F56 => ?_)
         refine l_op (f_mv F56 rfl rfl rfl rfl rfl fun _ F57 => ?_)
         refine l_op (f_val (v := .agg #[.string key, .string val]) F57 rfl rfl (r_build BI_91 rfl (lc (pr2 (F57.ev 32 rfl)) (lc (pr2 (F57.ev 33 rfl)) rfl)) rfl) rfl fun _ F58 => ?_)
         refine l_op (f_buildSl (ok := okC) (vs := [.agg #[.string key, .string val]]) F58 S35.at' ([(⟨key, val⟩ : CellD)]) ET_28 rfl rfl rfl rfl rfl rfl (lc (pr2 (F58.ev 34 rfl)) rfl) rfl rfl (fun x hx => (List.mem_singleton.1 hx) ▸ ⟨Q1, Q10⟩) fun b59 _ w59 F60 S59 => ?_)
         refine l_op (f_call F60 CF_102 rfl rfl rfl rfl (lc (F60.ev 30 rfl) (lc (F60.ev 31 rfl) (lc (F60.ev 35 rfl) rfl))) (slices_Insert_Simpl_Cell_impl_Cell_c (H := fun _ => True) (s := delKey s key) (i := (idxP (fun c : CellD => !leS c.key key) (delKey s key))) (v := (⟨key, val⟩ : CellD)) (by first | assumption | exact ⟨by omega, by omega⟩ | (unfold i64ok at *; omega)) (by have := idxP_bd (fun c : CellD => !leS c.key key) (delKey s key); have := delKey_length s key; omega) (by have := idxP_bd (fun c : CellD => !leS c.key key) (delKey s key); have := delKey_length s key; omega) (by have := idxP_bd (fun c : CellD => !leS c.key key) (delKey s key); have := delKey_length s key; omega) (At.pick (is := [2, 0]) S59.at' rfl)) ?_)
         rintro _ w61 ⟨Q5, Q9, Q7, rfl, m61⟩
         refine ⟨_, rfl, fun _ F62 => ?_⟩
         have S61 : Mv _ _ [ow 91 2 encC okC (.slice Q5 Q9 Q7) (insAt (delKey s key) (idxP (fun c : CellD => !leS c.key key) (delKey s key)).toNat (⟨key, val⟩ : CellD)), bx b1 [.string key] 9] _ := At.frame S59.at' [2, 0] rfl m61
         obtain ⟨Q13, Q16, Q19⟩ := At.ownInv S61.at' ET_28.hk 0 rfl
         clear m61
         refine l_op (f_as F62 rfl rfl rfl rfl rfl fun _ F63 => ?_)
         refine s_end (x_normal (wp_ret ?_))
         refine x_done (v := .slice Q5 Q9 Q7) F63 (results_1 Tryz.results47 (.tmp (F63.ev 6 rfl))) ?_
         exact ⟨Q5, Q9, Q7, rfl, (Mv.cast (Mv.pick (S1.trans (S5.trans (S25.trans (S35.trans (S59.trans S61))))) [0] rfl) (by rw [(show (insAt (delKey s key) (idxP (fun c : CellD => !leS c.key key) (delKey s key)).toNat (⟨key, val⟩ : CellD)) = (putKey s key val) from by first | exact (putKey_no (.inl (nt ‹_›))).symm | exact (putKey_no (.inr (by omega))).symm | exact (putKey_del (nf ‹_›) ‹_›).symm | (rw [putKey_ins (nf ‹_›) (by omega) ‹_›]; first | exact insK_at rfl (by omega) | exact insK_end (by omega) (by omega)))]; all_goals rfl))⟩
theorem spec_PutKey_c {w : World} {H : Nat → Prop} {s : List CellD} {s_a : Option Addr} {s_n s_c : Nat} {key : ByteArray} {val : ByteArray} (v_s : Rd 2 encC okC H w (.slice s_a s_n s_c) s) (Q1 : okS key) (Q2 : okS val) (p0 : s_n ≤ 274877906944) :
    Calls Tryz.prog 91 #[.slice s_a s_n s_c, .string key, .string val] w fun e w' => ∃ (r0_a : Option Addr), ∃ (r0_n : Nat), ∃ (r0_c : Nat), e = .returned (.slice r0_a r0_n r0_c) ∧ Mv [] w [ow 91 2 encC okC (.slice r0_a r0_n r0_c) (putKey s key val)] w' := by
 have uU : True := (fun _ => trivial) p0
 clear uU
 have Q0 : Rd 2 encC okC (V H w []) w (.slice s_a s_n s_c) s := Rd.start v_s (fun _ _ => fps_nil _)
 obtain ⟨ln_s, le_s, mx_s, ni_s⟩ := Rd.inv v_s
 refine calls_enter 70 Tryz.func91 rfl Tryz.ntmps91 (Nat.le_of_ble_eq_true rfl) (fun _ F0i => ?_)
 have F0 : Fr 70 [(0, .slice s_a s_n s_c), (1, .string key), (2, .string val)] _ := F0i
 clear F0i
 refine wp_seq (wp_region_lit (l_op (f_val F0 rfl rfl (r_assign rfl rfl) rfl fun _ F1 => ?_)))
 refine s_end (x_normal (wp_seq (wp_region_lit (l_op (f_buildSl (ok := okC) (vs := []) F1 (At.nil w) (([] : List CellD)) ET_28 rfl rfl rfl rfl rfl rfl rfl rfl rfl (by simp) fun b2 _ w2 F3 S2 => ?_)))))
 refine l_op (f_as F3 rfl rfl rfl rfl rfl fun _ F4 => ?_)
 refine s_end (x_normal (wp_seq (wp_seq (wp_region_lit (l_op (f_mv F4 rfl rfl rfl rfl rfl fun _ F5 => ?_))))))
 refine l_op (f_call F5 CF_132 rfl rfl rfl rfl (lc (F5.ev 11 rfl) rfl) (spec_KeyOk_c (H := fun _ => True) (key := key) Q1) ?_)
 rintro _ w6 ⟨rfl, m6⟩
 refine ⟨_, rfl, fun _ F7 => ?_⟩
 have S6 := At.frame0 S2.at' m6
 clear m6
 refine l_op (f_val F7 rfl rfl (r_not rfl (F7.ev 12 rfl)) rfl fun _ F8 => ?_)
 refine l_op (f_mv F8 rfl rfl rfl rfl rfl fun _ F9 => ?_)
 rcases Bool.eq_false_or_eq_true (!(keyOk key)) with h10 | h10
 · rw [h10] at F9
   refine l_op (f_skip F9 (wanted_g F9 rfl rfl rfl rfl) rfl rfl fun _ F11 => ?_)
   refine l_op (f_skip F11 (wanted_g F11 rfl rfl rfl rfl) rfl rfl fun _ F12 => ?_)
   refine l_op (f_skip F12 (wanted_g F12 rfl rfl rfl rfl) rfl rfl fun _ F13 => ?_)
   refine l_op (f_val F13 rfl rfl (r_pick (b := true) rfl (F13.ev 14 rfl) rfl) rfl fun _ F14 => ?_)
   refine s_end (x_normal (wp_cond_true (F14.ev 18 rfl) (wp_seq (wp_region_lit (l_op (f_mv F14 rfl rfl rfl rfl rfl fun _ F15 => ?_))))))
   refine l_op (f_mv F15 rfl rfl rfl rfl rfl fun _ F16 => ?_)
   refine l_op (f_app (news := s) F16 S6.at' 0 ET_28 rfl rfl rfl rfl rfl rfl (F16.ev 19 rfl) (F16.ev 20 rfl) ((Rd.mq Q0 (S2.trans S6))).1 (by ((repeat (first | rw [List.length_append] | rw [List.length_cons] | rw [List.length_nil] | rw [List.length_take] | rw [List.length_drop])) <;> omega)) fun A17 N17 C17 _ w17 F18 S17 l17 => ?_)
   refine l_op (f_as F18 rfl rfl rfl rfl rfl fun _ F19 => ?_)
   refine s_end (x_normal (wp_ret (x_then_ret ?_)))
   refine x_done (v := .slice A17 N17 C17) F19 (results_1 Tryz.results91 (.tmp (F19.ev 6 rfl))) ?_
   exact ⟨A17, N17, C17, rfl, (Mv.cast (Mv.pick (S2.trans (S6.trans S17)) [0] rfl) (by rw [(show (([] : List CellD) ++ s) = (putKey s key val) from by first | exact (List.nil_append _).trans (putKey_no (.inl (nt ‹_›))).symm | exact (List.nil_append _).trans (putKey_no (.inr (by omega))).symm | (rw [← putF_end hk_1 (by omega) (nf ‹_›) (by omega)]; first | rw [if_pos (nt ‹_›)] | rw [if_neg (ne_false_of_eq_true (nf ‹_›)), List.append_nil]))]; all_goals rfl))⟩
 · rw [h10] at F9
   refine l_op (f_mv F9 (wanted_g F9 rfl rfl rfl rfl) rfl rfl rfl rfl fun _ F20 => ?_)
   refine l_op (f_val F20 (wanted_g F20 rfl rfl rfl rfl) rfl (r_lenS (fun t ht => by cases ht; exact Tryz.underlying9) rfl rfl (F20.ev 15 rfl)) rfl fun _ F21 => ?_)
   refine l_op (f_val F21 (wanted_g F21 rfl rfl rfl rfl) rfl (r_cmp (b := decide (val.size > 60)) (.inr (.inr (.inr (.inr (.inl rfl))))) rfl (F21.ev 16 rfl) rfl (dec_of (by omega))) rfl fun _ F22 => ?_)
   refine l_op (f_val F22 rfl rfl (r_pick (b := false) rfl (F22.ev 14 rfl) (F22.ev 17 rfl)) rfl fun _ F23 => ?_)
   refine s_end (x_normal (x_cond (p := val.size > 60) (F23.ev 18 rfl) (fun h24 => ?_) (fun h24 => ?_)))
   · skip
     refine wp_seq (wp_region_lit (l_op (f_mv F23 rfl rfl rfl rfl rfl fun _ F25 => ?_)))
     refine l_op (f_mv F25 rfl rfl rfl rfl rfl fun _ F26 => ?_)
     refine l_op (f_app (news := s) F26 S6.at' 0 ET_28 rfl rfl rfl rfl rfl rfl (F26.ev 19 rfl) (F26.ev 20 rfl) ((Rd.mq Q0 (S2.trans S6))).1 (by ((repeat (first | rw [List.length_append] | rw [List.length_cons] | rw [List.length_nil] | rw [List.length_take] | rw [List.length_drop])) <;> omega)) fun A27 N27 C27 _ w27 F28 S27 l27 => ?_)
     refine l_op (f_as F28 rfl rfl rfl rfl rfl fun _ F29 => ?_)
     refine s_end (x_normal (wp_ret (x_then_ret ?_)))
     refine x_done (v := .slice A27 N27 C27) F29 (results_1 Tryz.results91 (.tmp (F29.ev 6 rfl))) ?_
     exact ⟨A27, N27, C27, rfl, (Mv.cast (Mv.pick (S2.trans (S6.trans S27)) [0] rfl) (by rw [(show (([] : List CellD) ++ s) = (putKey s key val) from by first | exact (List.nil_append _).trans (putKey_no (.inl (nt ‹_›))).symm | exact (List.nil_append _).trans (putKey_no (.inr (by omega))).symm | (rw [← putF_end hk_1 (by omega) (nf ‹_›) (by omega)]; first | rw [if_pos (nt ‹_›)] | rw [if_neg (ne_false_of_eq_true (nf ‹_›)), List.append_nil]))]; all_goals rfl))⟩
   · skip
     refine wp_skip (x_normal (wp_seq (wp_region_lit (l_op (f_mv F23 rfl rfl rfl rfl rfl fun _ F30 => ?_)))))
     refine l_op (f_val F30 rfl rfl (r_cmps (b := (decide (val = bE_))) (.inl rfl) rfl (F30.ev 22 rfl) rfl rfl) rfl fun _ F31 => ?_)
     refine l_op (f_as F31 rfl rfl rfl rfl rfl fun _ F32 => ?_)
     refine s_end (x_normal (wp_seq (wp_seq (wp_region_lit (l_op (f_val F32 rfl rfl (r_assign rfl rfl) rfl fun _ F33 => ?_))))))
     refine s_end (x_normal (wp_block ?_))
     refine x_loop (fun (k : Nat) aZ wZ => ∃ (O : List CellD), ∃ (dd : Bool), ∃ (oa : Option Addr), ∃ (on : Nat), ∃ (oc : Nat), Fr 70 [(9, .int .i64 ((k : Nat) : Int)), (8, .bool dd), (7, .slice oa on oc), (0, .slice s_a s_n s_c), (1, .string key), (2, .string val)] aZ ∧ Mv [ow 91 2 encC okC (.slice (some ⟨b2, 0, none⟩) 0 0) ([] : List CellD)] w6 [ow 91 2 encC okC (.slice oa on oc) O] wZ ∧ (k ≤ s_n) ∧ (putF (s.take k) key val ([], decide (val = ⟨#[]⟩)) = (O, dd)) ∧ (O.length ≤ 2 * k)) (fun (k : Nat) => s_n - k) (0) ?_ ?_
     · exact ⟨([] : List CellD), (decide (val = bE_)), (some ⟨b2, 0, none⟩), 0, 0, F33.cut rfl, (Mv.refl S6.at'), by omega, rfl, by simp⟩
     · rintro k a34 w34 ⟨O, dd, oa, on, oc, F34, S34, hk_0, hk_1, hk_2⟩
       refine wp_seq (wp_seq (wp_region_lit (l_op (f_mv F34 rfl rfl rfl rfl rfl fun _ F35 => ?_))))
       refine l_op (f_mv F35 rfl rfl rfl rfl rfl fun _ F36 => ?_)
       refine l_op (f_val F36 rfl rfl (r_len Tryz.underlying28 rfl (F36.ev 25 rfl)) rfl fun _ F37 => ?_)
       refine l_op (f_val F37 rfl rfl (r_cmp (b := decide (k < s_n)) (.inr (.inr (.inl rfl))) rfl (F37.ev 24 rfl) (F37.ev 26 rfl) (dec_of (by omega))) rfl fun _ F38 => ?_)
       refine s_end (x_normal (x_cond (p := k < s_n) (F38.ev 27 rfl) (fun h39 => ?_) (fun h39 => ?_)))
       · skip
         refine wp_skip (x_normal (wp_seq (wp_block (wp_seq (wp_seq (wp_region_lit (l_op (f_mv F38 rfl rfl rfl rfl rfl fun _ F40 => ?_))))))))
         refine l_op (f_val F40 rfl rfl (r_not rfl (F40.ev 30 rfl)) rfl fun _ F41 => ?_)
         refine l_op (f_mv F41 rfl rfl rfl rfl rfl fun _ F42 => ?_)
         rcases Bool.eq_false_or_eq_true (!dd) with h43 | h43
         · rw [h43] at F42
           refine l_op (f_mv F42 (wanted_g F42 rfl rfl rfl rfl) rfl rfl rfl rfl fun _ F44 => ?_)
           refine l_op (f_mv F44 (wanted_g F44 rfl rfl rfl rfl) rfl rfl rfl rfl fun _ F45 => ?_)
           obtain ⟨B46, O46, x1, ad46, hx1, okx1, ln46, cl46⟩ := Rd.at (Rd.mq Q0 (S2.trans (S6.trans S34))) k (by first | assumption | omega)
           clear ln46
           refine l_op (f_val F45 (wanted_g F45 rfl rfl rfl rfl) rfl (r_indexAddr (i := k) ET_28 rfl ((F45.ev 33 rfl).trans (by rw [ad46])) (F45.ev 34 rfl) (by omega) (by first | assumption | omega)) rfl fun _ F47 => ?_)
           refine l_op (f_val F47 (wanted_g F47 rfl rfl rfl rfl) rfl (r_field FI_91_0 rfl (F47.ev 35 rfl) rfl) rfl fun _ F48 => ?_)
           refine l_op (f_val (v := .string x1.key) F48 (wanted_g F48 rfl rfl rfl rfl) rfl (r_load (cs := [.string x1.key]) TI_9 rfl (F48.ev 36 rfl) rfl (fun _ => rfl) (elem_sub (f := 0) cl46 [.string x1.key] rfl)) rfl fun _ F49 => ?_)
           refine l_op (f_mv F49 (wanted_g F49 rfl rfl rfl rfl) rfl rfl rfl rfl fun _ F50 => ?_)
           refine l_op (f_val F50 (wanted_g F50 rfl rfl rfl rfl) rfl (r_cmps (b := (!leS x1.key key)) (.inr (.inr (.inr (.inr (.inl rfl))))) rfl (F50.ev 37 rfl) (F50.ev 38 rfl) rfl) rfl fun _ F51 => ?_)
           refine l_op (f_val F51 rfl rfl (r_pick (b := true) rfl (F51.ev 32 rfl) (F51.ev 39 rfl)) rfl fun _ F52 => ?_)
           refine s_end (x_normal (x_condb (b := (!leS x1.key key)) (F52.ev 40 rfl) (fun h53 => ?_) (fun h53 => ?_)))
           · skip
             refine wp_seq (wp_region_lit (l_op (f_mv F52 rfl rfl rfl rfl rfl fun _ F54 => ?_)))
             refine l_op (f_mv F54 rfl rfl rfl rfl rfl fun _ F55 => ?_)
             refine l_op (f_mv F55 rfl rfl rfl rfl rfl fun _ F56 => ?_)
             refine l_op (f_val (v := .agg #[.string key, .string val]) F56 rfl rfl (r_build BI_91 rfl (lc (pr2 (F56.ev 42 rfl)) (lc (pr2 (F56.ev 43 rfl)) rfl)) rfl) rfl fun _ F57 => ?_)
             refine l_op (f_buildSl (ok := okC) (vs := [.agg #[.string key, .string val]]) F57 S34.at' ([(⟨key, val⟩ : CellD)]) ET_28 rfl rfl rfl rfl rfl rfl (lc (pr2 (F57.ev 44 rfl)) rfl) rfl rfl (fun x hx => (List.mem_singleton.1 hx) ▸ ⟨Q1, Q2⟩) fun b58 _ w58 F59 S58 => ?_)
             refine l_op (f_app (news := [(⟨key, val⟩ : CellD)]) F59 S58.at' 1 ET_28 rfl rfl rfl rfl rfl rfl (F59.ev 41 rfl) (F59.ev 45 rfl) ((At.rd S58.at' ET_28.hk 0 rfl)).1 (by ((repeat (first | rw [List.length_append] | rw [List.length_cons] | rw [List.length_nil] | rw [List.length_take] | rw [List.length_drop])) <;> omega)) fun A60 N60 C60 _ w60 F61 S60 l60 => ?_)
             have S62 := At.drop S60.at' 1
             refine l_op (f_as F61 rfl rfl rfl rfl rfl fun _ F63 => ?_)
             have T64 : Mv _ _ [ow 91 2 encC okC (.slice A60 N60 C60) (O ++ ([(⟨key, val⟩ : CellD)]))] _ := S62
             refine s_end (x_normal (wp_region_lit (l_op (f_val F63 rfl rfl (r_assign rfl rfl) rfl fun _ F65 => ?_))))
             refine s_end (x_normal (wp_seq (wp_region_lit (l_op (f_mv F65 rfl rfl rfl rfl rfl fun _ F66 => ?_)))))
             refine l_op (f_mv F66 rfl rfl rfl rfl rfl fun _ F67 => ?_)
             obtain ⟨B68, O68, y68, ad68, hy68, oky68, ln68, cl68⟩ := Rd.at (Rd.mq Q0 (S2.trans (S6.trans (S34.trans (S58.trans (S60.trans T64)))))) k (by first | assumption | omega)
             clear ln68
             obtain rfl := Option.some.inj (hx1.symm.trans hy68)
             clear hy68 oky68
             refine l_op (f_val F67 rfl rfl (r_indexAddr (i := k) ET_28 rfl ((F67.ev 47 rfl).trans (by rw [ad68])) (F67.ev 48 rfl) (by omega) (by first | assumption | omega)) rfl fun _ F69 => ?_)
             refine l_op (f_val F69 rfl rfl (r_field FI_91_0 rfl (F69.ev 49 rfl) rfl) rfl fun _ F70 => ?_)
             refine l_op (f_val (v := .string x1.key) F70 rfl rfl (r_load (cs := [.string x1.key]) TI_9 rfl (F70.ev 50 rfl) rfl (fun _ => rfl) (elem_sub (f := 0) cl68 [.string x1.key] rfl)) rfl fun _ F71 => ?_)
             refine l_op (f_mv F71 rfl rfl rfl rfl rfl fun _ F72 => ?_)
             refine l_op (f_val F72 rfl rfl (r_cmps (b := (decide (x1.key ≠ key))) (.inr (.inl rfl)) rfl (F72.ev 51 rfl) (F72.ev 52 rfl) rfl) rfl fun _ F73 => ?_)
             refine s_end (x_normal (x_cond (p := x1.key ≠ key) (F73.ev 53 rfl) (fun h74 => ?_) (fun h74 => ?_)))
             · skip
               refine wp_region_lit (l_op (f_mv F73 rfl rfl rfl rfl rfl fun _ F75 => ?_))
               refine l_op (f_mv F75 rfl rfl rfl rfl rfl fun _ F76 => ?_)
               refine l_op (f_mv F76 rfl rfl rfl rfl rfl fun _ F77 => ?_)
               obtain ⟨B78, O78, y78, ad78, hy78, oky78, ln78, cl78⟩ := Rd.at (Rd.mq Q0 (S2.trans (S6.trans (S34.trans (S58.trans (S60.trans T64)))))) k (by first | assumption | omega)
               clear ln78
               obtain rfl := Option.some.inj (hx1.symm.trans hy78)
               clear hy78 oky78
               refine l_op (f_val F77 rfl rfl (r_indexAddr (i := k) ET_28 rfl ((F77.ev 55 rfl).trans (by rw [ad78])) (F77.ev 56 rfl) (by omega) (by first | assumption | omega)) rfl fun _ F79 => ?_)
               refine l_op (f_val (v := .agg #[.string x1.key, .string x1.val]) F79 rfl rfl (r_load (cs := [.string x1.key, .string x1.val]) TI_91 rfl (F79.ev 57 rfl) rfl (fun h => nomatch h) (elem_sub (f := 0) cl78 [.string x1.key, .string x1.val] rfl)) rfl fun _ F80 => ?_)
               refine l_op (f_buildSl (ok := okC) (vs := [.agg #[.string x1.key, .string x1.val]]) F80 T64.at' ([x1]) ET_28 rfl rfl rfl rfl rfl rfl (lc (pr2 (F80.ev 58 rfl)) rfl) rfl rfl (fun x hx => (List.mem_singleton.1 hx) ▸ ⟨okx1.1, okx1.2⟩) fun b81 _ w81 F82 S81 => ?_)
               refine l_op (f_app (news := [x1]) F82 S81.at' 1 ET_28 rfl rfl rfl rfl rfl rfl (F82.ev 54 rfl) (F82.ev 59 rfl) ((At.rd S81.at' ET_28.hk 0 rfl)).1 (by ((repeat (first | rw [List.length_append] | rw [List.length_cons] | rw [List.length_nil] | rw [List.length_take] | rw [List.length_drop])) <;> omega)) fun A83 N83 C83 _ w83 F84 S83 l83 => ?_)
               have S85 := At.drop S83.at' 1
               refine l_op (f_as F84 rfl rfl rfl rfl rfl fun _ F86 => ?_)
               refine s_end (x_block_normal (x_normal (wp_region_lit (l_op (f_mv F86 rfl rfl rfl rfl rfl fun _ F87 => ?_)))))
               refine l_op (f_val F87 rfl rfl (r_add (z := ((k + 1 : Nat) : Int)) rfl (F87.ev 28 rfl) rfl (by first | rfl | omega) ⟨by first | omega | (unfold i64ok at *; omega), by first | omega | (unfold i64ok at *; omega)⟩) rfl fun _ F88 => ?_)
               refine l_op (f_as F88 rfl rfl rfl rfl rfl fun _ F89 => ?_)
               have F90 : Fr 70 [(9, .int .i64 ((k + 1 : Nat) : Int)), (7, .slice A83 N83 C83), (8, .bool true), (0, .slice s_a s_n s_c), (1, .string key), (2, .string val)] _ := F89.cut rfl
               clear F34 F35 F36 F37 F38 F40 F41 F42 F44 F45 F47 F48 F49 F50 F51 F52 F54 F55 F56 F57 F59 F61 F63 F65 F66 F67 F69 F70 F71 F72 F73 F75 F76 F77 F79 F80 F82 F84 F86 F87 F88 F89
               refine s_end ?_
               refine x_normal ⟨k + 1, by omega, (O ++ ([(⟨key, val⟩ : CellD)])) ++ ([x1]), true, A83, N83, C83, F90.cut rfl, ((S34.trans (S58.trans (S60.trans (T64.trans (S81.trans (S83.trans S85)))))).pick [0] rfl), by omega, by first | exact putF_a hk_1 hx1 ‹_› ‹_› ‹_› | exact putF_b hk_1 hx1 (.inl ‹_›) ‹_› | exact putF_b hk_1 hx1 (.inr ‹_›) ‹_› | exact putF_c hk_1 hx1 (.inl ‹_›) ‹_› | exact putF_c hk_1 hx1 (.inr ‹_›) ‹_› | exact putF_d hk_1 hx1 ‹_› ‹_› ‹_›, by first | omega | ((repeat (first | rw [List.length_append] | rw [List.length_cons] | rw [List.length_nil] | rw [List.length_take] | rw [List.length_drop])) <;> omega)⟩
             · skip
               refine wp_skip (x_block_normal (x_normal (wp_region_lit (l_op (f_mv F73 rfl rfl rfl rfl rfl fun _ F91 => ?_)))))
               refine l_op (f_val F91 rfl rfl (r_add (z := ((k + 1 : Nat) : Int)) rfl (F91.ev 28 rfl) rfl (by first | rfl | omega) ⟨by first | omega | (unfold i64ok at *; omega), by first | omega | (unfold i64ok at *; omega)⟩) rfl fun _ F92 => ?_)
               refine l_op (f_as F92 rfl rfl rfl rfl rfl fun _ F93 => ?_)
               refine s_end ?_
               refine x_normal ⟨k + 1, by omega, O ++ ([(⟨key, val⟩ : CellD)]), true, A60, N60, C60, F93.cut rfl, ((S34.trans (S58.trans (S60.trans T64))).pick [0] rfl), by omega, by first | exact putF_a hk_1 hx1 ‹_› ‹_› ‹_› | exact putF_b hk_1 hx1 (.inl ‹_›) ‹_› | exact putF_b hk_1 hx1 (.inr ‹_›) ‹_› | exact putF_c hk_1 hx1 (.inl ‹_›) ‹_› | exact putF_c hk_1 hx1 (.inr ‹_›) ‹_› | exact putF_d hk_1 hx1 ‹_› ‹_› ‹_›, by first | omega | ((repeat (first | rw [List.length_append] | rw [List.length_cons] | rw [List.length_nil] | rw [List.length_take] | rw [List.length_drop])) <;> omega)⟩
           · skip
             refine wp_skip (x_normal (wp_seq (wp_region_lit (l_op (f_mv F52 rfl rfl rfl rfl rfl fun _ F94 => ?_)))))
             refine l_op (f_mv F94 rfl rfl rfl rfl rfl fun _ F95 => ?_)
             obtain ⟨B96, O96, y96, ad96, hy96, oky96, ln96, cl96⟩ := Rd.at (Rd.mq Q0 (S2.trans (S6.trans S34))) k (by first | assumption | omega)
             clear ln96
             obtain rfl := Option.some.inj (hx1.symm.trans hy96)
             clear hy96 oky96
             refine l_op (f_val F95 rfl rfl (r_indexAddr (i := k) ET_28 rfl ((F95.ev 47 rfl).trans (by rw [ad96])) (F95.ev 48 rfl) (by omega) (by first | assumption | omega)) rfl fun _ F97 => ?_)
             refine l_op (f_val F97 rfl rfl (r_field FI_91_0 rfl (F97.ev 49 rfl) rfl) rfl fun _ F98 => ?_)
             refine l_op (f_val (v := .string x1.key) F98 rfl rfl (r_load (cs := [.string x1.key]) TI_9 rfl (F98.ev 50 rfl) rfl (fun _ => rfl) (elem_sub (f := 0) cl96 [.string x1.key] rfl)) rfl fun _ F99 => ?_)
             refine l_op (f_mv F99 rfl rfl rfl rfl rfl fun _ F100 => ?_)
             refine l_op (f_val F100 rfl rfl (r_cmps (b := (decide (x1.key ≠ key))) (.inr (.inl rfl)) rfl (F100.ev 51 rfl) (F100.ev 52 rfl) rfl) rfl fun _ F101 => ?_)
             refine s_end (x_normal (x_cond (p := x1.key ≠ key) (F101.ev 53 rfl) (fun h102 => ?_) (fun h102 => ?_)))
             · skip
               refine wp_region_lit (l_op (f_mv F101 rfl rfl rfl rfl rfl fun _ F103 => ?_))
               refine l_op (f_mv F103 rfl rfl rfl rfl rfl fun _ F104 => ?_)
               refine l_op (f_mv F104 rfl rfl rfl rfl rfl fun _ F105 => ?_)
               obtain ⟨B106, O106, y106, ad106, hy106, oky106, ln106, cl106⟩ := Rd.at (Rd.mq Q0 (S2.trans (S6.trans S34))) k (by first | assumption | omega)
               clear ln106
               obtain rfl := Option.some.inj (hx1.symm.trans hy106)
               clear hy106 oky106
               refine l_op (f_val F105 rfl rfl (r_indexAddr (i := k) ET_28 rfl ((F105.ev 55 rfl).trans (by rw [ad106])) (F105.ev 56 rfl) (by omega) (by first | assumption | omega)) rfl fun _ F107 => ?_)
               refine l_op (f_val (v := .agg #[.string x1.key, .string x1.val]) F107 rfl rfl (r_load (cs := [.string x1.key, .string x1.val]) TI_91 rfl (F107.ev 57 rfl) rfl (fun h => nomatch h) (elem_sub (f := 0) cl106 [.string x1.key, .string x1.val] rfl)) rfl fun _ F108 => ?_)
               refine l_op (f_buildSl (ok := okC) (vs := [.agg #[.string x1.key, .string x1.val]]) F108 S34.at' ([x1]) ET_28 rfl rfl rfl rfl rfl rfl (lc (pr2 (F108.ev 58 rfl)) rfl) rfl rfl (fun x hx => (List.mem_singleton.1 hx) ▸ ⟨okx1.1, okx1.2⟩) fun b109 _ w109 F110 S109 => ?_)
               refine l_op (f_app (news := [x1]) F110 S109.at' 1 ET_28 rfl rfl rfl rfl rfl rfl (F110.ev 54 rfl) (F110.ev 59 rfl) ((At.rd S109.at' ET_28.hk 0 rfl)).1 (by ((repeat (first | rw [List.length_append] | rw [List.length_cons] | rw [List.length_nil] | rw [List.length_take] | rw [List.length_drop])) <;> omega)) fun A111 N111 C111 _ w111 F112 S111 l111 => ?_)
               have S113 := At.drop S111.at' 1
               refine l_op (f_as F112 rfl rfl rfl rfl rfl fun _ F114 => ?_)
               have T115 : Mv _ _ [ow 91 2 encC okC (.slice A111 N111 C111) (O ++ ([x1]))] _ := S113
               refine s_end (x_block_normal (x_normal (wp_region_lit (l_op (f_mv F114 rfl rfl rfl rfl rfl fun _ F116 => ?_)))))
               refine l_op (f_val F116 rfl rfl (r_add (z := ((k + 1 : Nat) : Int)) rfl (F116.ev 28 rfl) rfl (by first | rfl | omega) ⟨by first | omega | (unfold i64ok at *; omega), by first | omega | (unfold i64ok at *; omega)⟩) rfl fun _ F117 => ?_)
               refine l_op (f_as F117 rfl rfl rfl rfl rfl fun _ F118 => ?_)
               refine s_end ?_
               refine x_normal ⟨k + 1, by omega, O ++ ([x1]), dd, A111, N111, C111, F118.cut rfl, ((S34.trans (S109.trans (S111.trans T115))).pick [0] rfl), by omega, by first | exact putF_a hk_1 hx1 ‹_› ‹_› ‹_› | exact putF_b hk_1 hx1 (.inl ‹_›) ‹_› | exact putF_b hk_1 hx1 (.inr ‹_›) ‹_› | exact putF_c hk_1 hx1 (.inl ‹_›) ‹_› | exact putF_c hk_1 hx1 (.inr ‹_›) ‹_› | exact putF_d hk_1 hx1 ‹_› ‹_› ‹_›, by first | omega | ((repeat (first | rw [List.length_append] | rw [List.length_cons] | rw [List.length_nil] | rw [List.length_take] | rw [List.length_drop])) <;> omega)⟩
             · skip
               refine wp_skip (x_block_normal (x_normal (wp_region_lit (l_op (f_mv F101 rfl rfl rfl rfl rfl fun _ F119 => ?_)))))
               refine l_op (f_val F119 rfl rfl (r_add (z := ((k + 1 : Nat) : Int)) rfl (F119.ev 28 rfl) rfl (by first | rfl | omega) ⟨by first | omega | (unfold i64ok at *; omega), by first | omega | (unfold i64ok at *; omega)⟩) rfl fun _ F120 => ?_)
               refine l_op (f_as F120 rfl rfl rfl rfl rfl fun _ F121 => ?_)
               refine s_end ?_
               refine x_normal ⟨k + 1, by omega, O, dd, oa, on, oc, F121.cut rfl, (S34.pick [0] rfl), by omega, by first | exact putF_a hk_1 hx1 ‹_› ‹_› ‹_› | exact putF_b hk_1 hx1 (.inl ‹_›) ‹_› | exact putF_b hk_1 hx1 (.inr ‹_›) ‹_› | exact putF_c hk_1 hx1 (.inl ‹_›) ‹_› | exact putF_c hk_1 hx1 (.inr ‹_›) ‹_› | exact putF_d hk_1 hx1 ‹_› ‹_› ‹_›, by first | omega | ((repeat (first | rw [List.length_append] | rw [List.length_cons] | rw [List.length_nil] | rw [List.length_take] | rw [List.length_drop])) <;> omega)⟩
         · rw [h43] at F42
           refine l_op (f_skip F42 (wanted_g F42 rfl rfl rfl rfl) rfl rfl fun _ F122 => ?_)
           refine l_op (f_skip F122 (wanted_g F122 rfl rfl rfl rfl) rfl rfl fun _ F123 => ?_)
           refine l_op (f_skip F123 (wanted_g F123 rfl rfl rfl rfl) rfl rfl fun _ F124 => ?_)
           refine l_op (f_skip F124 (wanted_g F124 rfl rfl rfl rfl) rfl rfl fun _ F125 => ?_)
           refine l_op (f_skip F125 (wanted_g F125 rfl rfl rfl rfl) rfl rfl fun _ F126 => ?_)
           refine l_op (f_skip F126 (wanted_g F126 rfl rfl rfl rfl) rfl rfl fun _ F127 => ?_)
           refine l_op (f_skip F127 (wanted_g F127 rfl rfl rfl rfl) rfl rfl fun _ F128 => ?_)
           refine l_op (f_val F128 rfl rfl (r_pick (b := false) rfl (F128.ev 32 rfl) rfl) rfl fun _ F129 => ?_)
           refine s_end (x_normal (wp_cond_false (F129.ev 40 rfl) (wp_skip (x_normal (wp_seq (wp_region_lit (l_op (f_mv F129 rfl rfl rfl rfl rfl fun _ F130 => ?_))))))))
           refine l_op (f_mv F130 rfl rfl rfl rfl rfl fun _ F131 => ?_)
           obtain ⟨B132, O132, x1, ad132, hx1, okx1, ln132, cl132⟩ := Rd.at (Rd.mq Q0 (S2.trans (S6.trans S34))) k (by first | assumption | omega)
           clear ln132
           refine l_op (f_val F131 rfl rfl (r_indexAddr (i := k) ET_28 rfl ((F131.ev 47 rfl).trans (by rw [ad132])) (F131.ev 48 rfl) (by omega) (by first | assumption | omega)) rfl fun _ F133 => ?_)
           refine l_op (f_val F133 rfl rfl (r_field FI_91_0 rfl (F133.ev 49 rfl) rfl) rfl fun _ F134 => ?_)
           refine l_op (f_val (v := .string x1.key) F134 rfl rfl (r_load (cs := [.string x1.key]) TI_9 rfl (F134.ev 50 rfl) rfl (fun _ => rfl) (elem_sub (f := 0) cl132 [.string x1.key] rfl)) rfl fun _ F135 => ?_)
           refine l_op (f_mv F135 rfl rfl rfl rfl rfl fun _ F136 => ?_)
           refine l_op (f_val F136 rfl rfl (r_cmps (b := (decide (x1.key ≠ key))) (.inr (.inl rfl)) rfl (F136.ev 51 rfl) (F136.ev 52 rfl) rfl) rfl fun _ F137 => ?_)
           refine s_end (x_normal (x_cond (p := x1.key ≠ key) (F137.ev 53 rfl) (fun h138 => ?_) (fun h138 => ?_)))
           · skip
             refine wp_region_lit (l_op (f_mv F137 rfl rfl rfl rfl rfl fun _ F139 => ?_))
             refine l_op (f_mv F139 rfl rfl rfl rfl rfl fun _ F140 => ?_)
             refine l_op (f_mv F140 rfl rfl rfl rfl rfl fun _ F141 => ?_)
             obtain ⟨B142, O142, y142, ad142, hy142, oky142, ln142, cl142⟩ := Rd.at (Rd.mq Q0 (S2.trans (S6.trans S34))) k (by first | assumption | omega)
             clear ln142
             obtain rfl := Option.some.inj (hx1.symm.trans hy142)
             clear hy142 oky142
             refine l_op (f_val F141 rfl rfl (r_indexAddr (i := k) ET_28 rfl ((F141.ev 55 rfl).trans (by rw [ad142])) (F141.ev 56 rfl) (by omega) (by first | assumption | omega)) rfl fun _ F143 => ?_)
             refine l_op (f_val (v := .agg #[.string x1.key, .string x1.val]) F143 rfl rfl (r_load (cs := [.string x1.key, .string x1.val]) TI_91 rfl (F143.ev 57 rfl) rfl (fun h => nomatch h) (elem_sub (f := 0) cl142 [.string x1.key, .string x1.val] rfl)) rfl fun _ F144 => ?_)
             refine l_op (f_buildSl (ok := okC) (vs := [.agg #[.string x1.key, .string x1.val]]) F144 S34.at' ([x1]) ET_28 rfl rfl rfl rfl rfl rfl (lc (pr2 (F144.ev 58 rfl)) rfl) rfl rfl (fun x hx => (List.mem_singleton.1 hx) ▸ ⟨okx1.1, okx1.2⟩) fun b145 _ w145 F146 S145 => ?_)
             refine l_op (f_app (news := [x1]) F146 S145.at' 1 ET_28 rfl rfl rfl rfl rfl rfl (F146.ev 54 rfl) (F146.ev 59 rfl) ((At.rd S145.at' ET_28.hk 0 rfl)).1 (by ((repeat (first | rw [List.length_append] | rw [List.length_cons] | rw [List.length_nil] | rw [List.length_take] | rw [List.length_drop])) <;> omega)) fun A147 N147 C147 _ w147 F148 S147 l147 => ?_)
             have S149 := At.drop S147.at' 1
             refine l_op (f_as F148 rfl rfl rfl rfl rfl fun _ F150 => ?_)
             have T151 : Mv _ _ [ow 91 2 encC okC (.slice A147 N147 C147) (O ++ ([x1]))] _ := S149
             refine s_end (x_block_normal (x_normal (wp_region_lit (l_op (f_mv F150 rfl rfl rfl rfl rfl fun _ F152 => ?_)))))
             refine l_op (f_val F152 rfl rfl (r_add (z := ((k + 1 : Nat) : Int)) rfl (F152.ev 28 rfl) rfl (by first | rfl | omega) ⟨by first | omega | (unfold i64ok at *; omega), by first | omega | (unfold i64ok at *; omega)⟩) rfl fun _ F153 => ?_)
             refine l_op (f_as F153 rfl rfl rfl rfl rfl fun _ F154 => ?_)
             refine s_end ?_
             refine x_normal ⟨k + 1, by omega, O ++ ([x1]), dd, A147, N147, C147, F154.cut rfl, ((S34.trans (S145.trans (S147.trans T151))).pick [0] rfl), by omega, by first | exact putF_a hk_1 hx1 ‹_› ‹_› ‹_› | exact putF_b hk_1 hx1 (.inl ‹_›) ‹_› | exact putF_b hk_1 hx1 (.inr ‹_›) ‹_› | exact putF_c hk_1 hx1 (.inl ‹_›) ‹_› | exact putF_c hk_1 hx1 (.inr ‹_›) ‹_› | exact putF_d hk_1 hx1 ‹_› ‹_› ‹_›, by first | omega | ((repeat (first | rw [List.length_append] | rw [List.length_cons] | rw [List.length_nil] | rw [List.length_take] | rw [List.length_drop])) <;> omega)⟩
           · skip
             refine wp_skip (x_block_normal (x_normal (wp_region_lit (l_op (f_mv F137 rfl rfl rfl rfl rfl fun _ F155 => ?_)))))
             refine l_op (f_val F155 rfl rfl (r_add (z := ((k + 1 : Nat) : Int)) rfl (F155.ev 28 rfl) rfl (by first | rfl | omega) ⟨by first | omega | (unfold i64ok at *; omega), by first | omega | (unfold i64ok at *; omega)⟩) rfl fun _ F156 => ?_)
             refine l_op (f_as F156 rfl rfl rfl rfl rfl fun _ F157 => ?_)
             refine s_end ?_
             refine x_normal ⟨k + 1, by omega, O, dd, oa, on, oc, F157.cut rfl, (S34.pick [0] rfl), by omega, by first | exact putF_a hk_1 hx1 ‹_› ‹_› ‹_› | exact putF_b hk_1 hx1 (.inl ‹_›) ‹_› | exact putF_b hk_1 hx1 (.inr ‹_›) ‹_› | exact putF_c hk_1 hx1 (.inl ‹_›) ‹_› | exact putF_c hk_1 hx1 (.inr ‹_›) ‹_› | exact putF_d hk_1 hx1 ‹_› ‹_› ‹_›, by first | omega | ((repeat (first | rw [List.length_append] | rw [List.length_cons] | rw [List.length_nil] | rw [List.length_take] | rw [List.length_drop])) <;> omega)⟩
       · skip
         refine wp_exit (x_then_exit (x_then_exit (x_block_here (x_normal (wp_seq (wp_seq (wp_region_lit (l_op (f_mv F38 rfl rfl rfl rfl rfl fun _ F158 => ?_)))))))))
         refine l_op (f_val F158 rfl rfl (r_not rfl (F158.ev 61 rfl)) rfl fun _ F159 => ?_)
         refine s_end (x_normal (x_condb (b := (!dd)) (F159.ev 62 rfl) (fun h160 => ?_) (fun h160 => ?_)))
         · skip
           refine wp_region_lit (l_op (f_mv F159 rfl rfl rfl rfl rfl fun _ F161 => ?_))
           refine l_op (f_mv F161 rfl rfl rfl rfl rfl fun _ F162 => ?_)
           refine l_op (f_mv F162 rfl rfl rfl rfl rfl fun _ F163 => ?_)
           refine l_op (f_val (v := .agg #[.string key, .string val]) F163 rfl rfl (r_build BI_91 rfl (lc (pr2 (F163.ev 64 rfl)) (lc (pr2 (F163.ev 65 rfl)) rfl)) rfl) rfl fun _ F164 => ?_)
           refine l_op (f_buildSl (ok := okC) (vs := [.agg #[.string key, .string val]]) F164 S34.at' ([(⟨key, val⟩ : CellD)]) ET_28 rfl rfl rfl rfl rfl rfl (lc (pr2 (F164.ev 66 rfl)) rfl) rfl rfl (fun x hx => (List.mem_singleton.1 hx) ▸ ⟨Q1, Q2⟩) fun b165 _ w165 F166 S165 => ?_)
           refine l_op (f_app (news := [(⟨key, val⟩ : CellD)]) F166 S165.at' 1 ET_28 rfl rfl rfl rfl rfl rfl (F166.ev 63 rfl) (F166.ev 67 rfl) ((At.rd S165.at' ET_28.hk 0 rfl)).1 (by ((repeat (first | rw [List.length_append] | rw [List.length_cons] | rw [List.length_nil] | rw [List.length_take] | rw [List.length_drop])) <;> omega)) fun A167 N167 C167 _ w167 F168 S167 l167 => ?_)
           have S169 := At.drop S167.at' 1
           refine l_op (f_as F168 rfl rfl rfl rfl rfl fun _ F170 => ?_)
           have T171 : Mv _ _ [ow 91 2 encC okC (.slice A167 N167 C167) (O ++ ([(⟨key, val⟩ : CellD)]))] _ := S169
           refine s_end (x_normal (wp_seq (wp_region_lit (l_op (f_mv F170 rfl rfl rfl rfl rfl fun _ F172 => ?_)))))
           refine l_op (f_as F172 rfl rfl rfl rfl rfl fun _ F173 => ?_)
           refine s_end (x_normal (wp_ret ?_))
           refine x_done (v := .slice A167 N167 C167) F173 (results_1 Tryz.results91 (.tmp (F173.ev 6 rfl))) ?_
           exact ⟨A167, N167, C167, rfl, (Mv.cast (Mv.pick (S2.trans (S6.trans (S34.trans (S165.trans (S167.trans T171))))) [0] rfl) (by rw [(show (O ++ ([(⟨key, val⟩ : CellD)])) = (putKey s key val) from by first | exact (List.nil_append _).trans (putKey_no (.inl (nt ‹_›))).symm | exact (List.nil_append _).trans (putKey_no (.inr (by omega))).symm | (rw [← putF_end hk_1 (by omega) (nf ‹_›) (by omega)]; first | rw [if_pos (nt ‹_›)] | rw [if_neg (ne_false_of_eq_true (nf ‹_›)), List.append_nil]))]; all_goals rfl))⟩
         · skip
           refine wp_skip (x_normal (wp_seq (wp_region_lit (l_op (f_mv F159 rfl rfl rfl rfl rfl fun _ F174 => ?_)))))
           refine l_op (f_as F174 rfl rfl rfl rfl rfl fun _ F175 => ?_)
           refine s_end (x_normal (wp_ret ?_))
           refine x_done (v := .slice oa on oc) F175 (results_1 Tryz.results91 (.tmp (F175.ev 6 rfl))) ?_
           exact ⟨oa, on, oc, rfl, (Mv.cast (Mv.pick (S2.trans (S6.trans S34)) [0] rfl) (by rw [(show O = (putKey s key val) from by first | exact (List.nil_append _).trans (putKey_no (.inl (nt ‹_›))).symm | exact (List.nil_append _).trans (putKey_no (.inr (by omega))).symm | (rw [← putF_end hk_1 (by omega) (nf ‹_›) (by omega)]; first | rw [if_pos (nt ‹_›)] | rw [if_neg (ne_false_of_eq_true (nf ‹_›)), List.append_nil]))]; all_goals rfl))⟩
end Go.Proofs.YtipdbeklopjbmaaGreatDoor
/-
  Walks: a key is laid, a beginning is wiped.
-/

namespace Go.Proofs.YtipdbeklopjbmaaGreatDoor
open Go.ChangeShapes Go.WideShapes Go.ChangeAt Go.RowKit
set_option maxRecDepth 100000
set_option maxHeartbeats 1000000
end Go.Proofs.YtipdbeklopjbmaaGreatDoor
