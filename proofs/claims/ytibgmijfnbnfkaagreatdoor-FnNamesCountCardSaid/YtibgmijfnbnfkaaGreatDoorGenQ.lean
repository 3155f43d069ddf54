/-
  Walks: a key is put into a store, by the program and by the reference.
-/
import Derived.Test.YtibgmijfnbnfkaaGreatDoorGenP
namespace Go.Proofs.YtibgmijfnbnfkaaGreatDoor
open Go.ChangeShapes Go.WideShapes Go.ChangeAt Go.RowKit
set_option maxRecDepth 100000
set_option maxHeartbeats 1000000
theorem impl_put_c {w : World} {H : Nat → Prop} {s : List CellD} {s_a : Option Addr} {s_n s_c : Nat} {key : ByteArray} {val : ByteArray} (Q1 : okS key) (Q10 : okS val) (p0 : s.length ≤ 274877906944) (hA : At w [ow 73 2 encC okC (.slice s_a s_n s_c) s]) :
    Calls Tryz.prog 100 #[.slice s_a s_n s_c, .string key, .string val] w fun e w' => ∃ (r0_a : Option Addr), ∃ (r0_n : Nat), ∃ (r0_c : Nat), e = .returned (.slice r0_a r0_n r0_c) ∧ Mv [ow 73 2 encC okC (.slice s_a s_n s_c) s] w [ow 73 2 encC okC (.slice r0_a r0_n r0_c) (putKey s key val)] w' := by
 have uU : True := (fun _ _ => trivial) H p0
 clear uU
 obtain ⟨lo0, lp0, lq0⟩ := At.ownInv hA ET_24.hk 0 rfl
 refine calls_enter 37 Tryz.func100 rfl Tryz.ntmps100 (Nat.le_of_ble_eq_true rfl) (fun _ F0i => ?_)
 have F0 : Fr 37 [(0, .slice s_a s_n s_c), (1, .string key), (2, .string val)] _ := F0i
 clear F0i
 refine wp_seq (wp_region_lit (l_op (f_box F0 hA rfl rfl rfl (F0.ev 1 rfl) rfl rfl fun b1 _ w1 F2 S1 => ?_)))
 refine l_op (f_val F2 rfl rfl (r_assign rfl rfl) rfl fun _ F3 => ?_)
 refine s_end (x_normal (wp_seq (wp_seq (wp_region_lit (l_op (f_val (v := .string key) F3 rfl rfl (r_loadB S1.at' 0 TI_9 rfl rfl (F3.ev 4 rfl) rfl rfl (fun _ => rfl) rfl) rfl fun _ F4 => ?_))))))
 refine l_op (f_call F4 CF_116 rfl rfl rfl rfl (lc (F4.ev 8 rfl) rfl) (impl_KeyOk_c (H := fun _ => True) (key := key) Q1) ?_)
 rintro _ w5 ⟨rfl, m5⟩
 refine ⟨_, rfl, fun _ F6 => ?_⟩
 have S5 := At.frame0 S1.at' m5
 clear m5
 refine l_op (f_val F6 rfl rfl (r_not rfl (F6.ev 9 rfl)) rfl fun _ F7 => ?_)
 refine l_op (f_mv F7 rfl rfl rfl rfl rfl fun _ F8 => ?_)
 rcases Bool.eq_false_or_eq_true (!(keyOk key)) with h9 | h9
 · rw [h9] at F8
   refine l_op (f_skip F8 (wanted_g F8 rfl rfl rfl rfl) rfl rfl fun _ F10 => ?_)
   refine l_op (f_skip F10 (wanted_g F10 rfl rfl rfl rfl) rfl rfl fun _ F11 => ?_)
   refine l_op (f_skip F11 (wanted_g F11 rfl rfl rfl rfl) rfl rfl fun _ F12 => ?_)
   refine l_op (f_val F12 rfl rfl (r_pick (b := true) rfl (F12.ev 11 rfl) rfl) rfl fun _ F13 => ?_)
   refine s_end (x_normal (wp_cond_true (F13.ev 15 rfl) (wp_seq (wp_region_lit (l_op (f_mv F13 rfl rfl rfl rfl rfl fun _ F14 => ?_))))))
   refine l_op (f_as F14 rfl rfl rfl rfl rfl fun _ F15 => ?_)
   refine s_end (x_normal (wp_ret (x_then_ret ?_)))
   refine x_done (v := .slice s_a s_n s_c) F15 (results_1 Tryz.results100 (.tmp (F15.ev 6 rfl))) ?_
   exact ⟨s_a, s_n, s_c, rfl, (Mv.cast (Mv.pick (S1.trans S5) [1] rfl) (by rw [← (show s = (putKey s key val) from by first | exact (putKey_no (.inl (nt ‹_›))).symm | exact (putKey_no (.inr (by omega))).symm | exact (putKey_del (nf ‹_›) ‹_›).symm | (rw [putKey_ins (nf ‹_›) (by omega) ‹_›]; first | exact insK_at rfl (by omega) | exact insK_end (by omega) (by omega)))]; all_goals rfl))⟩
 · rw [h9] at F8
   refine l_op (f_mv F8 (wanted_g F8 rfl rfl rfl rfl) rfl rfl rfl rfl fun _ F16 => ?_)
   refine l_op (f_val F16 (wanted_g F16 rfl rfl rfl rfl) rfl (r_lenS (fun t ht => by cases ht; exact Tryz.underlying9) rfl rfl (F16.ev 12 rfl)) rfl fun _ F17 => ?_)
   refine l_op (f_val F17 (wanted_g F17 rfl rfl rfl rfl) rfl (r_cmp (b := decide (val.size > 60)) (.inr (.inr (.inr (.inr (.inl rfl))))) rfl (F17.ev 13 rfl) rfl (dec_of (by omega))) rfl fun _ F18 => ?_)
   refine l_op (f_val F18 rfl rfl (r_pick (b := false) rfl (F18.ev 11 rfl) (F18.ev 14 rfl)) rfl fun _ F19 => ?_)
   refine s_end (x_normal (x_cond (p := val.size > 60) (F19.ev 15 rfl) (fun h20 => ?_) (fun h20 => ?_)))
   · skip
     refine wp_seq (wp_region_lit (l_op (f_mv F19 rfl rfl rfl rfl rfl fun _ F21 => ?_)))
     refine l_op (f_as F21 rfl rfl rfl rfl rfl fun _ F22 => ?_)
     refine s_end (x_normal (wp_ret (x_then_ret ?_)))
     refine x_done (v := .slice s_a s_n s_c) F22 (results_1 Tryz.results100 (.tmp (F22.ev 6 rfl))) ?_
     exact ⟨s_a, s_n, s_c, rfl, (Mv.cast (Mv.pick (S1.trans S5) [1] rfl) (by rw [← (show s = (putKey s key val) from by first | exact (putKey_no (.inl (nt ‹_›))).symm | exact (putKey_no (.inr (by omega))).symm | exact (putKey_del (nf ‹_›) ‹_›).symm | (rw [putKey_ins (nf ‹_›) (by omega) ‹_›]; first | exact insK_at rfl (by omega) | exact insK_end (by omega) (by omega)))]; all_goals rfl))⟩
   · skip
     refine wp_skip (x_normal (wp_seq (wp_region_lit (l_op (f_mv F19 rfl rfl rfl rfl rfl fun _ F23 => ?_)))))
     refine l_op (f_val F23 rfl rfl (r_makeFuncL rfl (lc (F23.ev 4 rfl) rfl)) rfl fun _ F24 => ?_)
     refine l_op (f_call F24 CF_117 rfl rfl rfl rfl (lc (F24.ev 17 rfl) (lc (F24.ev 18 rfl) rfl)) (DeleteFunc_c (H := fun _ => True) (s := s) (del := key) Q1 (At.pick (is := [1, 0]) S5.at' rfl)) ?_)
     rintro _ w25 ⟨Q2, Q0, Q3, rfl, m25⟩
     refine ⟨_, rfl, fun _ F26 => ?_⟩
     have S25 : Mv _ _ [ow 73 2 encC okC (.slice Q2 Q0 Q3) (delKey s key), bx b1 [.string key] 9] _ := At.frame S5.at' [1, 0] rfl m25
     obtain ⟨Q11, Q14, Q17⟩ := At.ownInv S25.at' ET_24.hk 0 rfl
     clear m25
     refine l_op (f_as F26 rfl rfl rfl rfl rfl fun _ F27 => ?_)
     refine s_end (x_normal (wp_seq (wp_seq (wp_region_lit (l_op (f_mv F27 rfl rfl rfl rfl rfl fun _ F28 => ?_))))))
     refine l_op (f_val F28 rfl rfl (r_cmps (b := (decide (val = bE_))) (.inl rfl) rfl (F28.ev 20 rfl) rfl rfl) rfl fun _ F29 => ?_)
     refine s_end (x_normal (x_cond (p := val = bE_) (F29.ev 21 rfl) (fun h30 => ?_) (fun h30 => ?_)))
     · skip
       refine wp_seq (wp_region_lit (l_op (f_mv F29 rfl rfl rfl rfl rfl fun _ F31 => ?_)))
       refine l_op (f_as F31 rfl rfl rfl rfl rfl fun _ F32 => ?_)
       refine s_end (x_normal (wp_ret (x_then_ret ?_)))
       refine x_done (v := .slice Q2 Q0 Q3) F32 (results_1 Tryz.results100 (.tmp (F32.ev 6 rfl))) ?_
       exact ⟨Q2, Q0, Q3, rfl, (Mv.cast (Mv.pick (S1.trans (S5.trans S25)) [0] rfl) (by rw [(show (delKey s key) = (putKey s key val) from by first | exact (putKey_no (.inl (nt ‹_›))).symm | exact (putKey_no (.inr (by omega))).symm | exact (putKey_del (nf ‹_›) ‹_›).symm | (rw [putKey_ins (nf ‹_›) (by omega) ‹_›]; first | exact insK_at rfl (by omega) | exact insK_end (by omega) (by omega)))]; all_goals rfl))⟩
     · skip
       refine wp_skip (x_normal (wp_seq (wp_region_lit (l_op (f_mv F29 rfl rfl rfl rfl rfl fun _ F33 => ?_)))))
       refine l_op (f_val F33 rfl rfl (r_makeFuncL rfl (lc (F33.ev 4 rfl) rfl)) rfl fun _ F34 => ?_)
       refine l_op (f_call F34 CF_119 rfl rfl rfl rfl (lc (F34.ev 23 rfl) (lc (F34.ev 24 rfl) rfl)) (IndexFunc_impl_put_2_c (H := fun b => ¬ fps (sel [ow 73 2 encC okC (.slice Q2 Q0 Q3) (delKey s key), bx b1 [.string key] 9] [1]) b) (s := delKey s key) (f := key) (At.rdOff S25.at' ET_24.hk 0 rfl [1] rfl) Q1 (At.pick (is := [1]) S25.at' rfl) (fun _ h => h)) ?_)
       rintro _ w35 ⟨rfl, m35, q35_0⟩
       refine ⟨_, rfl, fun _ F36 => ?_⟩
       have S35 : Mv _ _ [bx b1 [.string key] 9, ow 73 2 encC okC (.slice Q2 Q0 Q3) (delKey s key)] _ := At.frame S25.at' [1] rfl m35
       clear m35
       refine l_op (f_as F36 rfl rfl rfl rfl rfl fun _ F37 => ?_)
       refine s_end (x_normal (wp_seq (wp_seq (wp_region_lit (l_op (f_mv F37 rfl rfl rfl rfl rfl fun _ F38 => ?_))))))
       refine l_op (f_val F38 rfl rfl (r_cmp (b := decide ((idxP (fun c : CellD => !leS c.key key) (delKey s key)) < 0)) (.inr (.inr (.inl rfl))) rfl (F38.ev 26 rfl) rfl (dec_of (by omega))) rfl fun _ F39 => ?_)
       refine s_end (x_normal (x_cond (p := (idxP (fun c : CellD => !leS c.key key) (delKey s key)) < 0) (F39.ev 27 rfl) (fun h40 => ?_) (fun h40 => ?_)))
       · skip
         refine wp_region_lit (l_op (f_mv F39 rfl rfl rfl rfl rfl fun _ F41 => ?_))
         refine l_op (f_val F41 rfl rfl (r_len Tryz.underlying24 rfl (F41.ev 28 rfl)) rfl fun _ F42 => ?_)
         refine l_op (f_as F42 rfl rfl rfl rfl rfl fun _ F43 => ?_)
         refine s_end (x_normal (wp_seq (wp_region_lit (l_op (f_mv F43 rfl rfl rfl rfl rfl fun _ F44 => ?_)))))
         refine l_op (f_mv F44 rfl rfl rfl rfl rfl fun _ F45 => ?_)
         refine l_op (f_val (v := .string key) F45 rfl rfl (r_loadB S35.at' 0 TI_9 rfl rfl (F45.ev 4 rfl) rfl rfl (fun _ => rfl) rfl) rfl fun _ F46 => ?_)
         refine l_op (f_mv F46 rfl rfl rfl rfl rfl fun _ F47 => ?_)
         refine l_op (f_val (v := .agg #[.string key, .string val]) F47 rfl rfl (r_build BI_73 rfl (lc (pr2 (F47.ev 32 rfl)) (lc (pr2 (F47.ev 33 rfl)) rfl)) rfl) rfl fun _ F48 => ?_)
         refine l_op (f_buildSl (ok := okC) (vs := [.agg #[.string key, .string val]]) F48 S35.at' ([(⟨key, val⟩ : CellD)]) ET_24 rfl rfl rfl rfl rfl rfl (lc (pr2 (F48.ev 34 rfl)) rfl) rfl rfl (fun x hx => (List.mem_singleton.1 hx) ▸ ⟨Q1, Q10⟩) fun b49 _ w49 F50 S49 => ?_)
         refine l_op (f_call F50 CF_121 rfl rfl rfl rfl (lc (F50.ev 30 rfl) (lc (F50.ev 31 rfl) (lc (F50.ev 35 rfl) rfl))) (slices_Insert_Simpl_Cell_impl_Cell_c (H := fun _ => True) (s := delKey s key) (i := ((Q0 : Nat) : Int)) (v := (⟨key, val⟩ : CellD)) (by first | assumption | exact ⟨by omega, by omega⟩ | (unfold i64ok at *; omega)) (by have := idxP_bd (fun c : CellD => !leS c.key key) (delKey s key); have := delKey_length s key; omega) (by have := idxP_bd (fun c : CellD => !leS c.key key) (delKey s key); have := delKey_length s key; omega) (by have := idxP_bd (fun c : CellD => !leS c.key key) (delKey s key); have := delKey_length s key; omega) (At.pick (is := [2, 0]) S49.at' rfl)) ?_)
         rintro _ w51 ⟨Q4, Q8, Q6, rfl, m51⟩
         refine ⟨_, rfl, fun _ F52 => ?_⟩
         have S51 : Mv _ _ [ow 73 2 encC okC (.slice Q4 Q8 Q6) (insAt (delKey s key) ((Q0 : Nat) : Int).toNat (⟨key, val⟩ : CellD)), bx b1 [.string key] 9] _ := At.frame S49.at' [2, 0] rfl m51
         obtain ⟨Q12, Q15, Q18⟩ := At.ownInv S51.at' ET_24.hk 0 rfl
         clear m51
         refine l_op (f_as F52 rfl rfl rfl rfl rfl fun _ F53 => ?_)
         refine s_end (x_normal (wp_ret ?_))
         refine x_done (v := .slice Q4 Q8 Q6) F53 (results_1 Tryz.results100 (.tmp (F53.ev 6 rfl))) ?_
         exact ⟨Q4, Q8, Q6, rfl, (Mv.cast (Mv.pick (S1.trans (S5.trans (S25.trans (S35.trans (S49.trans S51))))) [0] rfl) (by rw [(show (insAt (delKey s key) ((Q0 : Nat) : Int).toNat (⟨key, val⟩ : CellD)) = (putKey s key val) from by first | exact (putKey_no (.inl (nt ‹_›))).symm | exact (putKey_no (.inr (by omega))).symm | exact (putKey_del (nf ‹_›) ‹_›).symm | (rw [putKey_ins (nf ‹_›) (by omega) ‹_›]; first | exact insK_at rfl (by omega) | exact insK_end (by omega) (by omega)))]; all_goals rfl))⟩
       · skip
         refine wp_skip (x_normal (wp_seq (wp_region_lit (l_op (f_mv F39 rfl rfl rfl rfl rfl fun _ F54 => ?_)))))
         refine l_op (f_mv F54 rfl rfl rfl rfl rfl fun _ F55 => ?_)
         refine l_op (f_val (v := .string key) F55 rfl rfl (r_loadB S35.at' 0 TI_9 rfl rfl (F55.ev 4 rfl) rfl rfl (fun _ => rfl) rfl) rfl fun _ F56 => ?_)
         refine l_op (f_mv F56 rfl rfl rfl rfl rfl fun _ F57 => ?_)
         refine l_op (f_val (v := .agg #[.string key, .string val]) F57 rfl rfl (r_build BI_73 rfl (lc (pr2 (F57.ev 32 rfl)) (lc (pr2 (F57.ev 33 rfl)) rfl)) rfl) rfl fun _ F58 => ?_)
         refine l_op (f_buildSl (ok := okC) (vs := [.agg #[.string key, .string val]]) F58 S35.at' ([(⟨key, val⟩ : CellD)]) ET_24 rfl rfl rfl rfl rfl rfl (lc (pr2 (F58.ev 34 rfl)) rfl) rfl rfl (fun x hx => (List.mem_singleton.1 hx) ▸ ⟨Q1, Q10⟩) fun b59 _ w59 F60 S59 => ?_)
         refine l_op (f_call F60 CF_121 rfl rfl rfl rfl (lc (F60.ev 30 rfl) (lc (F60.ev 31 rfl) (lc (F60.ev 35 rfl) rfl))) (slices_Insert_Simpl_Cell_impl_Cell_c (H := fun _ => True) (s := delKey s key) (i := (idxP (fun c : CellD => !leS c.key key) (delKey s key))) (v := (⟨key, val⟩ : CellD)) (by first | assumption | exact ⟨by omega, by omega⟩ | (unfold i64ok at *; omega)) (by have := idxP_bd (fun c : CellD => !leS c.key key) (delKey s key); have := delKey_length s key; omega) (by have := idxP_bd (fun c : CellD => !leS c.key key) (delKey s key); have := delKey_length s key; omega) (by have := idxP_bd (fun c : CellD => !leS c.key key) (delKey s key); have := delKey_length s key; omega) (At.pick (is := [2, 0]) S59.at' rfl)) ?_)
         rintro _ w61 ⟨Q5, Q9, Q7, rfl, m61⟩
         refine ⟨_, rfl, fun _ F62 => ?_⟩
         have S61 : Mv _ _ [ow 73 2 encC okC (.slice Q5 Q9 Q7) (insAt (delKey s key) (idxP (fun c : CellD => !leS c.key key) (delKey s key)).toNat (⟨key, val⟩ : CellD)), bx b1 [.string key] 9] _ := At.frame S59.at' [2, 0] rfl m61
         obtain ⟨Q13, Q16, Q19⟩ := At.ownInv S61.at' ET_24.hk 0 rfl
         clear m61
         refine l_op (f_as F62 rfl rfl rfl rfl rfl fun _ F63 => ?_)
         refine s_end (x_normal (wp_ret ?_))
         refine x_done (v := .slice Q5 Q9 Q7) F63 (results_1 Tryz.results100 (.tmp (F63.ev 6 rfl))) ?_
         exact ⟨Q5, Q9, Q7, rfl, (Mv.cast (Mv.pick (S1.trans (S5.trans (S25.trans (S35.trans (S59.trans S61))))) [0] rfl) (by rw [(show (insAt (delKey s key) (idxP (fun c : CellD => !leS c.key key) (delKey s key)).toNat (⟨key, val⟩ : CellD)) = (putKey s key val) from by first | exact (putKey_no (.inl (nt ‹_›))).symm | exact (putKey_no (.inr (by omega))).symm | exact (putKey_del (nf ‹_›) ‹_›).symm | (rw [putKey_ins (nf ‹_›) (by omega) ‹_›]; first | exact insK_at rfl (by omega) | exact insK_end (by omega) (by omega)))]; all_goals rfl))⟩
end Go.Proofs.YtibgmijfnbnfkaaGreatDoor
