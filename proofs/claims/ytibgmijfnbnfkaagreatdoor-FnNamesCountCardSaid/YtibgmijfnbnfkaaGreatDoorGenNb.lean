/-
  Walks: a number is set.
-/
import Derived.Test.YtibgmijfnbnfkaaGreatDoorGenNa
namespace Go.Proofs.YtibgmijfnbnfkaaGreatDoor
open Go.ChangeShapes Go.WideShapes Go.ChangeAt Go.RowKit
set_option maxRecDepth 100000
set_option maxHeartbeats 1000000
theorem impl_Mach_setNum_c {w : World} {H : Nat → Prop} {m : MachD} {m_Sa : Option Addr} {m_Sn m_Sc : Nat} {m_Ra : Option Addr} {m_Rn m_Rc : Nat} {m_Wa : Option Addr} {m_Wn m_Wc : Nat} {m_b : Nat} {key : ByteArray} {n : Int} (Q18 : okS key) (h_n : i64ok n) (tab0 : Tb 0 H w) (p0 : bdC 137438953472 m) (hA : At w [bx m_b [.slice m_Sa m_Sn m_Sc, .slice m_Ra m_Rn m_Rc, .slice m_Wa m_Wn m_Wc] 29, ow 73 2 encC okC (.slice m_Sa m_Sn m_Sc) m.store, ow 9 1 encS okS (.slice m_Ra m_Rn m_Rc) m.touch.reads, ow 9 1 encS okS (.slice m_Wa m_Wn m_Wc) m.touch.writes]) (hD : ∀ b, H b → ¬ fps [bx m_b [.slice m_Sa m_Sn m_Sc, .slice m_Ra m_Rn m_Rc, .slice m_Wa m_Wn m_Wc] 29, ow 73 2 encC okC (.slice m_Sa m_Sn m_Sc) m.store, ow 9 1 encS okS (.slice m_Ra m_Rn m_Rc) m.touch.reads, ow 9 1 encS okS (.slice m_Wa m_Wn m_Wc) m.touch.writes] b) :
    Calls Tryz.prog 91 #[.pointer (some ⟨m_b, 0, none⟩), .string key, .int .i64 n] w fun e w' => ∃ (Q22 : Option Addr), ∃ (Q24 : Nat), ∃ (Q23 : Nat), ∃ (Q19 : Option Addr), ∃ (Q21 : Nat), ∃ (Q20 : Nat), ∃ (Q25 : Option Addr), ∃ (Q27 : Nat), ∃ (Q26 : Nat), e = .returned (.tuple #[]) ∧ Mv [bx m_b [.slice m_Sa m_Sn m_Sc, .slice m_Ra m_Rn m_Rc, .slice m_Wa m_Wn m_Wc] 29, ow 73 2 encC okC (.slice m_Sa m_Sn m_Sc) m.store, ow 9 1 encS okS (.slice m_Ra m_Rn m_Rc) m.touch.reads, ow 9 1 encS okS (.slice m_Wa m_Wn m_Wc) m.touch.writes] w [bx m_b [.slice Q22 Q24 Q23, .slice Q19 Q21 Q20, .slice Q25 Q27 Q26] 29, ow 73 2 encC okC (.slice Q22 Q24 Q23) (setM m key n).store, ow 9 1 encS okS (.slice Q19 Q21 Q20) (setM m key n).touch.reads, ow 9 1 encS okS (.slice Q25 Q27 Q26) (setM m key n).touch.writes] w' := by
 have uU : True := (fun _ => trivial) p0
 clear uU
 have V_tab0 : Tb 0 (V H w [bx m_b [.slice m_Sa m_Sn m_Sc, .slice m_Ra m_Rn m_Rc, .slice m_Wa m_Wn m_Wc] 29, ow 73 2 encC okC (.slice m_Sa m_Sn m_Sc) m.store, ow 9 1 encS okS (.slice m_Ra m_Rn m_Rc) m.touch.reads, ow 9 1 encS okS (.slice m_Wa m_Wn m_Wc) m.touch.writes]) w := Tb.start tab0 hD
 obtain ⟨lo1, lp1, lq1⟩ := At.ownInv hA ET_24.hk 1 rfl
 obtain ⟨lo2, lp2, lq2⟩ := At.ownInv hA ET_25.hk 2 rfl
 obtain ⟨lo3, lp3, lq3⟩ := At.ownInv hA ET_25.hk 3 rfl
 refine calls_enter 15 Tryz.func91 rfl Tryz.ntmps91 (Nat.le_of_ble_eq_true rfl) (fun _ F0i => ?_)
 have F0 : Fr 15 [(0, .pointer (some ⟨m_b, 0, none⟩)), (1, .string key), (2, .int .i64 n)] _ := F0i
 clear F0i
 refine wp_seq (wp_region_lit (l_op (f_val F0 rfl rfl (r_assign rfl rfl) rfl fun _ F1 => ?_)))
 refine s_end (x_normal (wp_seq (wp_seq (wp_region_lit (l_op (f_mv F1 rfl rfl rfl rfl rfl fun _ F2 => ?_))))))
 refine l_op (f_call F2 CF_72 rfl rfl rfl rfl (lc (F2.ev 7 rfl) (lc rfl (lc rfl rfl))) (impl_within_c (H := fun _ => True) (n := n) (low := 1) (high := 999) h_n (by first | assumption | exact ⟨by omega, by omega⟩ | (unfold i64ok at *; omega)) (by first | assumption | exact ⟨by omega, by omega⟩ | (unfold i64ok at *; omega))) ?_)
 rintro _ w3 ⟨rfl, m3⟩
 refine ⟨_, rfl, fun _ F4 => ?_⟩
 have S3 := At.frame0 hA m3
 clear m3
 refine s_end (x_normal (x_condb (b := (inB n 1 999)) (F4.ev 8 rfl) (fun h5 => ?_) (fun h5 => ?_)))
 · skip
   refine wp_region_lit (l_op (f_mv F4 rfl rfl rfl rfl rfl fun _ F6 => ?_))
   refine l_op (f_call F6 CF_63 rfl rfl rfl rfl (lc (F6.ev 9 rfl) rfl) (impl_Decimal_c (n := n) h_n (Tb.mv V_tab0 S3)) ?_)
   rintro _ w7 ⟨rfl, m7, Q28⟩
   refine ⟨_, rfl, fun _ F8 => ?_⟩
   have S7 := At.frame0 S3.at' m7
   clear m7
   refine l_op (f_as F8 rfl rfl rfl rfl rfl fun _ F9 => ?_)
   refine s_end (x_normal (wp_region_lit (l_op (f_mv F9 rfl rfl rfl rfl rfl fun _ F10 => ?_))))
   refine l_op (f_mv F10 rfl rfl rfl rfl rfl fun _ F11 => ?_)
   refine l_op (f_mv F11 rfl rfl rfl rfl rfl fun _ F12 => ?_)
   refine l_op (f_call F12 CF_74 rfl rfl rfl rfl (lc (F12.ev 11 rfl) (lc (F12.ev 12 rfl) (lc (F12.ev 13 rfl) rfl))) (impl_Mach_lay_c (H := fun _ => True) (m := m) (key := key) (val := decS n) Q18 Q28 (by first | assumption | omega | ((repeat first | apply b1_ | apply b2_ | apply b3_ | apply b4_ | apply b5_ | apply b6_); exact bdC.le ‹_› (by decide)) | decide | exact Nat.le_trans (keyNum_size _ _ ‹_›) (by decide)) (by first | assumption | omega | ((repeat first | apply b1_ | apply b2_ | apply b3_ | apply b4_ | apply b5_ | apply b6_); exact bdC.le ‹_› (by decide)) | decide | exact Nat.le_trans (keyNum_size _ _ ‹_›) (by decide)) (At.pick (is := [0, 1, 2, 3]) S7.at' rfl)) ?_)
   rintro _ w13 ⟨Q6, Q10, Q8, Q0, Q4, Q2, Q12, Q16, Q14, rfl, m13⟩
   refine ⟨_, rfl, fun _ F14 => ?_⟩
   have S13 : Mv _ _ [bx m_b [.slice Q6 Q10 Q8, .slice Q0 Q4 Q2, .slice Q12 Q16 Q14] 29, ow 73 2 encC okC (.slice Q6 Q10 Q8) (layM m key (decS n)).store, ow 9 1 encS okS (.slice Q0 Q4 Q2) (layM m key (decS n)).touch.reads, ow 9 1 encS okS (.slice Q12 Q16 Q14) (layM m key (decS n)).touch.writes] _ := At.frame S7.at' [0, 1, 2, 3] rfl m13
   obtain ⟨Q29, Q35, Q41⟩ := At.ownInv S13.at' ET_24.hk 1 rfl
   obtain ⟨Q30, Q36, Q42⟩ := At.ownInv S13.at' ET_25.hk 2 rfl
   obtain ⟨Q31, Q37, Q43⟩ := At.ownInv S13.at' ET_25.hk 3 rfl
   clear m13
   refine s_end ?_
   refine x_done_end (v := .tuple #[]) F14 (results_0 Tryz.results91) ?_
   exact ⟨Q6, Q10, Q8, Q0, Q4, Q2, Q12, Q16, Q14, rfl, (Mv.cast (Mv.pick (S3.trans (S7.trans S13)) [0, 1, 2, 3] rfl) (by rw [(show (layM m key (decS n)).store = (setM m key n).store from by unfold setM; first | rw [numV_t ‹_›] | rw [numV_f ‹_›]), (show (layM m key (decS n)).touch.reads = (setM m key n).touch.reads from by unfold setM; first | rw [numV_t ‹_›] | rw [numV_f ‹_›]), (show (layM m key (decS n)).touch.writes = (setM m key n).touch.writes from by unfold setM; first | rw [numV_t ‹_›] | rw [numV_f ‹_›])]; all_goals rfl))⟩
 · skip
   refine wp_skip (x_normal (wp_region_lit (l_op (f_mv F4 rfl rfl rfl rfl rfl fun _ F15 => ?_))))
   refine l_op (f_mv F15 rfl rfl rfl rfl rfl fun _ F16 => ?_)
   refine l_op (f_mv F16 rfl rfl rfl rfl rfl fun _ F17 => ?_)
   refine l_op (f_call F17 CF_74 rfl rfl rfl rfl (lc (F17.ev 11 rfl) (lc (F17.ev 12 rfl) (lc (F17.ev 13 rfl) rfl))) (impl_Mach_lay_c (H := fun _ => True) (m := m) (key := key) (val := bE_) Q18 (by unfold okS; decide) (by first | assumption | omega | ((repeat first | apply b1_ | apply b2_ | apply b3_ | apply b4_ | apply b5_ | apply b6_); exact bdC.le ‹_› (by decide)) | decide | exact Nat.le_trans (keyNum_size _ _ ‹_›) (by decide)) (by first | assumption | omega | ((repeat first | apply b1_ | apply b2_ | apply b3_ | apply b4_ | apply b5_ | apply b6_); exact bdC.le ‹_› (by decide)) | decide | exact Nat.le_trans (keyNum_size _ _ ‹_›) (by decide)) (At.pick (is := [0, 1, 2, 3]) S3.at' rfl)) ?_)
   rintro _ w18 ⟨Q7, Q11, Q9, Q1, Q5, Q3, Q13, Q17, Q15, rfl, m18⟩
   refine ⟨_, rfl, fun _ F19 => ?_⟩
   have S18 : Mv _ _ [bx m_b [.slice Q7 Q11 Q9, .slice Q1 Q5 Q3, .slice Q13 Q17 Q15] 29, ow 73 2 encC okC (.slice Q7 Q11 Q9) (layM m key bE_).store, ow 9 1 encS okS (.slice Q1 Q5 Q3) (layM m key bE_).touch.reads, ow 9 1 encS okS (.slice Q13 Q17 Q15) (layM m key bE_).touch.writes] _ := At.frame S3.at' [0, 1, 2, 3] rfl m18
   obtain ⟨Q32, Q38, Q44⟩ := At.ownInv S18.at' ET_24.hk 1 rfl
   obtain ⟨Q33, Q39, Q45⟩ := At.ownInv S18.at' ET_25.hk 2 rfl
   obtain ⟨Q34, Q40, Q46⟩ := At.ownInv S18.at' ET_25.hk 3 rfl
   clear m18
   refine s_end ?_
   refine x_done_end (v := .tuple #[]) F19 (results_0 Tryz.results91) ?_
   exact ⟨Q7, Q11, Q9, Q1, Q5, Q3, Q13, Q17, Q15, rfl, (Mv.cast (Mv.pick (S3.trans S18) [0, 1, 2, 3] rfl) (by rw [(show (layM m key bE_).store = (setM m key n).store from by unfold setM; first | rw [numV_t ‹_›] | rw [numV_f ‹_›]), (show (layM m key bE_).touch.reads = (setM m key n).touch.reads from by unfold setM; first | rw [numV_t ‹_›] | rw [numV_f ‹_›]), (show (layM m key bE_).touch.writes = (setM m key n).touch.writes from by unfold setM; first | rw [numV_t ‹_›] | rw [numV_f ‹_›])]; all_goals rfl))⟩
end Go.Proofs.YtibgmijfnbnfkaaGreatDoor
