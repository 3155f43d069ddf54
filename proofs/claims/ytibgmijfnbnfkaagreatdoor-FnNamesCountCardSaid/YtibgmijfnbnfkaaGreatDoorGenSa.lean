/-
  Walks: counters.
-/
import Derived.Test.YtibgmijfnbnfkaaGreatDoorGenRa
import Derived.Test.YtibgmijfnbnfkaaGreatDoorDatV
namespace Go.Proofs.YtibgmijfnbnfkaaGreatDoor
open Go.ChangeShapes Go.WideShapes Go.ChangeAt Go.RowKit
set_option maxRecDepth 100000
set_option maxHeartbeats 1000000
theorem impl_Mach_bump_c {w : World} {H : Nat → Prop} {m : MachD} {m_Sa : Option Addr} {m_Sn m_Sc : Nat} {m_Ra : Option Addr} {m_Rn m_Rc : Nat} {m_Wa : Option Addr} {m_Wn m_Wc : Nat} {m_b : Nat} {key : ByteArray} (Q18 : okS key) (tab0 : Tb 0 H w) (tab1 : Tb 1 H w) (p0 : bdC 34359738368 m) (hA : At w [bx m_b [.slice m_Sa m_Sn m_Sc, .slice m_Ra m_Rn m_Rc, .slice m_Wa m_Wn m_Wc] 29, ow 73 2 encC okC (.slice m_Sa m_Sn m_Sc) m.store, ow 9 1 encS okS (.slice m_Ra m_Rn m_Rc) m.touch.reads, ow 9 1 encS okS (.slice m_Wa m_Wn m_Wc) m.touch.writes]) (hD : ∀ b, H b → ¬ fps [bx m_b [.slice m_Sa m_Sn m_Sc, .slice m_Ra m_Rn m_Rc, .slice m_Wa m_Wn m_Wc] 29, ow 73 2 encC okC (.slice m_Sa m_Sn m_Sc) m.store, ow 9 1 encS okS (.slice m_Ra m_Rn m_Rc) m.touch.reads, ow 9 1 encS okS (.slice m_Wa m_Wn m_Wc) m.touch.writes] b) :
    Calls Tryz.prog 90 #[.pointer (some ⟨m_b, 0, none⟩), .string key] w fun e w' => ∃ (Q22 : Option Addr), ∃ (Q24 : Nat), ∃ (Q23 : Nat), ∃ (Q19 : Option Addr), ∃ (Q21 : Nat), ∃ (Q20 : Nat), ∃ (Q25 : Option Addr), ∃ (Q27 : Nat), ∃ (Q26 : Nat), e = .returned (.int .i64 ((bumpN m key : Nat) : Int)) ∧ Mv [bx m_b [.slice m_Sa m_Sn m_Sc, .slice m_Ra m_Rn m_Rc, .slice m_Wa m_Wn m_Wc] 29, ow 73 2 encC okC (.slice m_Sa m_Sn m_Sc) m.store, ow 9 1 encS okS (.slice m_Ra m_Rn m_Rc) m.touch.reads, ow 9 1 encS okS (.slice m_Wa m_Wn m_Wc) m.touch.writes] w [bx m_b [.slice Q22 Q24 Q23, .slice Q19 Q21 Q20, .slice Q25 Q27 Q26] 29, ow 73 2 encC okC (.slice Q22 Q24 Q23) (bumpM m key).store, ow 9 1 encS okS (.slice Q19 Q21 Q20) (bumpM m key).touch.reads, ow 9 1 encS okS (.slice Q25 Q27 Q26) (bumpM m key).touch.writes] w' := by
 have uU : True := (fun _ => trivial) p0
 clear uU
 have hnl := numOf_le (getKey m.store key)
 have V_tab0 : Tb 0 (V H w [bx m_b [.slice m_Sa m_Sn m_Sc, .slice m_Ra m_Rn m_Rc, .slice m_Wa m_Wn m_Wc] 29, ow 73 2 encC okC (.slice m_Sa m_Sn m_Sc) m.store, ow 9 1 encS okS (.slice m_Ra m_Rn m_Rc) m.touch.reads, ow 9 1 encS okS (.slice m_Wa m_Wn m_Wc) m.touch.writes]) w := Tb.start tab0 hD
 have V_tab1 : Tb 1 (V H w [bx m_b [.slice m_Sa m_Sn m_Sc, .slice m_Ra m_Rn m_Rc, .slice m_Wa m_Wn m_Wc] 29, ow 73 2 encC okC (.slice m_Sa m_Sn m_Sc) m.store, ow 9 1 encS okS (.slice m_Ra m_Rn m_Rc) m.touch.reads, ow 9 1 encS okS (.slice m_Wa m_Wn m_Wc) m.touch.writes]) w := Tb.start tab1 hD
 obtain ⟨lo1, lp1, lq1⟩ := At.ownInv hA ET_24.hk 1 rfl
 obtain ⟨lo2, lp2, lq2⟩ := At.ownInv hA ET_25.hk 2 rfl
 obtain ⟨lo3, lp3, lq3⟩ := At.ownInv hA ET_25.hk 3 rfl
 refine calls_enter 17 Tryz.func90 rfl Tryz.ntmps90 (Nat.le_of_ble_eq_true rfl) (fun _ F0i => ?_)
 have F0 : Fr 17 [(0, .pointer (some ⟨m_b, 0, none⟩)), (1, .string key)] _ := F0i
 clear F0i
 refine wp_seq (wp_region_lit (l_op (f_val F0 rfl rfl (r_assign rfl rfl) rfl fun _ F1 => ?_)))
 refine s_end (x_normal (wp_seq (wp_region_lit (l_op (f_mv F1 rfl rfl rfl rfl rfl fun _ F2 => ?_)))))
 refine l_op (f_mv F2 rfl rfl rfl rfl rfl fun _ F3 => ?_)
 refine l_op (f_call F3 CF_62 rfl rfl rfl rfl (lc (F3.ev 6 rfl) (lc (F3.ev 7 rfl) rfl)) (impl_Mach_num_c (m := m) (key := key) Q18 V_tab0 V_tab1 (by first | assumption | omega | ((first | apply b1_ | apply b2_ | apply b3_ | skip); (repeat (first | with_reducible apply b4_ | with_reducible apply b5_ | with_reducible apply b6_ | with_reducible refine bdC.bump ?_)); exact bdC.le ‹_› (by first | decide | omega)) | decide | exact Nat.le_trans (keyNum_size _ _ ‹_›) (by decide) | exact Nat.le_trans (keyNum_size _ _ ⟨by omega, by omega⟩) (by decide)) (At.pick (is := [0, 1, 2, 3]) hA rfl) (V_off (is := [0, 1, 2, 3]))) ?_)
 rintro _ w4 ⟨Q7, Q11, Q9, Q1, Q5, Q3, Q13, Q17, Q15, rfl, m4⟩
 refine ⟨_, rfl, fun _ F5 => ?_⟩
 have S4 : Mv _ _ [bx m_b [.slice Q7 Q11 Q9, .slice Q1 Q5 Q3, .slice Q13 Q17 Q15] 29, ow 73 2 encC okC (.slice Q7 Q11 Q9) (lookM m key).store, ow 9 1 encS okS (.slice Q1 Q5 Q3) (lookM m key).touch.reads, ow 9 1 encS okS (.slice Q13 Q17 Q15) (lookM m key).touch.writes] _ := At.frame hA [0, 1, 2, 3] rfl m4
 obtain ⟨Q31, Q37, Q43⟩ := At.ownInv S4.at' ET_24.hk 1 rfl
 obtain ⟨Q32, Q38, Q44⟩ := At.ownInv S4.at' ET_25.hk 2 rfl
 obtain ⟨Q33, Q39, Q45⟩ := At.ownInv S4.at' ET_25.hk 3 rfl
 clear m4
 refine l_op (f_val F5 rfl rfl (r_add (z := (((numOf (getKey m.store key)) + 1 : Nat) : Int)) rfl (F5.ev 8 rfl) rfl (by first | rfl | omega) ⟨by first | omega | (unfold i64ok at *; omega), by first | omega | (unfold i64ok at *; omega)⟩) rfl fun _ F6 => ?_)
 refine l_op (f_as F6 rfl rfl rfl rfl rfl fun _ F7 => ?_)
 refine s_end (x_normal (wp_seq (wp_seq (wp_region_lit (l_op (f_mv F7 rfl rfl rfl rfl rfl fun _ F8 => ?_))))))
 refine l_op (f_val F8 rfl rfl (r_cmp (b := decide ((numOf (getKey m.store key)) + 1 > 999)) (.inr (.inr (.inr (.inr (.inl rfl))))) rfl (F8.ev 10 rfl) rfl (dec_of (by omega))) rfl fun _ F9 => ?_)
 refine s_end (x_normal (x_cond (p := (numOf (getKey m.store key)) + 1 > 999) (F9.ev 11 rfl) (fun h10 => ?_) (fun h10 => ?_)))
 · skip
   refine wp_seq (wp_region_lit (l_op (f_val F9 rfl rfl (r_assign rfl rfl) rfl fun _ F11 => ?_)))
   refine s_end (x_normal (wp_ret (x_then_ret ?_)))
   refine x_done (v := .int .i64 0) F11 (results_1 Tryz.results90 (.tmp (F11.ev 4 rfl))) ?_
   exact ⟨Q7, Q11, Q9, Q1, Q5, Q3, Q13, Q17, Q15, (by rw [(show 0 = ((bumpN m key : Nat) : Int) from by first | exact bumpN_t ‹_› | exact bumpN_f ‹_› | rw [bumpM_t ‹_›] | rw [bumpM_f ‹_›])]), (Mv.cast (Mv.pick S4 [0, 1, 2, 3] rfl) (by rw [(show (lookM m key).store = (bumpM m key).store from by first | exact bumpN_t ‹_› | exact bumpN_f ‹_› | rw [bumpM_t ‹_›] | rw [bumpM_f ‹_›]), (show (lookM m key).touch.reads = (bumpM m key).touch.reads from by first | exact bumpN_t ‹_› | exact bumpN_f ‹_› | rw [bumpM_t ‹_›] | rw [bumpM_f ‹_›]), (show (lookM m key).touch.writes = (bumpM m key).touch.writes from by first | exact bumpN_t ‹_› | exact bumpN_f ‹_› | rw [bumpM_t ‹_›] | rw [bumpM_f ‹_›])]; all_goals rfl))⟩
 · skip
   refine wp_skip (x_normal (wp_seq (wp_region_lit (l_op (f_mv F9 rfl rfl rfl rfl rfl fun _ F12 => ?_)))))
   refine l_op (f_mv F12 rfl rfl rfl rfl rfl fun _ F13 => ?_)
   refine l_op (f_mv F13 rfl rfl rfl rfl rfl fun _ F14 => ?_)
   refine l_op (f_call F14 CF_91 rfl rfl rfl rfl (lc (F14.ev 12 rfl) (lc (F14.ev 13 rfl) (lc (F14.ev 14 rfl) rfl))) (impl_Mach_setNum_c (m := (lookM m key)) (key := key) (n := (((numOf (getKey m.store key)) + 1 : Nat) : Int)) Q18 (by first | assumption | exact ⟨by omega, by omega⟩ | (unfold i64ok at *; omega)) (Tb.mv V_tab0 S4) (by first | assumption | omega | ((first | apply b1_ | apply b2_ | apply b3_ | skip); (repeat (first | with_reducible apply b4_ | with_reducible apply b5_ | with_reducible apply b6_ | with_reducible refine bdC.bump ?_)); exact bdC.le ‹_› (by first | decide | omega)) | decide | exact Nat.le_trans (keyNum_size _ _ ‹_›) (by decide) | exact Nat.le_trans (keyNum_size _ _ ⟨by omega, by omega⟩) (by decide)) (At.pick (is := [0, 1, 2, 3]) S4.at' rfl) (V_off (is := [0, 1, 2, 3]))) ?_)
   rintro _ w15 ⟨Q6, Q10, Q8, Q0, Q4, Q2, Q12, Q16, Q14, rfl, m15⟩
   refine ⟨_, rfl, fun _ F16 => ?_⟩
   have S15 : Mv _ _ [bx m_b [.slice Q6 Q10 Q8, .slice Q0 Q4 Q2, .slice Q12 Q16 Q14] 29, ow 73 2 encC okC (.slice Q6 Q10 Q8) (setM (lookM m key) key (((numOf (getKey m.store key)) + 1 : Nat) : Int)).store, ow 9 1 encS okS (.slice Q0 Q4 Q2) (setM (lookM m key) key (((numOf (getKey m.store key)) + 1 : Nat) : Int)).touch.reads, ow 9 1 encS okS (.slice Q12 Q16 Q14) (setM (lookM m key) key (((numOf (getKey m.store key)) + 1 : Nat) : Int)).touch.writes] _ := At.frame S4.at' [0, 1, 2, 3] rfl m15
   obtain ⟨Q28, Q34, Q40⟩ := At.ownInv S15.at' ET_24.hk 1 rfl
   obtain ⟨Q29, Q35, Q41⟩ := At.ownInv S15.at' ET_25.hk 2 rfl
   obtain ⟨Q30, Q36, Q42⟩ := At.ownInv S15.at' ET_25.hk 3 rfl
   clear m15
   refine s_end (x_normal (wp_seq (wp_region_lit (l_op (f_mv F16 rfl rfl rfl rfl rfl fun _ F17 => ?_)))))
   refine l_op (f_as F17 rfl rfl rfl rfl rfl fun _ F18 => ?_)
   refine s_end (x_normal (wp_ret ?_))
   refine x_done (v := .int .i64 (((numOf (getKey m.store key)) + 1 : Nat) : Int)) F18 (results_1 Tryz.results90 (.tmp (F18.ev 4 rfl))) ?_
   exact ⟨Q6, Q10, Q8, Q0, Q4, Q2, Q12, Q16, Q14, (by rw [(show (((numOf (getKey m.store key)) + 1 : Nat) : Int) = ((bumpN m key : Nat) : Int) from by first | exact bumpN_t ‹_› | exact bumpN_f ‹_› | rw [bumpM_t ‹_›] | rw [bumpM_f ‹_›])]), (Mv.cast (Mv.pick (S4.trans S15) [0, 1, 2, 3] rfl) (by rw [(show (setM (lookM m key) key (((numOf (getKey m.store key)) + 1 : Nat) : Int)).store = (bumpM m key).store from by first | exact bumpN_t ‹_› | exact bumpN_f ‹_› | rw [bumpM_t ‹_›] | rw [bumpM_f ‹_›]), (show (setM (lookM m key) key (((numOf (getKey m.store key)) + 1 : Nat) : Int)).touch.reads = (bumpM m key).touch.reads from by first | exact bumpN_t ‹_› | exact bumpN_f ‹_› | rw [bumpM_t ‹_›] | rw [bumpM_f ‹_›]), (show (setM (lookM m key) key (((numOf (getKey m.store key)) + 1 : Nat) : Int)).touch.writes = (bumpM m key).touch.writes from by first | exact bumpN_t ‹_› | exact bumpN_f ‹_› | rw [bumpM_t ‹_›] | rw [bumpM_f ‹_›])]; all_goals rfl))⟩
end Go.Proofs.YtibgmijfnbnfkaaGreatDoor
