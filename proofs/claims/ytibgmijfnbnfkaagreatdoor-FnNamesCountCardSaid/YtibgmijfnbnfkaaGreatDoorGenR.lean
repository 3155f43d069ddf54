/-
  Walks: a key is laid, a beginning is wiped.
-/
import Derived.Test.YtibgmijfnbnfkaaGreatDoorDat
import Derived.Test.YtibgmijfnbnfkaaGreatDoorGenQ
namespace Go.Proofs.YtibgmijfnbnfkaaGreatDoor
open Go.ChangeShapes Go.WideShapes Go.ChangeAt Go.RowKit
set_option maxRecDepth 100000
set_option maxHeartbeats 1000000
theorem impl_Mach_lay_c {w : World} {H : Nat → Prop} {m : MachD} {m_Sa : Option Addr} {m_Sn m_Sc : Nat} {m_Ra : Option Addr} {m_Rn m_Rc : Nat} {m_Wa : Option Addr} {m_Wn m_Wc : Nat} {m_b : Nat} {key : ByteArray} {val : ByteArray} (Q6 : okS key) (Q16 : okS val) (p0 : m.store.length ≤ 274877906943) (p1 : m.touch.writes.length ≤ 274877906943) (hA : At w [bx m_b [.slice m_Sa m_Sn m_Sc, .slice m_Ra m_Rn m_Rc, .slice m_Wa m_Wn m_Wc] 29, ow 73 2 encC okC (.slice m_Sa m_Sn m_Sc) m.store, ow 9 1 encS okS (.slice m_Ra m_Rn m_Rc) m.touch.reads, ow 9 1 encS okS (.slice m_Wa m_Wn m_Wc) m.touch.writes]) :
    Calls Tryz.prog 74 #[.pointer (some ⟨m_b, 0, none⟩), .string key, .string val] w fun e w' => ∃ (Q10 : Option Addr), ∃ (Q12 : Nat), ∃ (Q11 : Nat), ∃ (Q7 : Option Addr), ∃ (Q9 : Nat), ∃ (Q8 : Nat), ∃ (Q13 : Option Addr), ∃ (Q15 : Nat), ∃ (Q14 : Nat), e = .returned (.tuple #[]) ∧ Mv [bx m_b [.slice m_Sa m_Sn m_Sc, .slice m_Ra m_Rn m_Rc, .slice m_Wa m_Wn m_Wc] 29, ow 73 2 encC okC (.slice m_Sa m_Sn m_Sc) m.store, ow 9 1 encS okS (.slice m_Ra m_Rn m_Rc) m.touch.reads, ow 9 1 encS okS (.slice m_Wa m_Wn m_Wc) m.touch.writes] w [bx m_b [.slice Q10 Q12 Q11, .slice Q7 Q9 Q8, .slice Q13 Q15 Q14] 29, ow 73 2 encC okC (.slice Q10 Q12 Q11) (layM m key val).store, ow 9 1 encS okS (.slice Q7 Q9 Q8) (layM m key val).touch.reads, ow 9 1 encS okS (.slice Q13 Q15 Q14) (layM m key val).touch.writes] w' := by
 have uU : True := (fun _ _ _ => trivial) H p0 p1
 clear uU
 obtain ⟨lo1, lp1, lq1⟩ := At.ownInv hA ET_24.hk 1 rfl
 obtain ⟨lo2, lp2, lq2⟩ := At.ownInv hA ET_25.hk 2 rfl
 obtain ⟨lo3, lp3, lq3⟩ := At.ownInv hA ET_25.hk 3 rfl
 refine calls_enter 27 Tryz.func74 rfl Tryz.ntmps74 (Nat.le_of_ble_eq_true rfl) (fun _ F0i => ?_)
 have F0 : Fr 27 [(0, .pointer (some ⟨m_b, 0, none⟩)), (1, .string key), (2, .string val)] _ := F0i
 clear F0i
 refine wp_seq (wp_region_lit (l_op (f_mv F0 rfl rfl rfl rfl rfl fun _ F1 => ?_)))
 refine l_op (f_mv F1 rfl rfl rfl rfl rfl fun _ F2 => ?_)
 refine l_op (f_val F2 rfl rfl (r_nilCheck rfl (F2.ev 7 rfl)) rfl fun _ F3 => ?_)
 refine l_op (f_val F3 rfl rfl (r_field FI_29_1 rfl (F3.ev 8 rfl) rfl) rfl fun _ F4 => ?_)
 refine l_op (f_val F4 rfl rfl (r_field FI_27_1 rfl (F4.ev 9 rfl) rfl) rfl fun _ F5 => ?_)
 refine l_op (f_val (v := .slice m_Wa m_Wn m_Wc) F5 rfl rfl (r_loadB hA 0 TI_25 rfl rfl (F5.ev 10 rfl) rfl rfl (fun _ => rfl) rfl) rfl fun _ F6 => ?_)
 refine l_op (f_mv F6 rfl rfl rfl rfl rfl fun _ F7 => ?_)
 refine l_op (f_call F7 CF_84 rfl rfl rfl rfl (lc (F7.ev 11 rfl) (lc (F7.ev 12 rfl) rfl)) (impl_addSpan_c (H := fun _ => True) (list := m.touch.writes) (span := key) Q6 (by first | assumption | omega | (simp <;> omega)) (At.pick (is := [3]) hA rfl)) ?_)
 rintro _ w8 ⟨Q0, Q2, Q1, rfl, m8⟩
 refine ⟨_, rfl, fun _ F9 => ?_⟩
 have S8 : Mv _ _ [ow 9 1 encS okS (.slice Q0 Q2 Q1) (putL m.touch.writes key), bx m_b [.slice m_Sa m_Sn m_Sc, .slice m_Ra m_Rn m_Rc, .slice m_Wa m_Wn m_Wc] 29, ow 73 2 encC okC (.slice m_Sa m_Sn m_Sc) m.store, ow 9 1 encS okS (.slice m_Ra m_Rn m_Rc) m.touch.reads] _ := At.frame hA [3] rfl m8
 obtain ⟨Q18, Q20, Q22⟩ := At.ownInv S8.at' ET_25.hk 0 rfl
 clear m8
 refine l_op (f_val F9 rfl rfl (r_nilCheck rfl (F9.ev 6 rfl)) rfl fun _ F10 => ?_)
 refine l_op (f_val F10 rfl rfl (r_field FI_29_1 rfl (F10.ev 14 rfl) rfl) rfl fun _ F11 => ?_)
 refine l_op (f_val F11 rfl rfl (r_field FI_27_1 rfl (F11.ev 15 rfl) rfl) rfl fun _ F12 => ?_)
 refine l_op (s_store S8.at' 1 TI_25 rfl rfl rfl rfl rfl (F12.ev 16 rfl) (F12.ev 13 rfl) rfl rfl rfl rfl rfl fun w13 S13 => ?_)
 refine s_end (x_normal (wp_region_lit (l_op (f_mv F12 rfl rfl rfl rfl rfl fun _ F14 => ?_))))
 refine l_op (f_mv F14 rfl rfl rfl rfl rfl fun _ F15 => ?_)
 refine l_op (f_val F15 rfl rfl (r_nilCheck rfl (F15.ev 18 rfl)) rfl fun _ F16 => ?_)
 refine l_op (f_val F16 rfl rfl (r_field FI_29_0 rfl (F16.ev 19 rfl) rfl) rfl fun _ F17 => ?_)
 refine l_op (f_val (v := .slice m_Sa m_Sn m_Sc) F17 rfl rfl (r_loadB S13.at' 0 TI_24 rfl rfl (F17.ev 20 rfl) rfl rfl (fun _ => rfl) rfl) rfl fun _ F18 => ?_)
 refine l_op (f_mv F18 rfl rfl rfl rfl rfl fun _ F19 => ?_)
 refine l_op (f_mv F19 rfl rfl rfl rfl rfl fun _ F20 => ?_)
 refine l_op (f_call F20 CF_100 rfl rfl rfl rfl (lc (F20.ev 21 rfl) (lc (F20.ev 22 rfl) (lc (F20.ev 23 rfl) rfl))) (impl_put_c (H := fun _ => True) (s := m.store) (key := key) (val := val) Q6 Q16 (by first | assumption | omega | (simp <;> omega)) (At.pick (is := [2]) S13.at' rfl)) ?_)
 rintro _ w21 ⟨Q3, Q5, Q4, rfl, m21⟩
 refine ⟨_, rfl, fun _ F22 => ?_⟩
 have S21 : Mv _ _ [ow 73 2 encC okC (.slice Q3 Q5 Q4) (putKey m.store key val), bx m_b [.slice m_Sa m_Sn m_Sc, .slice m_Ra m_Rn m_Rc, .slice Q0 Q2 Q1] 29, ow 9 1 encS okS (.slice Q0 Q2 Q1) (putL m.touch.writes key), ow 9 1 encS okS (.slice m_Ra m_Rn m_Rc) m.touch.reads] _ := At.frame S13.at' [2] rfl m21
 obtain ⟨Q17, Q19, Q21⟩ := At.ownInv S21.at' ET_24.hk 0 rfl
 clear m21
 refine l_op (f_val F22 rfl rfl (r_nilCheck rfl (F22.ev 17 rfl)) rfl fun _ F23 => ?_)
 refine l_op (f_val F23 rfl rfl (r_field FI_29_0 rfl (F23.ev 25 rfl) rfl) rfl fun _ F24 => ?_)
 refine l_op (s_store S21.at' 1 TI_24 rfl rfl rfl rfl rfl (F24.ev 26 rfl) (F24.ev 24 rfl) rfl rfl rfl rfl rfl fun w25 S25 => ?_)
 have T26 : Mv _ _ [bx m_b [.slice Q3 Q5 Q4, .slice m_Ra m_Rn m_Rc, .slice Q0 Q2 Q1] 29, ow 73 2 encC okC (.slice Q3 Q5 Q4) (putKey m.store key val), ow 9 1 encS okS (.slice Q0 Q2 Q1) (putL m.touch.writes key), ow 9 1 encS okS (.slice m_Ra m_Rn m_Rc) m.touch.reads] _ := S25
 refine s_end ?_
 refine x_done_end (v := .tuple #[]) F24 (results_0 Tryz.results74) ?_
 exact ⟨Q3, Q5, Q4, m_Ra, m_Rn, m_Rc, Q0, Q2, Q1, rfl, (Mv.cast (Mv.pick (S8.trans (S13.trans (S21.trans T26))) [0, 1, 3, 2] rfl) rfl)⟩
theorem impl_Mach_wipe_c {w : World} {H : Nat → Prop} {m : MachD} {m_Sa : Option Addr} {m_Sn m_Sc : Nat} {m_Ra : Option Addr} {m_Rn m_Rc : Nat} {m_Wa : Option Addr} {m_Wn m_Wc : Nat} {m_b : Nat} {pfx : ByteArray} (Q30 : okS pfx) (p0 : m.store.length ≤ 68719476736) (p1 : m.touch.reads.length ≤ 68719476736) (p2 : m.touch.writes.length ≤ 68719476736) (p3 : pfx.size ≤ 4611686018427387904) (hA : At w [bx m_b [.slice m_Sa m_Sn m_Sc, .slice m_Ra m_Rn m_Rc, .slice m_Wa m_Wn m_Wc] 29, ow 73 2 encC okC (.slice m_Sa m_Sn m_Sc) m.store, ow 9 1 encS okS (.slice m_Ra m_Rn m_Rc) m.touch.reads, ow 9 1 encS okS (.slice m_Wa m_Wn m_Wc) m.touch.writes]) :
    Calls Tryz.prog 87 #[.pointer (some ⟨m_b, 0, none⟩), .string pfx] w fun e w' => ∃ (Q24 : Option Addr), ∃ (Q26 : Nat), ∃ (Q25 : Nat), ∃ (Q21 : Option Addr), ∃ (Q23 : Nat), ∃ (Q22 : Nat), ∃ (Q27 : Option Addr), ∃ (Q29 : Nat), ∃ (Q28 : Nat), e = .returned (.tuple #[]) ∧ Mv [bx m_b [.slice m_Sa m_Sn m_Sc, .slice m_Ra m_Rn m_Rc, .slice m_Wa m_Wn m_Wc] 29, ow 73 2 encC okC (.slice m_Sa m_Sn m_Sc) m.store, ow 9 1 encS okS (.slice m_Ra m_Rn m_Rc) m.touch.reads, ow 9 1 encS okS (.slice m_Wa m_Wn m_Wc) m.touch.writes] w [bx m_b [.slice Q24 Q26 Q25, .slice Q21 Q23 Q22, .slice Q27 Q29 Q28] 29, ow 73 2 encC okC (.slice Q24 Q26 Q25) (wipeM m pfx).store, ow 9 1 encS okS (.slice Q21 Q23 Q22) (wipeM m pfx).touch.reads, ow 9 1 encS okS (.slice Q27 Q29 Q28) (wipeM m pfx).touch.writes] w' := by
 have uU : True := (fun _ _ _ _ _ => trivial) H p0 p1 p2 p3
 clear uU
 obtain ⟨lo1, lp1, lq1⟩ := At.ownInv hA ET_24.hk 1 rfl
 obtain ⟨lo2, lp2, lq2⟩ := At.ownInv hA ET_25.hk 2 rfl
 obtain ⟨lo3, lp3, lq3⟩ := At.ownInv hA ET_25.hk 3 rfl
 refine calls_enter 18 Tryz.func87 rfl Tryz.ntmps87 (Nat.le_of_ble_eq_true rfl) (fun _ F0i => ?_)
 have F0 : Fr 18 [(0, .pointer (some ⟨m_b, 0, none⟩)), (1, .string pfx)] _ := F0i
 clear F0i
 refine wp_seq (wp_region_lit (l_op (f_mv F0 rfl rfl rfl rfl rfl fun _ F1 => ?_)))
 refine l_op (f_mv F1 rfl rfl rfl rfl rfl fun _ F2 => ?_)
 refine l_op (f_call F2 CF_47 rfl rfl rfl rfl (lc (F2.ev 6 rfl) (lc (F2.ev 7 rfl) rfl)) (impl_Mach_under_c (H := fun _ => True) (m := m) (pfx := pfx) Q30 (by first | assumption | omega | (simp <;> omega)) (by first | assumption | omega | (simp <;> omega)) (by first | assumption | omega | (simp <;> omega)) (At.pick (is := [0, 1, 2, 3]) hA rfl)) ?_)
 rintro _ w3 ⟨Q10, Q0, Q11, Q4, Q6, Q5, Q1, Q3, Q2, Q7, Q9, Q8, rfl, m3⟩
 refine ⟨_, rfl, fun _ F4 => ?_⟩
 have S3 : Mv _ _ [ow 9 1 encS okS (.slice Q10 Q0 Q11) (keysUnder m.store pfx), bx m_b [.slice Q4 Q6 Q5, .slice Q1 Q3 Q2, .slice Q7 Q9 Q8] 29, ow 73 2 encC okC (.slice Q4 Q6 Q5) (lookM m (pfx ++ bT_)).store, ow 9 1 encS okS (.slice Q1 Q3 Q2) (lookM m (pfx ++ bT_)).touch.reads, ow 9 1 encS okS (.slice Q7 Q9 Q8) (lookM m (pfx ++ bT_)).touch.writes] _ := At.frame hA [0, 1, 2, 3] rfl m3
 obtain ⟨Q34, Q41, Q48⟩ := At.ownInv S3.at' ET_25.hk 0 rfl
 obtain ⟨Q35, Q42, Q49⟩ := At.ownInv S3.at' ET_24.hk 2 rfl
 obtain ⟨Q36, Q43, Q50⟩ := At.ownInv S3.at' ET_25.hk 3 rfl
 obtain ⟨Q37, Q44, Q51⟩ := At.ownInv S3.at' ET_25.hk 4 rfl
 clear m3
 refine l_op (f_val F4 rfl rfl (r_len Tryz.underlying25 rfl (F4.ev 8 rfl)) rfl fun _ F5 => ?_)
 refine l_op (f_val F5 rfl rfl (r_move rfl rfl) rfl fun _ F6 => ?_)
 refine s_end (x_normal (wp_block ?_))
 refine x_loop (fun (k : Nat) aZ wZ => ∃ (M : MachD), ∃ (sa : Option Addr), ∃ (sn : Nat), ∃ (sc : Nat), ∃ (ra : Option Addr), ∃ (rn : Nat), ∃ (rc : Nat), ∃ (ua : Option Addr), ∃ (un : Nat), ∃ (uc : Nat), Fr 18 [(10, .int .i64 ((k : Nat) : Int)), (9, .int .i64 ((Q0 : Nat) : Int)), (8, .slice Q10 Q0 Q11), (0, .pointer (some ⟨m_b, 0, none⟩))] aZ ∧ Mv [ow 9 1 encS okS (.slice Q10 Q0 Q11) (keysUnder m.store pfx), bx m_b [.slice Q4 Q6 Q5, .slice Q1 Q3 Q2, .slice Q7 Q9 Q8] 29, ow 73 2 encC okC (.slice Q4 Q6 Q5) (lookM m (pfx ++ bT_)).store, ow 9 1 encS okS (.slice Q1 Q3 Q2) (lookM m (pfx ++ bT_)).touch.reads, ow 9 1 encS okS (.slice Q7 Q9 Q8) (lookM m (pfx ++ bT_)).touch.writes] w3 [ow 9 1 encS okS (.slice Q10 Q0 Q11) (keysUnder m.store pfx), bx m_b [.slice sa sn sc, .slice ra rn rc, .slice ua un uc] 29, ow 73 2 encC okC (.slice sa sn sc) M.store, ow 9 1 encS okS (.slice ra rn rc) M.touch.reads, ow 9 1 encS okS (.slice ua un uc) M.touch.writes] wZ ∧ (k ≤ (keysUnder m.store pfx).length) ∧ (M = (wipeL (lookM m (pfx ++ bT_)) ((keysUnder m.store pfx).take k)))) (fun (k : Nat) => (keysUnder m.store pfx).length - k) (0) ?_ ?_
 · exact ⟨lookM m (pfx ++ bT_), Q4, Q6, Q5, Q1, Q3, Q2, Q7, Q9, Q8, F6.cut rfl, (Mv.refl S3.at'), by omega, rfl⟩
 · rintro k a7 w7 ⟨M, sa, sn, sc, ra, rn, rc, ua, un, uc, F7, S7, hk_0, hk_1⟩
   have wb := wipeL_bd (lookM m (pfx ++ bT_)) ((keysUnder m.store pfx).take k)
   have kl := keysUnder_length m.store pfx
   have pl := putL_length m.touch.reads (pfx ++ bT_)
   rw [List.length_take, ← hk_1] at wb
   simp only [lookM] at wb
   refine wp_seq (wp_region_lit (l_op (f_val F7 rfl rfl (r_cmp (b := decide (k < Q0)) (.inr (.inr (.inl rfl))) rfl (F7.ev 10 rfl) (F7.ev 9 rfl) (dec_of (by omega))) rfl fun _ F8 => ?_)))
   refine s_end (x_normal (wp_seq (x_cond (p := k < Q0) (F8.ev 11 rfl) (fun h9 => ?_) (fun h9 => ?_))))
   · skip
     refine wp_skip (x_normal (wp_seq (wp_block (wp_seq (wp_region_lit ?_)))))
     obtain ⟨B10, O10, x1, ad10, hx1, okx1, ln10, cl10⟩ := Rd.at (At.rd S7.at' ET_25.hk 0 rfl) k (by first | assumption | omega)
     clear ln10
     refine l_op (f_val F8 rfl rfl (r_indexAddr (i := k) ET_25 rfl ((F8.ev 8 rfl).trans (by rw [ad10])) (F8.ev 10 rfl) (by omega) (by first | assumption | omega)) rfl fun _ F11 => ?_)
     refine l_op (f_val (v := .string x1) F11 rfl rfl (r_load (cs := [.string x1]) TI_9 rfl (F11.ev 12 rfl) rfl (fun _ => rfl) (elem_sub (f := 0) cl10 [.string x1] rfl)) rfl fun _ F12 => ?_)
     refine l_op (f_as F12 rfl rfl rfl rfl rfl fun _ F13 => ?_)
     refine s_end (x_normal (wp_region_lit (l_op (f_mv F13 rfl rfl rfl rfl rfl fun _ F14 => ?_))))
     refine l_op (f_mv F14 rfl rfl rfl rfl rfl fun _ F15 => ?_)
     refine l_op (f_call F15 CF_74 rfl rfl rfl rfl (lc (F15.ev 14 rfl) (lc (F15.ev 15 rfl) (lc rfl rfl))) (impl_Mach_lay_c (H := fun _ => True) (m := M) (key := x1) (val := bE_) okx1 (by unfold okS; decide) (by first | assumption | omega | (simp <;> omega)) (by first | assumption | omega | (simp <;> omega)) (At.pick (is := [1, 2, 3, 4]) S7.at' rfl)) ?_)
     rintro _ w16 ⟨Q15, Q17, Q16, Q12, Q14, Q13, Q18, Q20, Q19, rfl, m16⟩
     refine ⟨_, rfl, fun _ F17 => ?_⟩
     have S16 : Mv _ _ [bx m_b [.slice Q15 Q17 Q16, .slice Q12 Q14 Q13, .slice Q18 Q20 Q19] 29, ow 73 2 encC okC (.slice Q15 Q17 Q16) (layM M x1 bE_).store, ow 9 1 encS okS (.slice Q12 Q14 Q13) (layM M x1 bE_).touch.reads, ow 9 1 encS okS (.slice Q18 Q20 Q19) (layM M x1 bE_).touch.writes, ow 9 1 encS okS (.slice Q10 Q0 Q11) (keysUnder m.store pfx)] _ := At.frame S7.at' [1, 2, 3, 4] rfl m16
     obtain ⟨Q31, Q38, Q45⟩ := At.ownInv S16.at' ET_24.hk 1 rfl
     obtain ⟨Q32, Q39, Q46⟩ := At.ownInv S16.at' ET_25.hk 2 rfl
     obtain ⟨Q33, Q40, Q47⟩ := At.ownInv S16.at' ET_25.hk 3 rfl
     clear m16
     refine s_end (x_block_normal (x_normal (wp_region_lit (l_op (f_val F17 rfl rfl (r_add (z := ((k + 1 : Nat) : Int)) rfl (F17.ev 10 rfl) rfl (by first | rfl | omega) ⟨by first | omega | (unfold i64ok at *; omega), by first | omega | (unfold i64ok at *; omega)⟩) rfl fun _ F18 => ?_)))))
     refine l_op (f_mv F18 rfl rfl rfl rfl rfl fun _ F19 => ?_)
     refine s_end ?_
     refine x_normal ⟨k + 1, by omega, (layM M x1 bE_), Q15, Q17, Q16, Q12, Q14, Q13, Q18, Q20, Q19, F19.cut rfl, ((S7.trans S16).pick [4, 0, 1, 2, 3] rfl), by omega, by rw [wipeL_step hx1, ← hk_1]⟩
   · skip
     refine wp_exit (x_then_exit (x_then_exit (x_block_here ?_)))
     refine x_done_end (v := .tuple #[]) F8 (results_0 Tryz.results87) ?_
     exact ⟨sa, sn, sc, ra, rn, rc, ua, un, uc, rfl, (Mv.cast (Mv.pick (S3.trans S7) [1, 2, 3, 4] rfl) (by rw [(show M.store = (wipeM m pfx).store from by subst hk_1; unfold wipeM; rw [List.take_of_length_le (by omega)]), (show M.touch.reads = (wipeM m pfx).touch.reads from by subst hk_1; unfold wipeM; rw [List.take_of_length_le (by omega)]), (show M.touch.writes = (wipeM m pfx).touch.writes from by subst hk_1; unfold wipeM; rw [List.take_of_length_le (by omega)])]; all_goals rfl))⟩
end Go.Proofs.YtibgmijfnbnfkaaGreatDoor
