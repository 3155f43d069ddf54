/-
  Walks: pages are loaded.
-/
import Derived.Test.YtibgmijfnbnfkaaGreatDoorGenHp
namespace Go.Proofs.YtibgmijfnbnfkaaGreatDoor
open Go.ChangeShapes Go.WideShapes Go.ChangeAt Go.RowKit
set_option maxRecDepth 100000
set_option maxHeartbeats 1000000
theorem impl_Mach_loadPage_c {w : World} {H : Nat → Prop} {m : MachD} {m_Sa : Option Addr} {m_Sn m_Sc : Nat} {m_Ra : Option Addr} {m_Rn m_Rc : Nat} {m_Wa : Option Addr} {m_Wn m_Wc : Nat} {m_b : Nat} {id : Int} {page : Int} (h_id : i64ok id) (Q9 : i64ok page) (tab0 : Tb 0 H w) (tab2 : Tb 2 H w) (p0 : bdC 137438953472 m) (hA : At w [bx m_b [.slice m_Sa m_Sn m_Sc, .slice m_Ra m_Rn m_Rc, .slice m_Wa m_Wn m_Wc] 29, ow 73 2 encC okC (.slice m_Sa m_Sn m_Sc) m.store, ow 9 1 encS okS (.slice m_Ra m_Rn m_Rc) m.touch.reads, ow 9 1 encS okS (.slice m_Wa m_Wn m_Wc) m.touch.writes]) (hD : ∀ b, H b → ¬ fps [bx m_b [.slice m_Sa m_Sn m_Sc, .slice m_Ra m_Rn m_Rc, .slice m_Wa m_Wn m_Wc] 29, ow 73 2 encC okC (.slice m_Sa m_Sn m_Sc) m.store, ow 9 1 encS okS (.slice m_Ra m_Rn m_Rc) m.touch.reads, ow 9 1 encS okS (.slice m_Wa m_Wn m_Wc) m.touch.writes] b) :
    Calls Tryz.prog 43 #[.pointer (some ⟨m_b, 0, none⟩), .int .i64 id, .int .i64 page] w fun e w' => ∃ (Q13 : Option Addr), ∃ (Q15 : Nat), ∃ (Q14 : Nat), ∃ (Q10 : Option Addr), ∃ (Q12 : Nat), ∃ (Q11 : Nat), ∃ (Q16 : Option Addr), ∃ (Q18 : Nat), ∃ (Q17 : Nat), e = .returned (.tuple #[.string (loadT m (kQ_ id page) page), .int .i64 (loadC page)]) ∧ Mv [bx m_b [.slice m_Sa m_Sn m_Sc, .slice m_Ra m_Rn m_Rc, .slice m_Wa m_Wn m_Wc] 29, ow 73 2 encC okC (.slice m_Sa m_Sn m_Sc) m.store, ow 9 1 encS okS (.slice m_Ra m_Rn m_Rc) m.touch.reads, ow 9 1 encS okS (.slice m_Wa m_Wn m_Wc) m.touch.writes] w [bx m_b [.slice Q13 Q15 Q14, .slice Q10 Q12 Q11, .slice Q16 Q18 Q17] 29, ow 73 2 encC okC (.slice Q13 Q15 Q14) (loadM m (kQ_ id page) page).store, ow 9 1 encS okS (.slice Q10 Q12 Q11) (loadM m (kQ_ id page) page).touch.reads, ow 9 1 encS okS (.slice Q16 Q18 Q17) (loadM m (kQ_ id page) page).touch.writes] w' ∧ okS (loadT m (kQ_ id page) page) := by
 have uU : True := (fun _ => trivial) p0
 clear uU
 have V_tab0 : Tb 0 (V H w [bx m_b [.slice m_Sa m_Sn m_Sc, .slice m_Ra m_Rn m_Rc, .slice m_Wa m_Wn m_Wc] 29, ow 73 2 encC okC (.slice m_Sa m_Sn m_Sc) m.store, ow 9 1 encS okS (.slice m_Ra m_Rn m_Rc) m.touch.reads, ow 9 1 encS okS (.slice m_Wa m_Wn m_Wc) m.touch.writes]) w := Tb.start tab0 hD
 have V_tab2 : Tb 2 (V H w [bx m_b [.slice m_Sa m_Sn m_Sc, .slice m_Ra m_Rn m_Rc, .slice m_Wa m_Wn m_Wc] 29, ow 73 2 encC okC (.slice m_Sa m_Sn m_Sc) m.store, ow 9 1 encS okS (.slice m_Ra m_Rn m_Rc) m.touch.reads, ow 9 1 encS okS (.slice m_Wa m_Wn m_Wc) m.touch.writes]) w := Tb.start tab2 hD
 obtain ⟨lo1, lp1, lq1⟩ := At.ownInv hA ET_24.hk 1 rfl
 obtain ⟨lo2, lp2, lq2⟩ := At.ownInv hA ET_25.hk 2 rfl
 obtain ⟨lo3, lp3, lq3⟩ := At.ownInv hA ET_25.hk 3 rfl
 refine calls_enter 17 Tryz.func43 rfl Tryz.ntmps43 (Nat.le_of_ble_eq_true rfl) (fun _ F0i => ?_)
 have F0 : Fr 17 [(0, .pointer (some ⟨m_b, 0, none⟩)), (1, .int .i64 id), (2, .int .i64 page)] _ := F0i
 clear F0i
 refine wp_seq (wp_region_lit (l_op (f_val F0 rfl rfl (r_assign rfl rfl) rfl fun _ F1 => ?_)))
 refine l_op (f_val F1 rfl rfl (r_assign rfl rfl) rfl fun _ F2 => ?_)
 refine s_end (x_normal (wp_seq (wp_seq (wp_region_lit (l_op (f_mv F2 rfl rfl rfl rfl rfl fun _ F3 => ?_))))))
 refine l_op (f_call F3 CF_72 rfl rfl rfl rfl (lc (F3.ev 8 rfl) (lc rfl (lc rfl rfl))) (impl_within_c (H := fun _ => True) (n := page) (low := 0) (high := 3) Q9 (by first | assumption | exact ⟨by omega, by omega⟩ | (unfold i64ok at *; omega)) (by first | assumption | exact ⟨by omega, by omega⟩ | (unfold i64ok at *; omega))) ?_)
 rintro _ w4 ⟨rfl, m4⟩
 refine ⟨_, rfl, fun _ F5 => ?_⟩
 have S4 := At.frame0 hA m4
 clear m4
 refine l_op (f_val F5 rfl rfl (r_not rfl (F5.ev 9 rfl)) rfl fun _ F6 => ?_)
 refine s_end (x_normal (x_condb (b := (!(inB page 0 3))) (F6.ev 10 rfl) (fun h7 => ?_) (fun h7 => ?_)))
 · skip
   refine wp_seq (wp_region_lit (l_op (f_val F6 rfl rfl (r_assign rfl rfl) rfl fun _ F8 => ?_)))
   refine l_op (f_val F8 rfl rfl (r_assign rfl rfl) rfl fun _ F9 => ?_)
   refine s_end (x_normal (wp_ret (x_then_ret ?_)))
   refine x_done (v := .tuple #[.string bE_, .int .i64 4]) F9 (results_2 Tryz.results43 (.tmp (F9.ev 6 rfl)) (.tmp (F9.ev 7 rfl))) ?_
   exact ⟨m_Sa, m_Sn, m_Sc, m_Ra, m_Rn, m_Rc, m_Wa, m_Wn, m_Wc, ((congrArg (fun zZ => Ending.returned (.tuple #[.string zZ, .int .i64 4])) (show bE_ = (loadT m (kQ_ id page) page) from by first | with_reducible exact loadC_t (nf ‹_›) | with_reducible exact loadC_f (nt ‹_›) | with_reducible exact loadT_t (nf ‹_›) | with_reducible exact loadT_f (nt ‹_›) | rw [loadM_t (nf ‹_›)] | rw [loadM_f (nt ‹_›)])).trans (congrArg (fun zZ => Ending.returned (.tuple #[.string (loadT m (kQ_ id page) page), .int .i64 zZ])) (show 4 = (loadC page) from by first | with_reducible exact loadC_t (nf ‹_›) | with_reducible exact loadC_f (nt ‹_›) | with_reducible exact loadT_t (nf ‹_›) | with_reducible exact loadT_f (nt ‹_›) | rw [loadM_t (nf ‹_›)] | rw [loadM_f (nt ‹_›)]))), (Mv.cast (Mv.pick S4 [0, 1, 2, 3] rfl) (by rw [(show m.store = (loadM m (kQ_ id page) page).store from by first | with_reducible exact loadC_t (nf ‹_›) | with_reducible exact loadC_f (nt ‹_›) | with_reducible exact loadT_t (nf ‹_›) | with_reducible exact loadT_f (nt ‹_›) | rw [loadM_t (nf ‹_›)] | rw [loadM_f (nt ‹_›)]), (show m.touch.reads = (loadM m (kQ_ id page) page).touch.reads from by first | with_reducible exact loadC_t (nf ‹_›) | with_reducible exact loadC_f (nt ‹_›) | with_reducible exact loadT_t (nf ‹_›) | with_reducible exact loadT_f (nt ‹_›) | rw [loadM_t (nf ‹_›)] | rw [loadM_f (nt ‹_›)]), (show m.touch.writes = (loadM m (kQ_ id page) page).touch.writes from by first | with_reducible exact loadC_t (nf ‹_›) | with_reducible exact loadC_f (nt ‹_›) | with_reducible exact loadT_t (nf ‹_›) | with_reducible exact loadT_f (nt ‹_›) | rw [loadM_t (nf ‹_›)] | rw [loadM_f (nt ‹_›)])]; all_goals rfl)), ((show bE_ = (loadT m (kQ_ id page) page) from by first | with_reducible exact loadC_t (nf ‹_›) | with_reducible exact loadC_f (nt ‹_›) | with_reducible exact loadT_t (nf ‹_›) | with_reducible exact loadT_f (nt ‹_›) | rw [loadM_t (nf ‹_›)] | rw [loadM_f (nt ‹_›)]) ▸ (by unfold okS; decide))⟩
 · skip
   refine wp_skip (x_normal (wp_seq (wp_region_lit (l_op (f_mv F6 rfl rfl rfl rfl rfl fun _ F10 => ?_)))))
   refine l_op (f_mv F10 rfl rfl rfl rfl rfl fun _ F11 => ?_)
   refine l_op (f_call F11 CF_48 rfl rfl rfl rfl (lc (F11.ev 12 rfl) rfl) (impl_pagesKey_c (id := id) h_id (Tb.mv V_tab0 S4)) ?_)
   rintro _ w12 ⟨rfl, m12, Q19⟩
   refine ⟨_, rfl, fun _ F13 => ?_⟩
   have S12 := At.frame0 S4.at' m12
   clear m12
   refine l_op (f_mv F13 rfl rfl rfl rfl rfl fun _ F14 => ?_)
   refine l_op (f_call F14 CF_31 rfl rfl rfl rfl (lc (F14.ev 13 rfl) (lc (F14.ev 14 rfl) (lc rfl rfl))) (impl_KeyNum_c (head := kP_ id) (n := page) (tail := bE_) Q19 Q9 (by unfold okS; decide) (Tb.mv V_tab0 (S4.trans S12)) (by first | assumption | omega | ((repeat first | apply b1_ | apply b2_ | apply b3_ | apply b4_ | apply b5_ | apply b6_); exact bdC.le ‹_› (by decide)) | decide | exact Nat.le_trans (keyNum_size _ _ ‹_›) (by decide)) (by first | assumption | omega | ((repeat first | apply b1_ | apply b2_ | apply b3_ | apply b4_ | apply b5_ | apply b6_); exact bdC.le ‹_› (by decide)) | decide | exact Nat.le_trans (keyNum_size _ _ ‹_›) (by decide))) ?_)
   rintro _ w15 ⟨rfl, m15, Q20⟩
   refine ⟨_, rfl, fun _ F16 => ?_⟩
   have S15 := At.frame0 S12.at' m15
   clear m15
   refine l_op (f_call F16 CF_80 rfl rfl rfl rfl (lc (F16.ev 11 rfl) (lc (F16.ev 15 rfl) rfl)) (impl_Mach_message_c (m := m) (key := kQ_ id page) Q20 (Tb.mv V_tab2 (S4.trans (S12.trans S15))) (by first | assumption | omega | ((repeat first | apply b1_ | apply b2_ | apply b3_ | apply b4_ | apply b5_ | apply b6_); exact bdC.le ‹_› (by decide)) | decide | exact Nat.le_trans (keyNum_size _ _ ‹_›) (by decide)) (At.pick (is := [0, 1, 2, 3]) S15.at' rfl) (V_off (is := [0, 1, 2, 3]))) ?_)
   rintro _ w17 ⟨Q3, Q5, Q4, Q0, Q2, Q1, Q6, Q8, Q7, rfl, m17, Q21⟩
   refine ⟨_, rfl, fun _ F18 => ?_⟩
   have S17 : Mv _ _ [bx m_b [.slice Q3 Q5 Q4, .slice Q0 Q2 Q1, .slice Q6 Q8 Q7] 29, ow 73 2 encC okC (.slice Q3 Q5 Q4) (lookM m (kQ_ id page)).store, ow 9 1 encS okS (.slice Q0 Q2 Q1) (lookM m (kQ_ id page)).touch.reads, ow 9 1 encS okS (.slice Q6 Q8 Q7) (lookM m (kQ_ id page)).touch.writes] _ := At.frame S15.at' [0, 1, 2, 3] rfl m17
   obtain ⟨Q22, Q25, Q28⟩ := At.ownInv S17.at' ET_24.hk 1 rfl
   obtain ⟨Q23, Q26, Q29⟩ := At.ownInv S17.at' ET_25.hk 2 rfl
   obtain ⟨Q24, Q27, Q30⟩ := At.ownInv S17.at' ET_25.hk 3 rfl
   clear m17
   refine l_op (f_as F18 rfl rfl rfl rfl rfl fun _ F19 => ?_)
   refine l_op (f_val F19 rfl rfl (r_assign rfl rfl) rfl fun _ F20 => ?_)
   refine s_end (x_normal (wp_ret ?_))
   refine x_done (v := .tuple #[.string (msgOf (getKey m.store (kQ_ id page))), .int .i64 0]) F20 (results_2 Tryz.results43 (.tmp (F20.ev 6 rfl)) (.tmp (F20.ev 7 rfl))) ?_
   exact ⟨Q3, Q5, Q4, Q0, Q2, Q1, Q6, Q8, Q7, (by rw [(show (msgOf (getKey m.store (kQ_ id page))) = (loadT m (kQ_ id page) page) from by first | with_reducible exact loadC_t (nf ‹_›) | with_reducible exact loadC_f (nt ‹_›) | with_reducible exact loadT_t (nf ‹_›) | with_reducible exact loadT_f (nt ‹_›) | rw [loadM_t (nf ‹_›)] | rw [loadM_f (nt ‹_›)]), (show 0 = (loadC page) from by first | with_reducible exact loadC_t (nf ‹_›) | with_reducible exact loadC_f (nt ‹_›) | with_reducible exact loadT_t (nf ‹_›) | with_reducible exact loadT_f (nt ‹_›) | rw [loadM_t (nf ‹_›)] | rw [loadM_f (nt ‹_›)])]), (Mv.cast (Mv.pick (S4.trans (S12.trans (S15.trans S17))) [0, 1, 2, 3] rfl) (by rw [(show (lookM m (kQ_ id page)).store = (loadM m (kQ_ id page) page).store from by first | with_reducible exact loadC_t (nf ‹_›) | with_reducible exact loadC_f (nt ‹_›) | with_reducible exact loadT_t (nf ‹_›) | with_reducible exact loadT_f (nt ‹_›) | rw [loadM_t (nf ‹_›)] | rw [loadM_f (nt ‹_›)]), (show (lookM m (kQ_ id page)).touch.reads = (loadM m (kQ_ id page) page).touch.reads from by first | with_reducible exact loadC_t (nf ‹_›) | with_reducible exact loadC_f (nt ‹_›) | with_reducible exact loadT_t (nf ‹_›) | with_reducible exact loadT_f (nt ‹_›) | rw [loadM_t (nf ‹_›)] | rw [loadM_f (nt ‹_›)]), (show (lookM m (kQ_ id page)).touch.writes = (loadM m (kQ_ id page) page).touch.writes from by first | with_reducible exact loadC_t (nf ‹_›) | with_reducible exact loadC_f (nt ‹_›) | with_reducible exact loadT_t (nf ‹_›) | with_reducible exact loadT_f (nt ‹_›) | rw [loadM_t (nf ‹_›)] | rw [loadM_f (nt ‹_›)])]; all_goals rfl)), ((show (msgOf (getKey m.store (kQ_ id page))) = (loadT m (kQ_ id page) page) from by first | with_reducible exact loadC_t (nf ‹_›) | with_reducible exact loadC_f (nt ‹_›) | with_reducible exact loadT_t (nf ‹_›) | with_reducible exact loadT_f (nt ‹_›) | rw [loadM_t (nf ‹_›)] | rw [loadM_f (nt ‹_›)]) ▸ Q21)⟩
theorem spec_l11LoadPage_c {w : World} {H : Nat → Prop} {m : MachD} {m_Sa : Option Addr} {m_Sn m_Sc : Nat} {m_Ra : Option Addr} {m_Rn m_Rc : Nat} {m_Wa : Option Addr} {m_Wn m_Wc : Nat} {id : Int} {page : Int} (Q41 : Rd 2 encC okC H w (.slice m_Sa m_Sn m_Sc) m.store) (Q42 : Rd 1 encS okS H w (.slice m_Ra m_Rn m_Rc) m.touch.reads) (Q43 : Rd 1 encS okS H w (.slice m_Wa m_Wn m_Wc) m.touch.writes) (h_id : i64ok id) (Q12 : i64ok page) (p0 : bdC 137438953472 m) :
    Calls Tryz.prog 44 #[.agg #[.slice m_Sa m_Sn m_Sc, .slice m_Ra m_Rn m_Rc, .slice m_Wa m_Wn m_Wc], .int .i64 id, .int .i64 page] w fun e w' => ∃ (Q23 : Option Addr), ∃ (Q29 : Nat), ∃ (Q26 : Nat), ∃ (Q14 : Option Addr), ∃ (Q20 : Nat), ∃ (Q17 : Nat), ∃ (Q32 : Option Addr), ∃ (Q38 : Nat), ∃ (Q35 : Nat), e = .returned (.tuple #[.agg #[.slice Q23 Q29 Q26, .slice Q14 Q20 Q17, .slice Q32 Q38 Q35], .string (loadT m (kQ_ id page) page), .int .i64 (loadC page)]) ∧ Mv [] w [] w' ∧ Rd 2 encC okC (Fsh H w) w' (.slice Q23 Q29 Q26) (loadM m (kQ_ id page) page).store ∧ Rd 1 encS okS (Fsh H w) w' (.slice Q14 Q20 Q17) (loadM m (kQ_ id page) page).touch.reads ∧ Rd 1 encS okS (Fsh H w) w' (.slice Q32 Q38 Q35) (loadM m (kQ_ id page) page).touch.writes ∧ okS (loadT m (kQ_ id page) page) := by
 have uU : True := (fun _ => trivial) p0
 clear uU
 have Q9 : Rd 2 encC okC (V H w []) w (.slice m_Sa m_Sn m_Sc) m.store := Rd.start Q41 (fun _ _ => fps_nil _)
 obtain ⟨Q56, Q53, Q59, Q62⟩ := Rd.inv Q41
 have Q10 : Rd 1 encS okS (V H w []) w (.slice m_Ra m_Rn m_Rc) m.touch.reads := Rd.start Q42 (fun _ _ => fps_nil _)
 obtain ⟨Q57, Q54, Q60, Q63⟩ := Rd.inv Q42
 have Q11 : Rd 1 encS okS (V H w []) w (.slice m_Wa m_Wn m_Wc) m.touch.writes := Rd.start Q43 (fun _ _ => fps_nil _)
 obtain ⟨Q58, Q55, Q61, Q64⟩ := Rd.inv Q43
 refine calls_enter 39 Tryz.func44 rfl Tryz.ntmps44 (Nat.le_of_ble_eq_true rfl) (fun _ F0i => ?_)
 have F0 : Fr 39 [(0, .agg #[.slice m_Sa m_Sn m_Sc, .slice m_Ra m_Rn m_Rc, .slice m_Wa m_Wn m_Wc]), (1, .int .i64 id), (2, .int .i64 page)] _ := F0i
 clear F0i
 refine wp_seq (wp_region_lit (l_op (f_box F0 (At.nil w) rfl rfl rfl (F0.ev 0 rfl) rfl rfl fun b1 _ w1 F2 S1 => ?_)))
 refine l_op (f_alloc F2 S1.at' ZI_29 rfl rfl rfl rfl rfl fun b3 _ w3 F4 S3 => ?_)
 refine l_op (f_val F4 rfl rfl (r_assign rfl rfl) rfl fun _ F5 => ?_)
 refine l_op (f_val F5 rfl rfl (r_assign rfl rfl) rfl fun _ F6 => ?_)
 refine s_end (x_normal (wp_seq (wp_seq (wp_region_lit (l_op (f_mv F6 rfl rfl rfl rfl rfl fun _ F7 => ?_))))))
 refine l_op (f_call F7 CF_75 rfl rfl rfl rfl (lc (F7.ev 11 rfl) (lc rfl (lc rfl rfl))) (spec_l01In_c (H := fun _ => True) (x := page) (least := 0) (most := 3) Q12 (by first | assumption | exact ⟨by omega, by omega⟩ | (unfold i64ok at *; omega)) (by first | assumption | exact ⟨by omega, by omega⟩ | (unfold i64ok at *; omega))) ?_)
 rintro _ w8 ⟨rfl, m8⟩
 refine ⟨_, rfl, fun _ F9 => ?_⟩
 have S8 := At.frame0 S3.at' m8
 clear m8
 refine l_op (f_val F9 rfl rfl (r_not rfl (F9.ev 12 rfl)) rfl fun _ F10 => ?_)
 refine s_end (x_normal (x_condb (b := (!(inB page 0 3))) (F10.ev 13 rfl) (fun h11 => ?_) (fun h11 => ?_)))
 · skip
   refine wp_seq (wp_region_lit (l_op (f_val (v := .agg #[.slice m_Sa m_Sn m_Sc, .slice m_Ra m_Rn m_Rc, .slice m_Wa m_Wn m_Wc]) F10 rfl rfl (r_loadB S8.at' 1 TI_29 rfl rfl (F10.ev 3 rfl) rfl rfl (fun h => nomatch h) rfl) rfl fun _ F12 => ?_)))
   refine l_op (s_store S8.at' 0 TI_29 rfl rfl rfl rfl rfl (F12.ev 6 rfl) (F12.ev 14 rfl) rfl rfl rfl rfl rfl fun w13 S13 => ?_)
   refine l_op (f_val F12 rfl rfl (r_assign rfl rfl) rfl fun _ F14 => ?_)
   refine l_op (f_val F14 rfl rfl (r_assign rfl rfl) rfl fun _ F15 => ?_)
   refine s_end (x_normal (wp_ret (x_then_ret ?_)))
   refine x_done (v := .tuple #[.agg #[.slice m_Sa m_Sn m_Sc, .slice m_Ra m_Rn m_Rc, .slice m_Wa m_Wn m_Wc], .string bE_, .int .i64 4]) F15 (results_3 Tryz.results44 (.cell (F15.ev 6 rfl) (run_loadVar' TI_29 _ [.slice m_Sa m_Sn m_Sc, .slice m_Ra m_Rn m_Rc, .slice m_Wa m_Wn m_Wc] rfl (fun h => nomatch h) (At.cells S13.at' 0 rfl 0 [.slice m_Sa m_Sn m_Sc, .slice m_Ra m_Rn m_Rc, .slice m_Wa m_Wn m_Wc] rfl))) (.tmp (F15.ev 7 rfl)) (.tmp (F15.ev 8 rfl))) ?_
   exact ⟨m_Sa, m_Sn, m_Sc, m_Ra, m_Rn, m_Rc, m_Wa, m_Wn, m_Wc, ((congrArg (fun zZ => Ending.returned (.tuple #[.agg #[.slice m_Sa m_Sn m_Sc, .slice m_Ra m_Rn m_Rc, .slice m_Wa m_Wn m_Wc], .string zZ, .int .i64 4])) (show bE_ = (loadT m (kQ_ id page) page) from by first | with_reducible exact loadC_t (nf ‹_›) | with_reducible exact loadC_f (nt ‹_›) | with_reducible exact loadT_t (nf ‹_›) | with_reducible exact loadT_f (nt ‹_›) | rw [loadM_t (nf ‹_›)] | rw [loadM_f (nt ‹_›)] | with_reducible exact (msg_a ‹_› ‹_›).trans (loadT_t (nf ‹_›)) | with_reducible exact (msg_b ‹_›).trans (loadT_t (nf ‹_›)) | with_reducible exact (msg_c ‹_›).trans (loadT_t (nf ‹_›)))).trans (congrArg (fun zZ => Ending.returned (.tuple #[.agg #[.slice m_Sa m_Sn m_Sc, .slice m_Ra m_Rn m_Rc, .slice m_Wa m_Wn m_Wc], .string (loadT m (kQ_ id page) page), .int .i64 zZ])) (show 4 = (loadC page) from by first | with_reducible exact loadC_t (nf ‹_›) | with_reducible exact loadC_f (nt ‹_›) | with_reducible exact loadT_t (nf ‹_›) | with_reducible exact loadT_f (nt ‹_›) | rw [loadM_t (nf ‹_›)] | rw [loadM_f (nt ‹_›)] | with_reducible exact (msg_a ‹_› ‹_›).trans (loadT_t (nf ‹_›)) | with_reducible exact (msg_b ‹_›).trans (loadT_t (nf ‹_›)) | with_reducible exact (msg_c ‹_›).trans (loadT_t (nf ‹_›))))), (Mv.pick (S1.trans (S3.trans (S8.trans S13))) [] rfl), (Rd.cast (Rd.give (Rd.mq Q9 (S1.trans (S3.trans (S8.trans S13))))) (show m.store = (loadM m (kQ_ id page) page).store from by first | with_reducible exact loadC_t (nf ‹_›) | with_reducible exact loadC_f (nt ‹_›) | with_reducible exact loadT_t (nf ‹_›) | with_reducible exact loadT_f (nt ‹_›) | rw [loadM_t (nf ‹_›)] | rw [loadM_f (nt ‹_›)] | with_reducible exact (msg_a ‹_› ‹_›).trans (loadT_t (nf ‹_›)) | with_reducible exact (msg_b ‹_›).trans (loadT_t (nf ‹_›)) | with_reducible exact (msg_c ‹_›).trans (loadT_t (nf ‹_›)))), (Rd.cast (Rd.give (Rd.mq Q10 (S1.trans (S3.trans (S8.trans S13))))) (show m.touch.reads = (loadM m (kQ_ id page) page).touch.reads from by first | with_reducible exact loadC_t (nf ‹_›) | with_reducible exact loadC_f (nt ‹_›) | with_reducible exact loadT_t (nf ‹_›) | with_reducible exact loadT_f (nt ‹_›) | rw [loadM_t (nf ‹_›)] | rw [loadM_f (nt ‹_›)] | with_reducible exact (msg_a ‹_› ‹_›).trans (loadT_t (nf ‹_›)) | with_reducible exact (msg_b ‹_›).trans (loadT_t (nf ‹_›)) | with_reducible exact (msg_c ‹_›).trans (loadT_t (nf ‹_›)))), (Rd.cast (Rd.give (Rd.mq Q11 (S1.trans (S3.trans (S8.trans S13))))) (show m.touch.writes = (loadM m (kQ_ id page) page).touch.writes from by first | with_reducible exact loadC_t (nf ‹_›) | with_reducible exact loadC_f (nt ‹_›) | with_reducible exact loadT_t (nf ‹_›) | with_reducible exact loadT_f (nt ‹_›) | rw [loadM_t (nf ‹_›)] | rw [loadM_f (nt ‹_›)] | with_reducible exact (msg_a ‹_› ‹_›).trans (loadT_t (nf ‹_›)) | with_reducible exact (msg_b ‹_›).trans (loadT_t (nf ‹_›)) | with_reducible exact (msg_c ‹_›).trans (loadT_t (nf ‹_›)))), ((show bE_ = (loadT m (kQ_ id page) page) from by first | with_reducible exact loadC_t (nf ‹_›) | with_reducible exact loadC_f (nt ‹_›) | with_reducible exact loadT_t (nf ‹_›) | with_reducible exact loadT_f (nt ‹_›) | rw [loadM_t (nf ‹_›)] | rw [loadM_f (nt ‹_›)] | with_reducible exact (msg_a ‹_› ‹_›).trans (loadT_t (nf ‹_›)) | with_reducible exact (msg_b ‹_›).trans (loadT_t (nf ‹_›)) | with_reducible exact (msg_c ‹_›).trans (loadT_t (nf ‹_›))) ▸ (by unfold okS; decide))⟩
 · skip
   refine wp_skip (x_normal (wp_seq ?_))
   refine x_draw (fun aZ wZ => ∃ (Q3 : Option Addr), ∃ (Q5 : Nat), ∃ (Q4 : Nat), ∃ (Q0 : Option Addr), ∃ (Q2 : Nat), ∃ (Q1 : Nat), ∃ (Q6 : Option Addr), ∃ (Q8 : Nat), ∃ (Q7 : Nat), Fr 39 [(3, .pointer (some ⟨b1, 0, none⟩)), (6, .pointer (some ⟨b3, 0, none⟩)), (9, .string (getKey m.store (kQ_ id page)))] aZ ∧ Mv [bx b3 [.slice none 0 0, .slice none 0 0, .slice none 0 0] 29, bx b1 [.slice m_Sa m_Sn m_Sc, .slice m_Ra m_Rn m_Rc, .slice m_Wa m_Wn m_Wc] 29] w8 [bx b3 [.slice none 0 0, .slice none 0 0, .slice none 0 0] 29, bx b1 [.slice Q3 Q5 Q4, .slice Q0 Q2 Q1, .slice Q6 Q8 Q7] 29] wZ ∧ Rd 2 encC okC (V H w [bx b3 [.slice none 0 0, .slice none 0 0, .slice none 0 0] 29, bx b1 [.slice Q3 Q5 Q4, .slice Q0 Q2 Q1, .slice Q6 Q8 Q7] 29]) wZ (.slice Q3 Q5 Q4) (lookM m (kQ_ id page)).store ∧ Rd 1 encS okS (V H w [bx b3 [.slice none 0 0, .slice none 0 0, .slice none 0 0] 29, bx b1 [.slice Q3 Q5 Q4, .slice Q0 Q2 Q1, .slice Q6 Q8 Q7] 29]) wZ (.slice Q0 Q2 Q1) (lookM m (kQ_ id page)).touch.reads ∧ Rd 1 encS okS (V H w [bx b3 [.slice none 0 0, .slice none 0 0, .slice none 0 0] 29, bx b1 [.slice Q3 Q5 Q4, .slice Q0 Q2 Q1, .slice Q6 Q8 Q7] 29]) wZ (.slice Q6 Q8 Q7) (lookM m (kQ_ id page)).touch.writes ∧ okS (getKey m.store (kQ_ id page))) [] mixed S8.at' (listed := #[false, false, false, false, false, false, false, false, false, false, false]) rfl (fun w17 S17 => ?_) [] rfl ?_
   · skip
     refine g_take F10 rfl (i := 1) (listed' := #[false, true, false, false, false, false, false, false, false, false, false]) rfl (by kernel_rfl) (by kernel_rfl) (by kernel_rfl) (fun _ _ _ h => h) (Sd.of (Mv.refl S17.at') [] rfl) rfl rfl rfl rfl (fun _ hz => (r_move rfl (F10.ev 1 rfl))) fun _ F18 => ?_
     refine g_take F18 rfl (i := 3) (listed' := #[false, true, false, true, false, false, false, false, false, false, false]) rfl (by kernel_rfl) (by kernel_rfl) (by kernel_rfl) (fun _ _ _ h => h) (Sd.of (Mv.refl S17.at') [] rfl) rfl rfl rfl rfl (fun _ hz => (r_move rfl (F18.ev 2 rfl))) fun _ F19 => ?_
     refine d_all (rs := [0, 2]) rfl (by kernel_rfl) (by simp) (d_cons (i := 0) (listed' := #[true, true, false, true, false, false, false, false, false, false, false]) rfl rfl ?_ (d_cons (i := 2) (listed' := #[false, true, true, true, false, false, false, false, false, false, false]) rfl rfl ?_ d_nil))
     · skip
       refine f_val (v := .agg #[.slice m_Sa m_Sn m_Sc, .slice m_Ra m_Rn m_Rc, .slice m_Wa m_Wn m_Wc]) F19 rfl rfl (r_loadB S17.at' 1 TI_29 rfl rfl (F19.ev 3 rfl) rfl rfl (fun h => nomatch h) rfl) rfl fun _ F20 => ?_
       refine ⟨Sd.of (Mv.refl S17.at') [] rfl, ?_⟩
       refine d_one (i := 2) (listed' := #[true, true, true, true, false, false, false, false, false, false, false]) rfl (by kernel_rfl) rfl rfl ?_
       refine f_call F20 CF_77 rfl rfl rfl rfl (lc (F20.ev 17 rfl) rfl) (spec_l11Head_c (H := fun _ => True) (id := id) h_id) ?_
       rintro _ w21 ⟨rfl, m21, Q45⟩
       refine ⟨_, rfl, fun _ F22 => ?_⟩
       have S21 := At.frame0 S17.at' m21
       clear m21
       refine ⟨Sd.of S21 [] rfl, ?_⟩
       refine d_one (i := 4) (listed' := #[true, true, true, true, true, false, false, false, false, false, false]) rfl (by kernel_rfl) rfl rfl ?_
       refine f_call F22 CF_76 rfl rfl rfl rfl (lc (F22.ev 18 rfl) (lc (F22.ev 19 rfl) (lc rfl rfl))) (spec_KeyNum_c (H := fun _ => True) (head := kP_ id) (n := page) (tail := bE_) Q45 Q12 (by unfold okS; decide) (by first | assumption | omega | ((repeat first | apply b1_ | apply b2_ | apply b3_ | apply b4_ | apply b5_ | apply b6_); exact bdC.le ‹_› (by decide)) | decide | exact Nat.le_trans (keyNum_size _ _ ‹_›) (by decide)) (by first | assumption | omega | ((repeat first | apply b1_ | apply b2_ | apply b3_ | apply b4_ | apply b5_ | apply b6_); exact bdC.le ‹_› (by decide)) | decide | exact Nat.le_trans (keyNum_size _ _ ‹_›) (by decide))) ?_
       rintro _ w23 ⟨rfl, m23, Q46⟩
       refine ⟨_, rfl, fun _ F24 => ?_⟩
       have S23 := At.frame0 S21.at' m23
       clear m23
       refine ⟨Sd.of (S21.trans S23) [] rfl, ?_⟩
       refine d_one (i := 5) (listed' := #[true, true, true, true, true, true, false, false, false, false, false]) rfl (by kernel_rfl) rfl rfl ?_
       refine f_call F24 CF_81 rfl rfl rfl rfl (lc (F24.ev 16 rfl) (lc (F24.ev 20 rfl) rfl)) (spec_l04Look_c (m := m) (key := kQ_ id page) (Rd.mq Q9 (S1.trans (S3.trans (S8.trans (S17.trans (S21.trans S23)))))) (Rd.mq Q10 (S1.trans (S3.trans (S8.trans (S17.trans (S21.trans S23)))))) (Rd.mq Q11 (S1.trans (S3.trans (S8.trans (S17.trans (S21.trans S23)))))) Q46 (by first | assumption | omega | ((repeat first | apply b1_ | apply b2_ | apply b3_ | apply b4_ | apply b5_ | apply b6_); exact bdC.le ‹_› (by decide)) | decide | exact Nat.le_trans (keyNum_size _ _ ‹_›) (by decide))) ?_
       rintro _ w25 ⟨Q3, Q5, Q4, Q0, Q2, Q1, Q6, Q8, Q7, rfl, m25, v25_0, v25_1, v25_2, Q50⟩
       refine ⟨_, rfl, fun _ F26 => ?_⟩
       have S25 := At.frame0 S23.at' m25
       have V25_0 := Rd.got0 S23.at' ((S1.trans (S3.trans (S8.trans (S17.trans (S21.trans S23))))).kp.size) v25_0 S25
       obtain ⟨ln25_0, le25_0, mx25_0, ni25_0⟩ := Rd.inv V25_0
       have V25_1 := Rd.got0 S23.at' ((S1.trans (S3.trans (S8.trans (S17.trans (S21.trans S23))))).kp.size) v25_1 S25
       obtain ⟨ln25_1, le25_1, mx25_1, ni25_1⟩ := Rd.inv V25_1
       have V25_2 := Rd.got0 S23.at' ((S1.trans (S3.trans (S8.trans (S17.trans (S21.trans S23))))).kp.size) v25_2 S25
       obtain ⟨ln25_2, le25_2, mx25_2, ni25_2⟩ := Rd.inv V25_2
       clear m25 v25_0 v25_1 v25_2
       refine ⟨Sd.of (S21.trans (S23.trans S25)) [] rfl, ?_⟩
       refine g_take F26 rfl (i := 6) (listed' := #[true, true, true, true, true, true, true, false, false, false, false]) rfl (by kernel_rfl) (by kernel_rfl) (by kernel_rfl) (fun _ _ _ h => h) (Sd.of (S21.trans (S23.trans S25)) [] rfl) rfl rfl rfl rfl (fun _ hz => (r_move rfl (F26.ev 21 rfl))) fun _ F27 => ?_
       refine g_take (v := .agg #[.slice Q3 Q5 Q4, .slice Q0 Q2 Q1, .slice Q6 Q8 Q7]) F27 rfl (i := 7) (listed' := #[true, true, true, true, true, true, true, true, false, false, false]) rfl (by kernel_rfl) (by kernel_rfl) (by kernel_rfl) (fun _ _ _ h => h) (Sd.of (S21.trans (S23.trans S25)) [] rfl) rfl rfl rfl rfl (fun _ hz => (r_extract rfl (F27.ev 15 rfl) rfl)) fun _ F28 => ?_
       refine g_take (v := .string (getKey m.store (kQ_ id page))) F28 rfl (i := 8) (listed' := #[true, true, true, true, true, true, true, true, true, false, false]) rfl (by kernel_rfl) (by kernel_rfl) (by kernel_rfl) (fun _ _ _ h => h) (Sd.of (S21.trans (S23.trans S25)) [] rfl) rfl rfl rfl rfl (fun _ hz => (r_extract rfl (F28.ev 15 rfl) rfl)) fun _ F29 => ?_
       refine d_one (i := 9) (listed' := #[true, true, true, true, true, true, true, true, true, true, false]) rfl (by kernel_rfl) rfl rfl ?_
       refine s_store S25.at' 1 TI_29 rfl rfl rfl rfl rfl (F29.ev 3 rfl) (F29.ev 22 rfl) rfl rfl rfl rfl rfl fun w30 S30 => ?_
       refine ⟨Sd.of (S21.trans (S23.trans (S25.trans S30))) [] rfl, ?_⟩
       refine g_take F29 rfl (i := 10) (listed' := #[true, true, true, true, true, true, true, true, true, true, true]) rfl (by kernel_rfl) (by kernel_rfl) (by kernel_rfl) (fun _ _ _ h => h) (Sd.of (S21.trans (S23.trans (S25.trans S30))) [] rfl) rfl rfl rfl rfl (fun _ hz => (r_assign rfl (F29.ev 23 rfl))) fun _ F31 => ?_
       refine wpAnyH_done (by kernel_rfl) (x_normal ?_) _
       exact ⟨Q3, Q5, Q4, Q0, Q2, Q1, Q6, Q8, Q7, F31.cut rfl, ((S17.trans (S21.trans (S23.trans (S25.trans S30)))).pick [1, 0] rfl), (Rd.mq (Rd.mq V25_0 S30) (Mv.pick (Mv.refl S30.at') [1, 0] rfl)), (Rd.mq (Rd.mq V25_1 S30) (Mv.pick (Mv.refl S30.at') [1, 0] rfl)), (Rd.mq (Rd.mq V25_2 S30) (Mv.pick (Mv.refl S30.at') [1, 0] rfl)), Q50⟩
     · skip
       refine f_call F19 CF_77 rfl rfl rfl rfl (lc (F19.ev 17 rfl) rfl) (spec_l11Head_c (H := fun _ => True) (id := id) h_id) ?_
       rintro _ w32 ⟨rfl, m32, Q13⟩
       refine ⟨_, rfl, fun _ F33 => ?_⟩
       have S32 := At.frame0 S17.at' m32
       clear m32
       refine ⟨Sd.of S32 [] rfl, ?_⟩
       refine d_all (rs := [0, 4]) rfl (by kernel_rfl) (by simp) (d_cons (i := 0) (listed' := #[true, true, true, true, false, false, false, false, false, false, false]) rfl rfl ?_ (d_cons (i := 4) (listed' := #[false, true, true, true, true, false, false, false, false, false, false]) rfl rfl ?_ d_nil))
       · skip
         refine f_val (v := .agg #[.slice m_Sa m_Sn m_Sc, .slice m_Ra m_Rn m_Rc, .slice m_Wa m_Wn m_Wc]) F33 rfl rfl (r_loadB S32.at' 1 TI_29 rfl rfl (F33.ev 3 rfl) rfl rfl (fun h => nomatch h) rfl) rfl fun _ F34 => ?_
         refine ⟨Sd.of S32 [] rfl, ?_⟩
         refine d_one (i := 4) (listed' := #[true, true, true, true, true, false, false, false, false, false, false]) rfl (by kernel_rfl) rfl rfl ?_
         refine f_call F34 CF_76 rfl rfl rfl rfl (lc (F34.ev 18 rfl) (lc (F34.ev 19 rfl) (lc rfl rfl))) (spec_KeyNum_c (H := fun _ => True) (head := kP_ id) (n := page) (tail := bE_) Q13 Q12 (by unfold okS; decide) (by first | assumption | omega | ((repeat first | apply b1_ | apply b2_ | apply b3_ | apply b4_ | apply b5_ | apply b6_); exact bdC.le ‹_› (by decide)) | decide | exact Nat.le_trans (keyNum_size _ _ ‹_›) (by decide)) (by first | assumption | omega | ((repeat first | apply b1_ | apply b2_ | apply b3_ | apply b4_ | apply b5_ | apply b6_); exact bdC.le ‹_› (by decide)) | decide | exact Nat.le_trans (keyNum_size _ _ ‹_›) (by decide))) ?_
         rintro _ w35 ⟨rfl, m35, Q47⟩
         refine ⟨_, rfl, fun _ F36 => ?_⟩
         have S35 := At.frame0 S32.at' m35
         clear m35
         refine ⟨Sd.of (S32.trans S35) [] rfl, ?_⟩
         refine d_one (i := 5) (listed' := #[true, true, true, true, true, true, false, false, false, false, false]) rfl (by kernel_rfl) rfl rfl ?_
         refine f_call F36 CF_81 rfl rfl rfl rfl (lc (F36.ev 16 rfl) (lc (F36.ev 20 rfl) rfl)) (spec_l04Look_c (m := m) (key := kQ_ id page) (Rd.mq Q9 (S1.trans (S3.trans (S8.trans (S17.trans (S32.trans S35)))))) (Rd.mq Q10 (S1.trans (S3.trans (S8.trans (S17.trans (S32.trans S35)))))) (Rd.mq Q11 (S1.trans (S3.trans (S8.trans (S17.trans (S32.trans S35)))))) Q47 (by first | assumption | omega | ((repeat first | apply b1_ | apply b2_ | apply b3_ | apply b4_ | apply b5_ | apply b6_); exact bdC.le ‹_› (by decide)) | decide | exact Nat.le_trans (keyNum_size _ _ ‹_›) (by decide))) ?_
         rintro _ w37 ⟨Q24, Q30, Q27, Q15, Q21, Q18, Q33, Q39, Q36, rfl, m37, v37_0, v37_1, v37_2, Q51⟩
         refine ⟨_, rfl, fun _ F38 => ?_⟩
         have S37 := At.frame0 S35.at' m37
         have V37_0 := Rd.got0 S35.at' ((S1.trans (S3.trans (S8.trans (S17.trans (S32.trans S35))))).kp.size) v37_0 S37
         obtain ⟨ln37_0, le37_0, mx37_0, ni37_0⟩ := Rd.inv V37_0
         have V37_1 := Rd.got0 S35.at' ((S1.trans (S3.trans (S8.trans (S17.trans (S32.trans S35))))).kp.size) v37_1 S37
         obtain ⟨ln37_1, le37_1, mx37_1, ni37_1⟩ := Rd.inv V37_1
         have V37_2 := Rd.got0 S35.at' ((S1.trans (S3.trans (S8.trans (S17.trans (S32.trans S35))))).kp.size) v37_2 S37
         obtain ⟨ln37_2, le37_2, mx37_2, ni37_2⟩ := Rd.inv V37_2
         clear m37 v37_0 v37_1 v37_2
         refine ⟨Sd.of (S32.trans (S35.trans S37)) [] rfl, ?_⟩
         refine g_take F38 rfl (i := 6) (listed' := #[true, true, true, true, true, true, true, false, false, false, false]) rfl (by kernel_rfl) (by kernel_rfl) (by kernel_rfl) (fun _ _ _ h => h) (Sd.of (S32.trans (S35.trans S37)) [] rfl) rfl rfl rfl rfl (fun _ hz => (r_move rfl (F38.ev 21 rfl))) fun _ F39 => ?_
         refine g_take (v := .agg #[.slice Q24 Q30 Q27, .slice Q15 Q21 Q18, .slice Q33 Q39 Q36]) F39 rfl (i := 7) (listed' := #[true, true, true, true, true, true, true, true, false, false, false]) rfl (by kernel_rfl) (by kernel_rfl) (by kernel_rfl) (fun _ _ _ h => h) (Sd.of (S32.trans (S35.trans S37)) [] rfl) rfl rfl rfl rfl (fun _ hz => (r_extract rfl (F39.ev 15 rfl) rfl)) fun _ F40 => ?_
         refine g_take (v := .string (getKey m.store (kQ_ id page))) F40 rfl (i := 8) (listed' := #[true, true, true, true, true, true, true, true, true, false, false]) rfl (by kernel_rfl) (by kernel_rfl) (by kernel_rfl) (fun _ _ _ h => h) (Sd.of (S32.trans (S35.trans S37)) [] rfl) rfl rfl rfl rfl (fun _ hz => (r_extract rfl (F40.ev 15 rfl) rfl)) fun _ F41 => ?_
         refine d_one (i := 9) (listed' := #[true, true, true, true, true, true, true, true, true, true, false]) rfl (by kernel_rfl) rfl rfl ?_
         refine s_store S37.at' 1 TI_29 rfl rfl rfl rfl rfl (F41.ev 3 rfl) (F41.ev 22 rfl) rfl rfl rfl rfl rfl fun w42 S42 => ?_
         refine ⟨Sd.of (S32.trans (S35.trans (S37.trans S42))) [] rfl, ?_⟩
         refine g_take F41 rfl (i := 10) (listed' := #[true, true, true, true, true, true, true, true, true, true, true]) rfl (by kernel_rfl) (by kernel_rfl) (by kernel_rfl) (fun _ _ _ h => h) (Sd.of (S32.trans (S35.trans (S37.trans S42))) [] rfl) rfl rfl rfl rfl (fun _ hz => (r_assign rfl (F41.ev 23 rfl))) fun _ F43 => ?_
         refine wpAnyH_done (by kernel_rfl) (x_normal ?_) _
         exact ⟨Q24, Q30, Q27, Q15, Q21, Q18, Q33, Q39, Q36, F43.cut rfl, ((S17.trans (S32.trans (S35.trans (S37.trans S42)))).pick [1, 0] rfl), (Rd.mq (Rd.mq V37_0 S42) (Mv.pick (Mv.refl S42.at') [1, 0] rfl)), (Rd.mq (Rd.mq V37_1 S42) (Mv.pick (Mv.refl S42.at') [1, 0] rfl)), (Rd.mq (Rd.mq V37_2 S42) (Mv.pick (Mv.refl S42.at') [1, 0] rfl)), Q51⟩
       · skip
         refine f_call F33 CF_76 rfl rfl rfl rfl (lc (F33.ev 18 rfl) (lc (F33.ev 19 rfl) (lc rfl rfl))) (spec_KeyNum_c (H := fun _ => True) (head := kP_ id) (n := page) (tail := bE_) Q13 Q12 (by unfold okS; decide) (by first | assumption | omega | ((repeat first | apply b1_ | apply b2_ | apply b3_ | apply b4_ | apply b5_ | apply b6_); exact bdC.le ‹_› (by decide)) | decide | exact Nat.le_trans (keyNum_size _ _ ‹_›) (by decide)) (by first | assumption | omega | ((repeat first | apply b1_ | apply b2_ | apply b3_ | apply b4_ | apply b5_ | apply b6_); exact bdC.le ‹_› (by decide)) | decide | exact Nat.le_trans (keyNum_size _ _ ‹_›) (by decide))) ?_
         rintro _ w44 ⟨rfl, m44, Q48⟩
         refine ⟨_, rfl, fun _ F45 => ?_⟩
         have S44 := At.frame0 S32.at' m44
         clear m44
         refine ⟨Sd.of (S32.trans S44) [] rfl, ?_⟩
         refine d_one (i := 0) (listed' := #[true, true, true, true, true, false, false, false, false, false, false]) rfl (by kernel_rfl) rfl rfl ?_
         refine f_val (v := .agg #[.slice m_Sa m_Sn m_Sc, .slice m_Ra m_Rn m_Rc, .slice m_Wa m_Wn m_Wc]) F45 rfl rfl (r_loadB S44.at' 1 TI_29 rfl rfl (F45.ev 3 rfl) rfl rfl (fun h => nomatch h) rfl) rfl fun _ F46 => ?_
         refine ⟨Sd.of (S32.trans S44) [] rfl, ?_⟩
         refine d_one (i := 5) (listed' := #[true, true, true, true, true, true, false, false, false, false, false]) rfl (by kernel_rfl) rfl rfl ?_
         refine f_call F46 CF_81 rfl rfl rfl rfl (lc (F46.ev 16 rfl) (lc (F46.ev 20 rfl) rfl)) (spec_l04Look_c (m := m) (key := kQ_ id page) (Rd.mq Q9 (S1.trans (S3.trans (S8.trans (S17.trans (S32.trans S44)))))) (Rd.mq Q10 (S1.trans (S3.trans (S8.trans (S17.trans (S32.trans S44)))))) (Rd.mq Q11 (S1.trans (S3.trans (S8.trans (S17.trans (S32.trans S44)))))) Q48 (by first | assumption | omega | ((repeat first | apply b1_ | apply b2_ | apply b3_ | apply b4_ | apply b5_ | apply b6_); exact bdC.le ‹_› (by decide)) | decide | exact Nat.le_trans (keyNum_size _ _ ‹_›) (by decide))) ?_
         rintro _ w47 ⟨Q25, Q31, Q28, Q16, Q22, Q19, Q34, Q40, Q37, rfl, m47, v47_0, v47_1, v47_2, Q52⟩
         refine ⟨_, rfl, fun _ F48 => ?_⟩
         have S47 := At.frame0 S44.at' m47
         have V47_0 := Rd.got0 S44.at' ((S1.trans (S3.trans (S8.trans (S17.trans (S32.trans S44))))).kp.size) v47_0 S47
         obtain ⟨ln47_0, le47_0, mx47_0, ni47_0⟩ := Rd.inv V47_0
         have V47_1 := Rd.got0 S44.at' ((S1.trans (S3.trans (S8.trans (S17.trans (S32.trans S44))))).kp.size) v47_1 S47
         obtain ⟨ln47_1, le47_1, mx47_1, ni47_1⟩ := Rd.inv V47_1
         have V47_2 := Rd.got0 S44.at' ((S1.trans (S3.trans (S8.trans (S17.trans (S32.trans S44))))).kp.size) v47_2 S47
         obtain ⟨ln47_2, le47_2, mx47_2, ni47_2⟩ := Rd.inv V47_2
         clear m47 v47_0 v47_1 v47_2
         refine ⟨Sd.of (S32.trans (S44.trans S47)) [] rfl, ?_⟩
         refine g_take F48 rfl (i := 6) (listed' := #[true, true, true, true, true, true, true, false, false, false, false]) rfl (by kernel_rfl) (by kernel_rfl) (by kernel_rfl) (fun _ _ _ h => h) (Sd.of (S32.trans (S44.trans S47)) [] rfl) rfl rfl rfl rfl (fun _ hz => (r_move rfl (F48.ev 21 rfl))) fun _ F49 => ?_
         refine g_take (v := .agg #[.slice Q25 Q31 Q28, .slice Q16 Q22 Q19, .slice Q34 Q40 Q37]) F49 rfl (i := 7) (listed' := #[true, true, true, true, true, true, true, true, false, false, false]) rfl (by kernel_rfl) (by kernel_rfl) (by kernel_rfl) (fun _ _ _ h => h) (Sd.of (S32.trans (S44.trans S47)) [] rfl) rfl rfl rfl rfl (fun _ hz => (r_extract rfl (F49.ev 15 rfl) rfl)) fun _ F50 => ?_
         refine g_take (v := .string (getKey m.store (kQ_ id page))) F50 rfl (i := 8) (listed' := #[true, true, true, true, true, true, true, true, true, false, false]) rfl (by kernel_rfl) (by kernel_rfl) (by kernel_rfl) (fun _ _ _ h => h) (Sd.of (S32.trans (S44.trans S47)) [] rfl) rfl rfl rfl rfl (fun _ hz => (r_extract rfl (F50.ev 15 rfl) rfl)) fun _ F51 => ?_
         refine d_one (i := 9) (listed' := #[true, true, true, true, true, true, true, true, true, true, false]) rfl (by kernel_rfl) rfl rfl ?_
         refine s_store S47.at' 1 TI_29 rfl rfl rfl rfl rfl (F51.ev 3 rfl) (F51.ev 22 rfl) rfl rfl rfl rfl rfl fun w52 S52 => ?_
         refine ⟨Sd.of (S32.trans (S44.trans (S47.trans S52))) [] rfl, ?_⟩
         refine g_take F51 rfl (i := 10) (listed' := #[true, true, true, true, true, true, true, true, true, true, true]) rfl (by kernel_rfl) (by kernel_rfl) (by kernel_rfl) (fun _ _ _ h => h) (Sd.of (S32.trans (S44.trans (S47.trans S52))) [] rfl) rfl rfl rfl rfl (fun _ hz => (r_assign rfl (F51.ev 23 rfl))) fun _ F53 => ?_
         refine wpAnyH_done (by kernel_rfl) (x_normal ?_) _
         exact ⟨Q25, Q31, Q28, Q16, Q22, Q19, Q34, Q40, Q37, F53.cut rfl, ((S17.trans (S32.trans (S44.trans (S47.trans S52)))).pick [1, 0] rfl), (Rd.mq (Rd.mq V47_0 S52) (Mv.pick (Mv.refl S52.at') [1, 0] rfl)), (Rd.mq (Rd.mq V47_1 S52) (Mv.pick (Mv.refl S52.at') [1, 0] rfl)), (Rd.mq (Rd.mq V47_2 S52) (Mv.pick (Mv.refl S52.at') [1, 0] rfl)), Q52⟩
   · rintro a54 w54 ⟨Q3, Q5, Q4, Q0, Q2, Q1, Q6, Q8, Q7, F54, S54, V54_0, V54_1, V54_2, Q44⟩
     obtain ⟨ln54_0, le54_0, mx54_0, ni54_0⟩ := Rd.inv V54_0
     obtain ⟨ln54_1, le54_1, mx54_1, ni54_1⟩ := Rd.inv V54_1
     obtain ⟨ln54_2, le54_2, mx54_2, ni54_2⟩ := Rd.inv V54_2
     refine x_normal (wp_seq (wp_region_lit (l_op (f_val F54 rfl rfl (r_assign rfl rfl) rfl fun _ F55 => ?_))))
     refine s_end (x_normal (wp_seq (wp_seq (wp_region_lit (l_op (f_mv F55 rfl rfl rfl rfl rfl fun _ F56 => ?_))))))
     refine l_op (f_val F56 rfl rfl (r_cmps (b := (decide ((getKey m.store (kQ_ id page)) ≠ bE_))) (.inr (.inl rfl)) rfl (F56.ev 24 rfl) rfl rfl) rfl fun _ F57 => ?_)
     refine l_op (f_mv F57 rfl rfl rfl rfl rfl fun _ F58 => ?_)
     rcases Decidable.em ((getKey m.store (kQ_ id page)) ≠ bE_) with h59 | h59
     · rw [decide_eq_true h59] at F58
       refine l_op (f_mv F58 (wanted_g F58 rfl rfl rfl rfl) rfl rfl rfl rfl fun _ F60 => ?_)
       refine l_op (f_val F60 (wanted_g F60 rfl rfl rfl rfl) rfl (r_indexS (i := 0) Tryz.underlying9 rfl (F60.ev 27 rfl) rfl (by omega) (ne_size ‹_›)) rfl fun _ F61 => ?_)
       refine l_op (f_val F61 (wanted_g F61 rfl rfl rfl rfl) rfl (r_cmp (b := decide (byteAt (getKey m.store (kQ_ id page)) 0 = 45)) (.inl rfl) rfl (F61.ev 28 rfl) rfl (dec_of (by omega))) rfl fun _ F62 => ?_)
       refine l_op (f_val F62 rfl rfl (r_pick (b := true) rfl (F62.ev 26 rfl) (F62.ev 29 rfl)) rfl fun _ F63 => ?_)
       refine s_end (x_normal (x_cond (p := byteAt (getKey m.store (kQ_ id page)) 0 = 45) (F63.ev 30 rfl) (fun h64 => ?_) (fun h64 => ?_)))
       · skip
         refine wp_region_lit (l_op (f_mv F63 rfl rfl rfl rfl rfl fun _ F65 => ?_))
         refine l_op (f_val F65 rfl rfl (r_sliceS (l := 1) (h := (getKey m.store (kQ_ id page)).size) Tryz.underlying9 rfl (F65.ev 32 rfl) rfl rfl (by have := ne_size ‹_›; omega) (by have := ne_size ‹_›; omega) rfl) rfl fun _ F66 => ?_)
         refine l_op (f_call F66 CF_82 rfl rfl rfl rfl (lc (F66.ev 33 rfl) rfl) (spec_Unhex_c (H := fun _ => True) (text := (getKey m.store (kQ_ id page)).extract 1 (getKey m.store (kQ_ id page)).size) (okS_ext Q44)) ?_)
         rintro _ w67 ⟨rfl, m67, Q49⟩
         refine ⟨_, rfl, fun _ F68 => ?_⟩
         have S67 := At.frame0 S54.at' m67
         clear m67
         refine l_op (f_mv F68 rfl rfl rfl rfl rfl fun _ F69 => ?_)
         refine l_op (f_val (v := .string (unhexT ((getKey m.store (kQ_ id page)).extract 1 (getKey m.store (kQ_ id page)).size))) F69 rfl rfl (r_extract rfl (F69.ev 31 rfl) rfl) rfl fun _ F70 => ?_)
         refine l_op (f_val (v := .bool (unhexB ((getKey m.store (kQ_ id page)).extract 1 (getKey m.store (kQ_ id page)).size))) F70 rfl rfl (r_extract rfl (F70.ev 31 rfl) rfl) rfl fun _ F71 => ?_)
         refine l_op (f_as F71 rfl rfl rfl rfl rfl fun _ F72 => ?_)
         refine s_end (x_normal (wp_seq (wp_region_lit (l_op (f_val (v := .agg #[.slice Q3 Q5 Q4, .slice Q0 Q2 Q1, .slice Q6 Q8 Q7]) F72 rfl rfl (r_loadB S67.at' 1 TI_29 rfl rfl (F72.ev 3 rfl) rfl rfl (fun h => nomatch h) rfl) rfl fun _ F73 => ?_)))))
         refine l_op (f_mv F73 rfl rfl rfl rfl rfl fun _ F74 => ?_)
         refine l_op (s_store S67.at' 0 TI_29 rfl rfl rfl rfl rfl (F74.ev 6 rfl) (F74.ev 37 rfl) rfl rfl rfl rfl rfl fun w75 S75 => ?_)
         refine l_op (f_as F74 rfl rfl rfl rfl rfl fun _ F76 => ?_)
         refine l_op (f_val F76 rfl rfl (r_assign rfl rfl) rfl fun _ F77 => ?_)
         have T78 : Mv _ _ [bx b3 [.slice Q3 Q5 Q4, .slice Q0 Q2 Q1, .slice Q6 Q8 Q7] 29, bx b1 [.slice Q3 Q5 Q4, .slice Q0 Q2 Q1, .slice Q6 Q8 Q7] 29] _ := S75
         refine s_end (x_normal (wp_ret ?_))
         refine x_done (v := .tuple #[.agg #[.slice Q3 Q5 Q4, .slice Q0 Q2 Q1, .slice Q6 Q8 Q7], .string (unhexT ((getKey m.store (kQ_ id page)).extract 1 (getKey m.store (kQ_ id page)).size)), .int .i64 0]) F77 (results_3 Tryz.results44 (.cell (F77.ev 6 rfl) (run_loadVar' TI_29 _ [.slice Q3 Q5 Q4, .slice Q0 Q2 Q1, .slice Q6 Q8 Q7] rfl (fun h => nomatch h) (At.cells T78.at' 0 rfl 0 [.slice Q3 Q5 Q4, .slice Q0 Q2 Q1, .slice Q6 Q8 Q7] rfl))) (.tmp (F77.ev 7 rfl)) (.tmp (F77.ev 8 rfl))) ?_
         exact ⟨Q3, Q5, Q4, Q0, Q2, Q1, Q6, Q8, Q7, (by rw [(show (unhexT ((getKey m.store (kQ_ id page)).extract 1 (getKey m.store (kQ_ id page)).size)) = (loadT m (kQ_ id page) page) from by first | with_reducible exact loadC_t (nf ‹_›) | with_reducible exact loadC_f (nt ‹_›) | with_reducible exact loadT_t (nf ‹_›) | with_reducible exact loadT_f (nt ‹_›) | rw [loadM_t (nf ‹_›)] | rw [loadM_f (nt ‹_›)] | with_reducible exact (msg_a ‹_› ‹_›).trans (loadT_t (nf ‹_›)) | with_reducible exact (msg_b ‹_›).trans (loadT_t (nf ‹_›)) | with_reducible exact (msg_c ‹_›).trans (loadT_t (nf ‹_›))), (show 0 = (loadC page) from by first | with_reducible exact loadC_t (nf ‹_›) | with_reducible exact loadC_f (nt ‹_›) | with_reducible exact loadT_t (nf ‹_›) | with_reducible exact loadT_f (nt ‹_›) | rw [loadM_t (nf ‹_›)] | rw [loadM_f (nt ‹_›)] | with_reducible exact (msg_a ‹_› ‹_›).trans (loadT_t (nf ‹_›)) | with_reducible exact (msg_b ‹_›).trans (loadT_t (nf ‹_›)) | with_reducible exact (msg_c ‹_›).trans (loadT_t (nf ‹_›)))]), (Mv.pick (S1.trans (S3.trans (S8.trans (S54.trans (S67.trans T78))))) [] rfl), (Rd.cast (Rd.give (Rd.mq V54_0 (S67.trans T78))) (show (lookM m (kQ_ id page)).store = (loadM m (kQ_ id page) page).store from by first | with_reducible exact loadC_t (nf ‹_›) | with_reducible exact loadC_f (nt ‹_›) | with_reducible exact loadT_t (nf ‹_›) | with_reducible exact loadT_f (nt ‹_›) | rw [loadM_t (nf ‹_›)] | rw [loadM_f (nt ‹_›)] | with_reducible exact (msg_a ‹_› ‹_›).trans (loadT_t (nf ‹_›)) | with_reducible exact (msg_b ‹_›).trans (loadT_t (nf ‹_›)) | with_reducible exact (msg_c ‹_›).trans (loadT_t (nf ‹_›)))), (Rd.cast (Rd.give (Rd.mq V54_1 (S67.trans T78))) (show (lookM m (kQ_ id page)).touch.reads = (loadM m (kQ_ id page) page).touch.reads from by first | with_reducible exact loadC_t (nf ‹_›) | with_reducible exact loadC_f (nt ‹_›) | with_reducible exact loadT_t (nf ‹_›) | with_reducible exact loadT_f (nt ‹_›) | rw [loadM_t (nf ‹_›)] | rw [loadM_f (nt ‹_›)] | with_reducible exact (msg_a ‹_› ‹_›).trans (loadT_t (nf ‹_›)) | with_reducible exact (msg_b ‹_›).trans (loadT_t (nf ‹_›)) | with_reducible exact (msg_c ‹_›).trans (loadT_t (nf ‹_›)))), (Rd.cast (Rd.give (Rd.mq V54_2 (S67.trans T78))) (show (lookM m (kQ_ id page)).touch.writes = (loadM m (kQ_ id page) page).touch.writes from by first | with_reducible exact loadC_t (nf ‹_›) | with_reducible exact loadC_f (nt ‹_›) | with_reducible exact loadT_t (nf ‹_›) | with_reducible exact loadT_f (nt ‹_›) | rw [loadM_t (nf ‹_›)] | rw [loadM_f (nt ‹_›)] | with_reducible exact (msg_a ‹_› ‹_›).trans (loadT_t (nf ‹_›)) | with_reducible exact (msg_b ‹_›).trans (loadT_t (nf ‹_›)) | with_reducible exact (msg_c ‹_›).trans (loadT_t (nf ‹_›)))), ((show (unhexT ((getKey m.store (kQ_ id page)).extract 1 (getKey m.store (kQ_ id page)).size)) = (loadT m (kQ_ id page) page) from by first | with_reducible exact loadC_t (nf ‹_›) | with_reducible exact loadC_f (nt ‹_›) | with_reducible exact loadT_t (nf ‹_›) | with_reducible exact loadT_f (nt ‹_›) | rw [loadM_t (nf ‹_›)] | rw [loadM_f (nt ‹_›)] | with_reducible exact (msg_a ‹_› ‹_›).trans (loadT_t (nf ‹_›)) | with_reducible exact (msg_b ‹_›).trans (loadT_t (nf ‹_›)) | with_reducible exact (msg_c ‹_›).trans (loadT_t (nf ‹_›))) ▸ Q49)⟩
       · skip
         refine wp_skip (x_normal (wp_seq (wp_region_lit (l_op (f_val (v := .agg #[.slice Q3 Q5 Q4, .slice Q0 Q2 Q1, .slice Q6 Q8 Q7]) F63 rfl rfl (r_loadB S54.at' 1 TI_29 rfl rfl (F63.ev 3 rfl) rfl rfl (fun h => nomatch h) rfl) rfl fun _ F79 => ?_)))))
         refine l_op (f_mv F79 rfl rfl rfl rfl rfl fun _ F80 => ?_)
         refine l_op (s_store S54.at' 0 TI_29 rfl rfl rfl rfl rfl (F80.ev 6 rfl) (F80.ev 37 rfl) rfl rfl rfl rfl rfl fun w81 S81 => ?_)
         refine l_op (f_as F80 rfl rfl rfl rfl rfl fun _ F82 => ?_)
         refine l_op (f_val F82 rfl rfl (r_assign rfl rfl) rfl fun _ F83 => ?_)
         refine s_end (x_normal (wp_ret ?_))
         refine x_done (v := .tuple #[.agg #[.slice Q3 Q5 Q4, .slice Q0 Q2 Q1, .slice Q6 Q8 Q7], .string bE_, .int .i64 0]) F83 (results_3 Tryz.results44 (.cell (F83.ev 6 rfl) (run_loadVar' TI_29 _ [.slice Q3 Q5 Q4, .slice Q0 Q2 Q1, .slice Q6 Q8 Q7] rfl (fun h => nomatch h) (At.cells S81.at' 0 rfl 0 [.slice Q3 Q5 Q4, .slice Q0 Q2 Q1, .slice Q6 Q8 Q7] rfl))) (.tmp (F83.ev 7 rfl)) (.tmp (F83.ev 8 rfl))) ?_
         exact ⟨Q3, Q5, Q4, Q0, Q2, Q1, Q6, Q8, Q7, ((congrArg (fun zZ => Ending.returned (.tuple #[.agg #[.slice Q3 Q5 Q4, .slice Q0 Q2 Q1, .slice Q6 Q8 Q7], .string zZ, .int .i64 0])) (show bE_ = (loadT m (kQ_ id page) page) from by first | with_reducible exact loadC_t (nf ‹_›) | with_reducible exact loadC_f (nt ‹_›) | with_reducible exact loadT_t (nf ‹_›) | with_reducible exact loadT_f (nt ‹_›) | rw [loadM_t (nf ‹_›)] | rw [loadM_f (nt ‹_›)] | with_reducible exact (msg_a ‹_› ‹_›).trans (loadT_t (nf ‹_›)) | with_reducible exact (msg_b ‹_›).trans (loadT_t (nf ‹_›)) | with_reducible exact (msg_c ‹_›).trans (loadT_t (nf ‹_›)))).trans (congrArg (fun zZ => Ending.returned (.tuple #[.agg #[.slice Q3 Q5 Q4, .slice Q0 Q2 Q1, .slice Q6 Q8 Q7], .string (loadT m (kQ_ id page) page), .int .i64 zZ])) (show 0 = (loadC page) from by first | with_reducible exact loadC_t (nf ‹_›) | with_reducible exact loadC_f (nt ‹_›) | with_reducible exact loadT_t (nf ‹_›) | with_reducible exact loadT_f (nt ‹_›) | rw [loadM_t (nf ‹_›)] | rw [loadM_f (nt ‹_›)] | with_reducible exact (msg_a ‹_› ‹_›).trans (loadT_t (nf ‹_›)) | with_reducible exact (msg_b ‹_›).trans (loadT_t (nf ‹_›)) | with_reducible exact (msg_c ‹_›).trans (loadT_t (nf ‹_›))))), (Mv.pick (S1.trans (S3.trans (S8.trans (S54.trans S81)))) [] rfl), (Rd.cast (Rd.give (Rd.mq V54_0 S81)) (show (lookM m (kQ_ id page)).store = (loadM m (kQ_ id page) page).store from by first | with_reducible exact loadC_t (nf ‹_›) | with_reducible exact loadC_f (nt ‹_›) | with_reducible exact loadT_t (nf ‹_›) | with_reducible exact loadT_f (nt ‹_›) | rw [loadM_t (nf ‹_›)] | rw [loadM_f (nt ‹_›)] | with_reducible exact (msg_a ‹_› ‹_›).trans (loadT_t (nf ‹_›)) | with_reducible exact (msg_b ‹_›).trans (loadT_t (nf ‹_›)) | with_reducible exact (msg_c ‹_›).trans (loadT_t (nf ‹_›)))), (Rd.cast (Rd.give (Rd.mq V54_1 S81)) (show (lookM m (kQ_ id page)).touch.reads = (loadM m (kQ_ id page) page).touch.reads from by first | with_reducible exact loadC_t (nf ‹_›) | with_reducible exact loadC_f (nt ‹_›) | with_reducible exact loadT_t (nf ‹_›) | with_reducible exact loadT_f (nt ‹_›) | rw [loadM_t (nf ‹_›)] | rw [loadM_f (nt ‹_›)] | with_reducible exact (msg_a ‹_› ‹_›).trans (loadT_t (nf ‹_›)) | with_reducible exact (msg_b ‹_›).trans (loadT_t (nf ‹_›)) | with_reducible exact (msg_c ‹_›).trans (loadT_t (nf ‹_›)))), (Rd.cast (Rd.give (Rd.mq V54_2 S81)) (show (lookM m (kQ_ id page)).touch.writes = (loadM m (kQ_ id page) page).touch.writes from by first | with_reducible exact loadC_t (nf ‹_›) | with_reducible exact loadC_f (nt ‹_›) | with_reducible exact loadT_t (nf ‹_›) | with_reducible exact loadT_f (nt ‹_›) | rw [loadM_t (nf ‹_›)] | rw [loadM_f (nt ‹_›)] | with_reducible exact (msg_a ‹_› ‹_›).trans (loadT_t (nf ‹_›)) | with_reducible exact (msg_b ‹_›).trans (loadT_t (nf ‹_›)) | with_reducible exact (msg_c ‹_›).trans (loadT_t (nf ‹_›)))), ((show bE_ = (loadT m (kQ_ id page) page) from by first | with_reducible exact loadC_t (nf ‹_›) | with_reducible exact loadC_f (nt ‹_›) | with_reducible exact loadT_t (nf ‹_›) | with_reducible exact loadT_f (nt ‹_›) | rw [loadM_t (nf ‹_›)] | rw [loadM_f (nt ‹_›)] | with_reducible exact (msg_a ‹_› ‹_›).trans (loadT_t (nf ‹_›)) | with_reducible exact (msg_b ‹_›).trans (loadT_t (nf ‹_›)) | with_reducible exact (msg_c ‹_›).trans (loadT_t (nf ‹_›))) ▸ (by unfold okS; decide))⟩
     · rw [decide_eq_false h59] at F58
       refine l_op (f_skip F58 (wanted_g F58 rfl rfl rfl rfl) rfl rfl fun _ F84 => ?_)
       refine l_op (f_skip F84 (wanted_g F84 rfl rfl rfl rfl) rfl rfl fun _ F85 => ?_)
       refine l_op (f_skip F85 (wanted_g F85 rfl rfl rfl rfl) rfl rfl fun _ F86 => ?_)
       refine l_op (f_val F86 rfl rfl (r_pick (b := false) rfl (F86.ev 26 rfl) rfl) rfl fun _ F87 => ?_)
       refine s_end (x_normal (wp_cond_false (F87.ev 30 rfl) (wp_skip (x_normal (wp_seq (wp_region_lit (l_op (f_val (v := .agg #[.slice Q3 Q5 Q4, .slice Q0 Q2 Q1, .slice Q6 Q8 Q7]) F87 rfl rfl (r_loadB S54.at' 1 TI_29 rfl rfl (F87.ev 3 rfl) rfl rfl (fun h => nomatch h) rfl) rfl fun _ F88 => ?_))))))))
       refine l_op (f_mv F88 rfl rfl rfl rfl rfl fun _ F89 => ?_)
       refine l_op (s_store S54.at' 0 TI_29 rfl rfl rfl rfl rfl (F89.ev 6 rfl) (F89.ev 37 rfl) rfl rfl rfl rfl rfl fun w90 S90 => ?_)
       refine l_op (f_as F89 rfl rfl rfl rfl rfl fun _ F91 => ?_)
       refine l_op (f_val F91 rfl rfl (r_assign rfl rfl) rfl fun _ F92 => ?_)
       refine s_end (x_normal (wp_ret ?_))
       refine x_done (v := .tuple #[.agg #[.slice Q3 Q5 Q4, .slice Q0 Q2 Q1, .slice Q6 Q8 Q7], .string bE_, .int .i64 0]) F92 (results_3 Tryz.results44 (.cell (F92.ev 6 rfl) (run_loadVar' TI_29 _ [.slice Q3 Q5 Q4, .slice Q0 Q2 Q1, .slice Q6 Q8 Q7] rfl (fun h => nomatch h) (At.cells S90.at' 0 rfl 0 [.slice Q3 Q5 Q4, .slice Q0 Q2 Q1, .slice Q6 Q8 Q7] rfl))) (.tmp (F92.ev 7 rfl)) (.tmp (F92.ev 8 rfl))) ?_
       exact ⟨Q3, Q5, Q4, Q0, Q2, Q1, Q6, Q8, Q7, ((congrArg (fun zZ => Ending.returned (.tuple #[.agg #[.slice Q3 Q5 Q4, .slice Q0 Q2 Q1, .slice Q6 Q8 Q7], .string zZ, .int .i64 0])) (show bE_ = (loadT m (kQ_ id page) page) from by first | with_reducible exact loadC_t (nf ‹_›) | with_reducible exact loadC_f (nt ‹_›) | with_reducible exact loadT_t (nf ‹_›) | with_reducible exact loadT_f (nt ‹_›) | rw [loadM_t (nf ‹_›)] | rw [loadM_f (nt ‹_›)] | with_reducible exact (msg_a ‹_› ‹_›).trans (loadT_t (nf ‹_›)) | with_reducible exact (msg_b ‹_›).trans (loadT_t (nf ‹_›)) | with_reducible exact (msg_c ‹_›).trans (loadT_t (nf ‹_›)))).trans (congrArg (fun zZ => Ending.returned (.tuple #[.agg #[.slice Q3 Q5 Q4, .slice Q0 Q2 Q1, .slice Q6 Q8 Q7], .string (loadT m (kQ_ id page) page), .int .i64 zZ])) (show 0 = (loadC page) from by first | with_reducible exact loadC_t (nf ‹_›) | with_reducible exact loadC_f (nt ‹_›) | with_reducible exact loadT_t (nf ‹_›) | with_reducible exact loadT_f (nt ‹_›) | rw [loadM_t (nf ‹_›)] | rw [loadM_f (nt ‹_›)] | with_reducible exact (msg_a ‹_› ‹_›).trans (loadT_t (nf ‹_›)) | with_reducible exact (msg_b ‹_›).trans (loadT_t (nf ‹_›)) | with_reducible exact (msg_c ‹_›).trans (loadT_t (nf ‹_›))))), (Mv.pick (S1.trans (S3.trans (S8.trans (S54.trans S90)))) [] rfl), (Rd.cast (Rd.give (Rd.mq V54_0 S90)) (show (lookM m (kQ_ id page)).store = (loadM m (kQ_ id page) page).store from by first | with_reducible exact loadC_t (nf ‹_›) | with_reducible exact loadC_f (nt ‹_›) | with_reducible exact loadT_t (nf ‹_›) | with_reducible exact loadT_f (nt ‹_›) | rw [loadM_t (nf ‹_›)] | rw [loadM_f (nt ‹_›)] | with_reducible exact (msg_a ‹_› ‹_›).trans (loadT_t (nf ‹_›)) | with_reducible exact (msg_b ‹_›).trans (loadT_t (nf ‹_›)) | with_reducible exact (msg_c ‹_›).trans (loadT_t (nf ‹_›)))), (Rd.cast (Rd.give (Rd.mq V54_1 S90)) (show (lookM m (kQ_ id page)).touch.reads = (loadM m (kQ_ id page) page).touch.reads from by first | with_reducible exact loadC_t (nf ‹_›) | with_reducible exact loadC_f (nt ‹_›) | with_reducible exact loadT_t (nf ‹_›) | with_reducible exact loadT_f (nt ‹_›) | rw [loadM_t (nf ‹_›)] | rw [loadM_f (nt ‹_›)] | with_reducible exact (msg_a ‹_› ‹_›).trans (loadT_t (nf ‹_›)) | with_reducible exact (msg_b ‹_›).trans (loadT_t (nf ‹_›)) | with_reducible exact (msg_c ‹_›).trans (loadT_t (nf ‹_›)))), (Rd.cast (Rd.give (Rd.mq V54_2 S90)) (show (lookM m (kQ_ id page)).touch.writes = (loadM m (kQ_ id page) page).touch.writes from by first | with_reducible exact loadC_t (nf ‹_›) | with_reducible exact loadC_f (nt ‹_›) | with_reducible exact loadT_t (nf ‹_›) | with_reducible exact loadT_f (nt ‹_›) | rw [loadM_t (nf ‹_›)] | rw [loadM_f (nt ‹_›)] | with_reducible exact (msg_a ‹_› ‹_›).trans (loadT_t (nf ‹_›)) | with_reducible exact (msg_b ‹_›).trans (loadT_t (nf ‹_›)) | with_reducible exact (msg_c ‹_›).trans (loadT_t (nf ‹_›)))), ((show bE_ = (loadT m (kQ_ id page) page) from by first | with_reducible exact loadC_t (nf ‹_›) | with_reducible exact loadC_f (nt ‹_›) | with_reducible exact loadT_t (nf ‹_›) | with_reducible exact loadT_f (nt ‹_›) | rw [loadM_t (nf ‹_›)] | rw [loadM_f (nt ‹_›)] | with_reducible exact (msg_a ‹_› ‹_›).trans (loadT_t (nf ‹_›)) | with_reducible exact (msg_b ‹_›).trans (loadT_t (nf ‹_›)) | with_reducible exact (msg_c ‹_›).trans (loadT_t (nf ‹_›))) ▸ (by unfold okS; decide))⟩
theorem impl_LoadPage_c {w : World} {H : Nat → Prop} {m : MachD} {m_Sa : Option Addr} {m_Sn m_Sc : Nat} {m_Ra : Option Addr} {m_Rn m_Rc : Nat} {m_Wa : Option Addr} {m_Wn m_Wc : Nat} {id : Int} {page : Int} (Q18 : Rd 2 encC okC H w (.slice m_Sa m_Sn m_Sc) m.store) (Q19 : Rd 1 encS okS H w (.slice m_Ra m_Rn m_Rc) m.touch.reads) (Q20 : Rd 1 encS okS H w (.slice m_Wa m_Wn m_Wc) m.touch.writes) (h_id : i64ok id) (Q24 : i64ok page) (tab0 : Tb 0 H w) (tab2 : Tb 2 H w) (p0 : bdC 34359738368 m) :
    Calls Tryz.prog 10 #[.agg #[.slice m_Sa m_Sn m_Sc, .slice m_Ra m_Rn m_Rc, .slice m_Wa m_Wn m_Wc], .int .i64 id, .int .i64 page] w fun e w' => ∃ (Q12 : Option Addr), ∃ (Q14 : Nat), ∃ (Q13 : Nat), ∃ (Q9 : Option Addr), ∃ (Q11 : Nat), ∃ (Q10 : Nat), ∃ (Q15 : Option Addr), ∃ (Q17 : Nat), ∃ (Q16 : Nat), e = .returned (.tuple #[.agg #[.slice Q12 Q14 Q13, .slice Q9 Q11 Q10, .slice Q15 Q17 Q16], .string (loadT m (kQ_ id page) page), .int .i64 (loadC page)]) ∧ Mv [] w [ow 73 2 encC okC (.slice Q12 Q14 Q13) (loadM m (kQ_ id page) page).store, ow 9 1 encS okS (.slice Q9 Q11 Q10) (loadM m (kQ_ id page) page).touch.reads, ow 9 1 encS okS (.slice Q15 Q17 Q16) (loadM m (kQ_ id page) page).touch.writes] w' ∧ okS (loadT m (kQ_ id page) page) := by
 have uU : True := (fun _ => trivial) p0
 clear uU
 have Q21 : Rd 2 encC okC (V H w []) w (.slice m_Sa m_Sn m_Sc) m.store := Rd.start Q18 (fun _ _ => fps_nil _)
 obtain ⟨Q38, Q35, Q59, Q62⟩ := Rd.inv Q18
 have Q22 : Rd 1 encS okS (V H w []) w (.slice m_Ra m_Rn m_Rc) m.touch.reads := Rd.start Q19 (fun _ _ => fps_nil _)
 obtain ⟨Q39, Q36, Q60, Q63⟩ := Rd.inv Q19
 have Q23 : Rd 1 encS okS (V H w []) w (.slice m_Wa m_Wn m_Wc) m.touch.writes := Rd.start Q20 (fun _ _ => fps_nil _)
 obtain ⟨Q40, Q37, Q61, Q64⟩ := Rd.inv Q20
 have V_tab0 : Tb 0 (V H w []) w := Tb.start tab0 (fun _ _ => fps_nil _)
 have V_tab2 : Tb 2 (V H w []) w := Tb.start tab2 (fun _ _ => fps_nil _)
 refine calls_enter 22 Tryz.func10 rfl Tryz.ntmps10 (Nat.le_of_ble_eq_true rfl) (fun _ F0i => ?_)
 have F0 : Fr 22 [(0, .agg #[.slice m_Sa m_Sn m_Sc, .slice m_Ra m_Rn m_Rc, .slice m_Wa m_Wn m_Wc]), (1, .int .i64 id), (2, .int .i64 page)] _ := F0i
 clear F0i
 refine wp_seq (wp_region_lit (l_op (f_box F0 (At.nil w) rfl rfl rfl (F0.ev 0 rfl) rfl rfl fun b1 _ w1 F2 S1 => ?_)))
 refine l_op (f_alloc F2 S1.at' ZI_29 rfl rfl rfl rfl rfl fun b3 _ w3 F4 S3 => ?_)
 refine l_op (f_val F4 rfl rfl (r_assign rfl rfl) rfl fun _ F5 => ?_)
 refine l_op (f_val F5 rfl rfl (r_assign rfl rfl) rfl fun _ F6 => ?_)
 refine s_end (x_normal (wp_seq (wp_region_lit (l_op (f_val (v := .agg #[.slice m_Sa m_Sn m_Sc, .slice m_Ra m_Rn m_Rc, .slice m_Wa m_Wn m_Wc]) F6 rfl rfl (r_loadB S3.at' 1 TI_29 rfl rfl (F6.ev 3 rfl) rfl rfl (fun h => nomatch h) rfl) rfl fun _ F7 => ?_)))))
 refine l_op (f_call F7 CF_39 rfl rfl rfl rfl (lc (F7.ev 11 rfl) rfl) (impl_Mach_clone_c (m := m) (Rd.mq Q21 (S1.trans S3)) (Rd.mq Q22 (S1.trans S3)) (Rd.mq Q23 (S1.trans S3)) (by first | assumption | omega | ((repeat first | apply b1_ | apply b2_ | apply b3_ | apply b4_ | apply b5_ | apply b6_); exact bdC.le ‹_› (by decide)) | decide | exact Nat.le_trans (keyNum_size _ _ ‹_›) (by decide)) (by first | assumption | omega | ((repeat first | apply b1_ | apply b2_ | apply b3_ | apply b4_ | apply b5_ | apply b6_); exact bdC.le ‹_› (by decide)) | decide | exact Nat.le_trans (keyNum_size _ _ ‹_›) (by decide)) (by first | assumption | omega | ((repeat first | apply b1_ | apply b2_ | apply b3_ | apply b4_ | apply b5_ | apply b6_); exact bdC.le ‹_› (by decide)) | decide | exact Nat.le_trans (keyNum_size _ _ ‹_›) (by decide))) ?_)
 rintro _ w8 ⟨Q29, Q31, Q30, Q26, Q28, Q27, Q32, Q34, Q33, rfl, m8⟩
 refine ⟨_, rfl, fun _ F9 => ?_⟩
 have S8 : Mv _ _ [ow 73 2 encC okC (.slice Q29 Q31 Q30) m.store, ow 9 1 encS okS (.slice Q26 Q28 Q27) m.touch.reads, ow 9 1 encS okS (.slice Q32 Q34 Q33) m.touch.writes, bx b3 [.slice none 0 0, .slice none 0 0, .slice none 0 0] 29, bx b1 [.slice m_Sa m_Sn m_Sc, .slice m_Ra m_Rn m_Rc, .slice m_Wa m_Wn m_Wc] 29] _ := At.frame S3.at' [] rfl m8
 obtain ⟨Q44, Q50, Q56⟩ := At.ownInv S8.at' ET_24.hk 0 rfl
 obtain ⟨Q45, Q51, Q57⟩ := At.ownInv S8.at' ET_25.hk 1 rfl
 obtain ⟨Q46, Q52, Q58⟩ := At.ownInv S8.at' ET_25.hk 2 rfl
 clear m8
 refine l_op (s_store S8.at' 4 TI_29 rfl rfl rfl rfl rfl (F9.ev 3 rfl) (F9.ev 12 rfl) rfl rfl rfl rfl rfl fun w10 S10 => ?_)
 refine s_end (x_normal (wp_seq (wp_region_lit (l_op (f_mv F9 rfl rfl rfl rfl rfl fun _ F11 => ?_)))))
 refine l_op (f_mv F11 rfl rfl rfl rfl rfl fun _ F12 => ?_)
 refine l_op (f_call F12 CF_43 rfl rfl rfl rfl (lc (F12.ev 3 rfl) (lc (F12.ev 14 rfl) (lc (F12.ev 15 rfl) rfl))) (impl_Mach_loadPage_c (m := m) (id := id) (page := page) h_id Q24 (Tb.mv V_tab0 (S1.trans (S3.trans (S8.trans S10)))) (Tb.mv V_tab2 (S1.trans (S3.trans (S8.trans S10)))) (by first | assumption | omega | ((repeat first | apply b1_ | apply b2_ | apply b3_ | apply b4_ | apply b5_ | apply b6_); exact bdC.le ‹_› (by decide)) | decide | exact Nat.le_trans (keyNum_size _ _ ‹_›) (by decide)) (At.pick (is := [0, 1, 2, 3]) S10.at' rfl) (V_off (is := [0, 1, 2, 3]))) ?_)
 rintro _ w13 ⟨Q3, Q5, Q4, Q0, Q2, Q1, Q6, Q8, Q7, rfl, m13, Q25⟩
 refine ⟨_, rfl, fun _ F14 => ?_⟩
 have S13 : Mv _ _ [bx b1 [.slice Q3 Q5 Q4, .slice Q0 Q2 Q1, .slice Q6 Q8 Q7] 29, ow 73 2 encC okC (.slice Q3 Q5 Q4) (loadM m (kQ_ id page) page).store, ow 9 1 encS okS (.slice Q0 Q2 Q1) (loadM m (kQ_ id page) page).touch.reads, ow 9 1 encS okS (.slice Q6 Q8 Q7) (loadM m (kQ_ id page) page).touch.writes, bx b3 [.slice none 0 0, .slice none 0 0, .slice none 0 0] 29] _ := At.frame S10.at' [0, 1, 2, 3] rfl m13
 obtain ⟨Q41, Q47, Q53⟩ := At.ownInv S13.at' ET_24.hk 1 rfl
 obtain ⟨Q42, Q48, Q54⟩ := At.ownInv S13.at' ET_25.hk 2 rfl
 obtain ⟨Q43, Q49, Q55⟩ := At.ownInv S13.at' ET_25.hk 3 rfl
 clear m13
 refine l_op (f_mv F14 rfl rfl rfl rfl rfl fun _ F15 => ?_)
 refine l_op (f_val (v := .string (loadT m (kQ_ id page) page)) F15 rfl rfl (r_extract rfl (F15.ev 13 rfl) rfl) rfl fun _ F16 => ?_)
 refine l_op (f_val (v := .int .i64 (loadC page)) F16 rfl rfl (r_extract rfl (F16.ev 13 rfl) rfl) rfl fun _ F17 => ?_)
 refine l_op (f_as F17 rfl rfl rfl rfl rfl fun _ F18 => ?_)
 refine l_op (f_as F18 rfl rfl rfl rfl rfl fun _ F19 => ?_)
 refine s_end (x_normal (wp_seq (wp_region_lit (l_op (f_val (v := .agg #[.slice Q3 Q5 Q4, .slice Q0 Q2 Q1, .slice Q6 Q8 Q7]) F19 rfl rfl (r_loadB S13.at' 0 TI_29 rfl rfl (F19.ev 3 rfl) rfl rfl (fun h => nomatch h) rfl) rfl fun _ F20 => ?_)))))
 refine l_op (f_mv F20 rfl rfl rfl rfl rfl fun _ F21 => ?_)
 refine l_op (f_mv F21 rfl rfl rfl rfl rfl fun _ F22 => ?_)
 refine l_op (s_store S13.at' 4 TI_29 rfl rfl rfl rfl rfl (F22.ev 6 rfl) (F22.ev 19 rfl) rfl rfl rfl rfl rfl fun w23 S23 => ?_)
 refine l_op (f_as F22 rfl rfl rfl rfl rfl fun _ F24 => ?_)
 refine l_op (f_as F24 rfl rfl rfl rfl rfl fun _ F25 => ?_)
 have T26 : Mv _ _ [bx b3 [.slice Q3 Q5 Q4, .slice Q0 Q2 Q1, .slice Q6 Q8 Q7] 29, bx b1 [.slice Q3 Q5 Q4, .slice Q0 Q2 Q1, .slice Q6 Q8 Q7] 29, ow 73 2 encC okC (.slice Q3 Q5 Q4) (loadM m (kQ_ id page) page).store, ow 9 1 encS okS (.slice Q0 Q2 Q1) (loadM m (kQ_ id page) page).touch.reads, ow 9 1 encS okS (.slice Q6 Q8 Q7) (loadM m (kQ_ id page) page).touch.writes] _ := S23
 refine s_end (x_normal (wp_ret ?_))
 refine x_done (v := .tuple #[.agg #[.slice Q3 Q5 Q4, .slice Q0 Q2 Q1, .slice Q6 Q8 Q7], .string (loadT m (kQ_ id page) page), .int .i64 (loadC page)]) F25 (results_3 Tryz.results10 (.cell (F25.ev 6 rfl) (run_loadVar' TI_29 _ [.slice Q3 Q5 Q4, .slice Q0 Q2 Q1, .slice Q6 Q8 Q7] rfl (fun h => nomatch h) (At.cells T26.at' 0 rfl 0 [.slice Q3 Q5 Q4, .slice Q0 Q2 Q1, .slice Q6 Q8 Q7] rfl))) (.tmp (F25.ev 7 rfl)) (.tmp (F25.ev 8 rfl))) ?_
 exact ⟨Q3, Q5, Q4, Q0, Q2, Q1, Q6, Q8, Q7, rfl, (Mv.pick (S1.trans (S3.trans (S8.trans (S10.trans (S13.trans T26))))) [2, 3, 4] rfl), Q25⟩
theorem spec_LoadPage_c {w : World} {H : Nat → Prop} {m : MachD} {m_Sa : Option Addr} {m_Sn m_Sc : Nat} {m_Ra : Option Addr} {m_Rn m_Rc : Nat} {m_Wa : Option Addr} {m_Wn m_Wc : Nat} {id : Int} {page : Int} (Q18 : Rd 2 encC okC H w (.slice m_Sa m_Sn m_Sc) m.store) (Q19 : Rd 1 encS okS H w (.slice m_Ra m_Rn m_Rc) m.touch.reads) (Q20 : Rd 1 encS okS H w (.slice m_Wa m_Wn m_Wc) m.touch.writes) (h_id : i64ok id) (Q24 : i64ok page) (p0 : bdC 34359738368 m) :
    Calls Tryz.prog 11 #[.agg #[.slice m_Sa m_Sn m_Sc, .slice m_Ra m_Rn m_Rc, .slice m_Wa m_Wn m_Wc], .int .i64 id, .int .i64 page] w fun e w' => ∃ (Q12 : Option Addr), ∃ (Q14 : Nat), ∃ (Q13 : Nat), ∃ (Q9 : Option Addr), ∃ (Q11 : Nat), ∃ (Q10 : Nat), ∃ (Q15 : Option Addr), ∃ (Q17 : Nat), ∃ (Q16 : Nat), e = .returned (.tuple #[.agg #[.slice Q12 Q14 Q13, .slice Q9 Q11 Q10, .slice Q15 Q17 Q16], .string (loadT m (kQ_ id page) page), .int .i64 (loadC page)]) ∧ Mv [] w [] w' ∧ Rd 2 encC okC (Fsh H w) w' (.slice Q12 Q14 Q13) (loadM m (kQ_ id page) page).store ∧ Rd 1 encS okS (Fsh H w) w' (.slice Q9 Q11 Q10) (loadM m (kQ_ id page) page).touch.reads ∧ Rd 1 encS okS (Fsh H w) w' (.slice Q15 Q17 Q16) (loadM m (kQ_ id page) page).touch.writes ∧ okS (loadT m (kQ_ id page) page) := by
 have uU : True := (fun _ => trivial) p0
 clear uU
 have Q21 : Rd 2 encC okC (V H w []) w (.slice m_Sa m_Sn m_Sc) m.store := Rd.start Q18 (fun _ _ => fps_nil _)
 obtain ⟨Q29, Q26, Q32, Q35⟩ := Rd.inv Q18
 have Q22 : Rd 1 encS okS (V H w []) w (.slice m_Ra m_Rn m_Rc) m.touch.reads := Rd.start Q19 (fun _ _ => fps_nil _)
 obtain ⟨Q30, Q27, Q33, Q36⟩ := Rd.inv Q19
 have Q23 : Rd 1 encS okS (V H w []) w (.slice m_Wa m_Wn m_Wc) m.touch.writes := Rd.start Q20 (fun _ _ => fps_nil _)
 obtain ⟨Q31, Q28, Q34, Q37⟩ := Rd.inv Q20
 refine calls_enter 17 Tryz.func11 rfl Tryz.ntmps11 (Nat.le_of_ble_eq_true rfl) (fun _ F0i => ?_)
 have F0 : Fr 17 [(0, .agg #[.slice m_Sa m_Sn m_Sc, .slice m_Ra m_Rn m_Rc, .slice m_Wa m_Wn m_Wc]), (1, .int .i64 id), (2, .int .i64 page)] _ := F0i
 clear F0i
 refine wp_seq (wp_region_lit (l_op (f_box F0 (At.nil w) rfl rfl rfl (F0.ev 0 rfl) rfl rfl fun b1 _ w1 F2 S1 => ?_)))
 refine l_op (f_alloc F2 S1.at' ZI_29 rfl rfl rfl rfl rfl fun b3 _ w3 F4 S3 => ?_)
 refine l_op (f_val F4 rfl rfl (r_assign rfl rfl) rfl fun _ F5 => ?_)
 refine l_op (f_val F5 rfl rfl (r_assign rfl rfl) rfl fun _ F6 => ?_)
 refine s_end (x_normal (wp_seq (wp_region_lit (l_op (f_val (v := .agg #[.slice m_Sa m_Sn m_Sc, .slice m_Ra m_Rn m_Rc, .slice m_Wa m_Wn m_Wc]) F6 rfl rfl (r_loadB S3.at' 1 TI_29 rfl rfl (F6.ev 3 rfl) rfl rfl (fun h => nomatch h) rfl) rfl fun _ F7 => ?_)))))
 refine l_op (f_call F7 CF_42 rfl rfl rfl rfl (lc (F7.ev 9 rfl) rfl) (spec_l04Copy_c (m := m) (Rd.mq Q21 (S1.trans S3)) (Rd.mq Q22 (S1.trans S3)) (Rd.mq Q23 (S1.trans S3)) (by first | assumption | omega | ((repeat first | apply b1_ | apply b2_ | apply b3_ | apply b4_ | apply b5_ | apply b6_); exact bdC.le ‹_› (by decide)) | decide | exact Nat.le_trans (keyNum_size _ _ ‹_›) (by decide)) (by first | assumption | omega | ((repeat first | apply b1_ | apply b2_ | apply b3_ | apply b4_ | apply b5_ | apply b6_); exact bdC.le ‹_› (by decide)) | decide | exact Nat.le_trans (keyNum_size _ _ ‹_›) (by decide)) (by first | assumption | omega | ((repeat first | apply b1_ | apply b2_ | apply b3_ | apply b4_ | apply b5_ | apply b6_); exact bdC.le ‹_› (by decide)) | decide | exact Nat.le_trans (keyNum_size _ _ ‹_›) (by decide))) ?_)
 rintro _ w8 ⟨Q41, Q43, Q42, Q38, Q40, Q39, Q44, Q46, Q45, rfl, m8, v8_0, v8_1, v8_2⟩
 refine ⟨_, rfl, fun _ F9 => ?_⟩
 have S8 := At.frame0 S3.at' m8
 have V8_0 := Rd.got0 S3.at' ((S1.trans S3).kp.size) v8_0 S8
 obtain ⟨ln8_0, le8_0, mx8_0, ni8_0⟩ := Rd.inv V8_0
 have V8_1 := Rd.got0 S3.at' ((S1.trans S3).kp.size) v8_1 S8
 obtain ⟨ln8_1, le8_1, mx8_1, ni8_1⟩ := Rd.inv V8_1
 have V8_2 := Rd.got0 S3.at' ((S1.trans S3).kp.size) v8_2 S8
 obtain ⟨ln8_2, le8_2, mx8_2, ni8_2⟩ := Rd.inv V8_2
 clear m8 v8_0 v8_1 v8_2
 refine l_op (f_mv F9 rfl rfl rfl rfl rfl fun _ F10 => ?_)
 refine l_op (f_mv F10 rfl rfl rfl rfl rfl fun _ F11 => ?_)
 refine l_op (f_call F11 CF_44 rfl rfl rfl rfl (lc (F11.ev 10 rfl) (lc (F11.ev 11 rfl) (lc (F11.ev 12 rfl) rfl))) (spec_l11LoadPage_c (m := m) (id := id) (page := page) V8_0 V8_1 V8_2 h_id Q24 (by first | assumption | omega | ((repeat first | apply b1_ | apply b2_ | apply b3_ | apply b4_ | apply b5_ | apply b6_); exact bdC.le ‹_› (by decide)) | decide | exact Nat.le_trans (keyNum_size _ _ ‹_›) (by decide))) ?_)
 rintro _ w12 ⟨Q3, Q5, Q4, Q0, Q2, Q1, Q6, Q8, Q7, rfl, m12, v12_0, v12_1, v12_2, Q25⟩
 refine ⟨_, rfl, fun _ F13 => ?_⟩
 have S12 := At.frame0 S8.at' m12
 have V12_0 := Rd.got0 S8.at' ((S1.trans (S3.trans S8)).kp.size) v12_0 S12
 obtain ⟨ln12_0, le12_0, mx12_0, ni12_0⟩ := Rd.inv V12_0
 have V12_1 := Rd.got0 S8.at' ((S1.trans (S3.trans S8)).kp.size) v12_1 S12
 obtain ⟨ln12_1, le12_1, mx12_1, ni12_1⟩ := Rd.inv V12_1
 have V12_2 := Rd.got0 S8.at' ((S1.trans (S3.trans S8)).kp.size) v12_2 S12
 obtain ⟨ln12_2, le12_2, mx12_2, ni12_2⟩ := Rd.inv V12_2
 clear m12 v12_0 v12_1 v12_2
 refine l_op (f_val (v := .agg #[.slice Q3 Q5 Q4, .slice Q0 Q2 Q1, .slice Q6 Q8 Q7]) F13 rfl rfl (r_extract rfl (F13.ev 13 rfl) rfl) rfl fun _ F14 => ?_)
 refine l_op (f_val (v := .string (loadT m (kQ_ id page) page)) F14 rfl rfl (r_extract rfl (F14.ev 13 rfl) rfl) rfl fun _ F15 => ?_)
 refine l_op (f_val (v := .int .i64 (loadC page)) F15 rfl rfl (r_extract rfl (F15.ev 13 rfl) rfl) rfl fun _ F16 => ?_)
 refine l_op (s_store S12.at' 0 TI_29 rfl rfl rfl rfl rfl (F16.ev 6 rfl) (F16.ev 14 rfl) rfl rfl rfl rfl rfl fun w17 S17 => ?_)
 refine l_op (f_as F16 rfl rfl rfl rfl rfl fun _ F18 => ?_)
 refine l_op (f_as F18 rfl rfl rfl rfl rfl fun _ F19 => ?_)
 refine s_end (x_normal (wp_ret ?_))
 refine x_done (v := .tuple #[.agg #[.slice Q3 Q5 Q4, .slice Q0 Q2 Q1, .slice Q6 Q8 Q7], .string (loadT m (kQ_ id page) page), .int .i64 (loadC page)]) F19 (results_3 Tryz.results11 (.cell (F19.ev 6 rfl) (run_loadVar' TI_29 _ [.slice Q3 Q5 Q4, .slice Q0 Q2 Q1, .slice Q6 Q8 Q7] rfl (fun h => nomatch h) (At.cells S17.at' 0 rfl 0 [.slice Q3 Q5 Q4, .slice Q0 Q2 Q1, .slice Q6 Q8 Q7] rfl))) (.tmp (F19.ev 7 rfl)) (.tmp (F19.ev 8 rfl))) ?_
 exact ⟨Q3, Q5, Q4, Q0, Q2, Q1, Q6, Q8, Q7, rfl, (Mv.pick (S1.trans (S3.trans (S8.trans (S12.trans S17)))) [] rfl), (Rd.give (Rd.mq V12_0 S17)), (Rd.give (Rd.mq V12_1 S17)), (Rd.give (Rd.mq V12_2 S17)), Q25⟩
end Go.Proofs.YtibgmijfnbnfkaaGreatDoor
