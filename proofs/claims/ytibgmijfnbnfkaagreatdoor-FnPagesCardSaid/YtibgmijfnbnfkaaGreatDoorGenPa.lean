/-
  Walks: pages are dropped and told, timers set.
-/
import Derived.Test.YtibgmijfnbnfkaaGreatDoorDatV
import Derived.Test.YtibgmijfnbnfkaaGreatDoorGenNb
namespace Go.Proofs.YtibgmijfnbnfkaaGreatDoor
open Go.ChangeShapes Go.WideShapes Go.ChangeAt Go.RowKit
set_option maxRecDepth 100000
set_option maxHeartbeats 1000000
theorem impl_pagesKey_c {w : World} {H : Nat → Prop} {id : Int} (h_id : i64ok id) (tab0 : Tb 0 H w) :
    Calls Tryz.prog 48 #[.int .i64 id] w fun e w' => e = .returned (.string (kP_ id)) ∧ Mv [] w [] w' ∧ okS (kP_ id) := by
 have V_tab0 : Tb 0 (V H w []) w := Tb.start tab0 (fun _ _ => fps_nil _)
 refine calls_enter 5 Tryz.func48 rfl Tryz.ntmps48 (Nat.le_of_ble_eq_true rfl) (fun _ F0i => ?_)
 have F0 : Fr 5 [(0, .int .i64 id)] _ := F0i
 clear F0i
 refine wp_seq (wp_region_lit (l_op (f_val F0 rfl rfl (r_assign rfl rfl) rfl fun _ F1 => ?_)))
 refine s_end (x_normal (wp_seq (wp_region_lit (l_op (f_mv F1 rfl rfl rfl rfl rfl fun _ F2 => ?_)))))
 refine l_op (f_call F2 CF_31 rfl rfl rfl rfl (lc rfl (lc (F2.ev 3 rfl) (lc rfl rfl))) (impl_KeyNum_c (head := bM_) (n := id) (tail := bS_) (by unfold okS; decide) h_id (by unfold okS; decide) V_tab0 (by first | assumption | omega | ((repeat first | apply b1_ | apply b2_ | apply b3_ | apply b4_ | apply b5_ | apply b6_); exact bdC.le ‹_› (by decide)) | decide | exact Nat.le_trans (keyNum_size _ _ ‹_›) (by decide)) (by first | assumption | omega | ((repeat first | apply b1_ | apply b2_ | apply b3_ | apply b4_ | apply b5_ | apply b6_); exact bdC.le ‹_› (by decide)) | decide | exact Nat.le_trans (keyNum_size _ _ ‹_›) (by decide))) ?_)
 rintro _ w3 ⟨rfl, m3, Q0⟩
 refine ⟨_, rfl, fun _ F4 => ?_⟩
 have S3 := At.frame0 (At.nil w) m3
 clear m3
 refine l_op (f_as F4 rfl rfl rfl rfl rfl fun _ F5 => ?_)
 refine s_end (x_normal (wp_ret ?_))
 refine x_done (v := .string (kP_ id)) F5 (results_1 Tryz.results48 (.tmp (F5.ev 2 rfl))) ?_
 exact ⟨rfl, (Mv.pick S3 [] rfl), Q0⟩
theorem spec_l11Head_c {w : World} {H : Nat → Prop} {id : Int} (h_id : i64ok id) :
    Calls Tryz.prog 77 #[.int .i64 id] w fun e w' => e = .returned (.string (kP_ id)) ∧ Mv [] w [] w' ∧ okS (kP_ id) := by
 have uU : True := (fun _ => trivial) H
 clear uU
 refine calls_enter 5 Tryz.func77 rfl Tryz.ntmps77 (Nat.le_of_ble_eq_true rfl) (fun _ F0i => ?_)
 have F0 : Fr 5 [(0, .int .i64 id)] _ := F0i
 clear F0i
 refine wp_seq (wp_region_lit (l_op (f_val F0 rfl rfl (r_assign rfl rfl) rfl fun _ F1 => ?_)))
 refine s_end (x_normal (wp_seq (wp_region_lit (l_op (f_mv F1 rfl rfl rfl rfl rfl fun _ F2 => ?_)))))
 refine l_op (f_call F2 CF_76 rfl rfl rfl rfl (lc rfl (lc (F2.ev 3 rfl) (lc rfl rfl))) (spec_KeyNum_c (H := fun _ => True) (head := bM_) (n := id) (tail := bS_) (by unfold okS; decide) h_id (by unfold okS; decide) (by first | assumption | omega | ((repeat first | apply b1_ | apply b2_ | apply b3_ | apply b4_ | apply b5_ | apply b6_); exact bdC.le ‹_› (by decide)) | decide | exact Nat.le_trans (keyNum_size _ _ ‹_›) (by decide)) (by first | assumption | omega | ((repeat first | apply b1_ | apply b2_ | apply b3_ | apply b4_ | apply b5_ | apply b6_); exact bdC.le ‹_› (by decide)) | decide | exact Nat.le_trans (keyNum_size _ _ ‹_›) (by decide))) ?_)
 rintro _ w3 ⟨rfl, m3, Q0⟩
 refine ⟨_, rfl, fun _ F4 => ?_⟩
 have S3 := At.frame0 (At.nil w) m3
 clear m3
 refine l_op (f_as F4 rfl rfl rfl rfl rfl fun _ F5 => ?_)
 refine s_end (x_normal (wp_ret ?_))
 refine x_done (v := .string (kP_ id)) F5 (results_1 Tryz.results77 (.tmp (F5.ev 2 rfl))) ?_
 exact ⟨rfl, (Mv.pick S3 [] rfl), Q0⟩
theorem impl_Mach_dropPages_c {w : World} {H : Nat → Prop} {m : MachD} {m_Sa : Option Addr} {m_Sn m_Sc : Nat} {m_Ra : Option Addr} {m_Rn m_Rc : Nat} {m_Wa : Option Addr} {m_Wn m_Wc : Nat} {m_b : Nat} {id : Int} (h_id : i64ok id) (tab0 : Tb 0 H w) (p0 : bdC 34359738368 m) (hA : At w [bx m_b [.slice m_Sa m_Sn m_Sc, .slice m_Ra m_Rn m_Rc, .slice m_Wa m_Wn m_Wc] 29, ow 73 2 encC okC (.slice m_Sa m_Sn m_Sc) m.store, ow 9 1 encS okS (.slice m_Ra m_Rn m_Rc) m.touch.reads, ow 9 1 encS okS (.slice m_Wa m_Wn m_Wc) m.touch.writes]) (hD : ∀ b, H b → ¬ fps [bx m_b [.slice m_Sa m_Sn m_Sc, .slice m_Ra m_Rn m_Rc, .slice m_Wa m_Wn m_Wc] 29, ow 73 2 encC okC (.slice m_Sa m_Sn m_Sc) m.store, ow 9 1 encS okS (.slice m_Ra m_Rn m_Rc) m.touch.reads, ow 9 1 encS okS (.slice m_Wa m_Wn m_Wc) m.touch.writes] b) :
    Calls Tryz.prog 53 #[.pointer (some ⟨m_b, 0, none⟩), .int .i64 id] w fun e w' => ∃ (Q12 : Option Addr), ∃ (Q14 : Nat), ∃ (Q13 : Nat), ∃ (Q9 : Option Addr), ∃ (Q11 : Nat), ∃ (Q10 : Nat), ∃ (Q15 : Option Addr), ∃ (Q17 : Nat), ∃ (Q16 : Nat), e = .returned (.tuple #[]) ∧ Mv [bx m_b [.slice m_Sa m_Sn m_Sc, .slice m_Ra m_Rn m_Rc, .slice m_Wa m_Wn m_Wc] 29, ow 73 2 encC okC (.slice m_Sa m_Sn m_Sc) m.store, ow 9 1 encS okS (.slice m_Ra m_Rn m_Rc) m.touch.reads, ow 9 1 encS okS (.slice m_Wa m_Wn m_Wc) m.touch.writes] w [bx m_b [.slice Q12 Q14 Q13, .slice Q9 Q11 Q10, .slice Q15 Q17 Q16] 29, ow 73 2 encC okC (.slice Q12 Q14 Q13) (wipeM m (kP_ id)).store, ow 9 1 encS okS (.slice Q9 Q11 Q10) (wipeM m (kP_ id)).touch.reads, ow 9 1 encS okS (.slice Q15 Q17 Q16) (wipeM m (kP_ id)).touch.writes] w' := by
 have uU : True := (fun _ => trivial) p0
 clear uU
 have V_tab0 : Tb 0 (V H w [bx m_b [.slice m_Sa m_Sn m_Sc, .slice m_Ra m_Rn m_Rc, .slice m_Wa m_Wn m_Wc] 29, ow 73 2 encC okC (.slice m_Sa m_Sn m_Sc) m.store, ow 9 1 encS okS (.slice m_Ra m_Rn m_Rc) m.touch.reads, ow 9 1 encS okS (.slice m_Wa m_Wn m_Wc) m.touch.writes]) w := Tb.start tab0 hD
 obtain ⟨lo1, lp1, lq1⟩ := At.ownInv hA ET_24.hk 1 rfl
 obtain ⟨lo2, lp2, lq2⟩ := At.ownInv hA ET_25.hk 2 rfl
 obtain ⟨lo3, lp3, lq3⟩ := At.ownInv hA ET_25.hk 3 rfl
 refine calls_enter 8 Tryz.func53 rfl Tryz.ntmps53 (Nat.le_of_ble_eq_true rfl) (fun _ F0i => ?_)
 have F0 : Fr 8 [(0, .pointer (some ⟨m_b, 0, none⟩)), (1, .int .i64 id)] _ := F0i
 clear F0i
 refine wp_region_lit (l_op (f_mv F0 rfl rfl rfl rfl rfl fun _ F1 => ?_))
 refine l_op (f_mv F1 rfl rfl rfl rfl rfl fun _ F2 => ?_)
 refine l_op (f_call F2 CF_48 rfl rfl rfl rfl (lc (F2.ev 5 rfl) rfl) (impl_pagesKey_c (id := id) h_id V_tab0) ?_)
 rintro _ w3 ⟨rfl, m3, Q18⟩
 refine ⟨_, rfl, fun _ F4 => ?_⟩
 have S3 := At.frame0 hA m3
 clear m3
 refine l_op (f_call F4 CF_87 rfl rfl rfl rfl (lc (F4.ev 4 rfl) (lc (F4.ev 6 rfl) rfl)) (impl_Mach_wipe_c (H := fun _ => True) (m := m) (pfx := kP_ id) Q18 (by first | assumption | omega | ((repeat first | apply b1_ | apply b2_ | apply b3_ | apply b4_ | apply b5_ | apply b6_); exact bdC.le ‹_› (by decide)) | decide | exact Nat.le_trans (keyNum_size _ _ ‹_›) (by decide)) (by first | assumption | omega | ((repeat first | apply b1_ | apply b2_ | apply b3_ | apply b4_ | apply b5_ | apply b6_); exact bdC.le ‹_› (by decide)) | decide | exact Nat.le_trans (keyNum_size _ _ ‹_›) (by decide)) (by first | assumption | omega | ((repeat first | apply b1_ | apply b2_ | apply b3_ | apply b4_ | apply b5_ | apply b6_); exact bdC.le ‹_› (by decide)) | decide | exact Nat.le_trans (keyNum_size _ _ ‹_›) (by decide)) (by first | assumption | omega | ((repeat first | apply b1_ | apply b2_ | apply b3_ | apply b4_ | apply b5_ | apply b6_); exact bdC.le ‹_› (by decide)) | decide | exact Nat.le_trans (keyNum_size _ _ ‹_›) (by decide)) (At.pick (is := [0, 1, 2, 3]) S3.at' rfl)) ?_)
 rintro _ w5 ⟨Q3, Q5, Q4, Q0, Q2, Q1, Q6, Q8, Q7, rfl, m5⟩
 refine ⟨_, rfl, fun _ F6 => ?_⟩
 have S5 : Mv _ _ [bx m_b [.slice Q3 Q5 Q4, .slice Q0 Q2 Q1, .slice Q6 Q8 Q7] 29, ow 73 2 encC okC (.slice Q3 Q5 Q4) (wipeM m (kP_ id)).store, ow 9 1 encS okS (.slice Q0 Q2 Q1) (wipeM m (kP_ id)).touch.reads, ow 9 1 encS okS (.slice Q6 Q8 Q7) (wipeM m (kP_ id)).touch.writes] _ := At.frame S3.at' [0, 1, 2, 3] rfl m5
 obtain ⟨Q19, Q22, Q25⟩ := At.ownInv S5.at' ET_24.hk 1 rfl
 obtain ⟨Q20, Q23, Q26⟩ := At.ownInv S5.at' ET_25.hk 2 rfl
 obtain ⟨Q21, Q24, Q27⟩ := At.ownInv S5.at' ET_25.hk 3 rfl
 clear m5
 refine s_end ?_
 refine x_done_end (v := .tuple #[]) F6 (results_0 Tryz.results53) ?_
 exact ⟨Q3, Q5, Q4, Q0, Q2, Q1, Q6, Q8, Q7, rfl, (Mv.pick (S3.trans S5) [0, 1, 2, 3] rfl)⟩
theorem spec_l11DropPages_c {w : World} {H : Nat → Prop} {m : MachD} {m_Sa : Option Addr} {m_Sn m_Sc : Nat} {m_Ra : Option Addr} {m_Rn m_Rc : Nat} {m_Wa : Option Addr} {m_Wn m_Wc : Nat} {id : Int} (Q18 : Rd 2 encC okC H w (.slice m_Sa m_Sn m_Sc) m.store) (Q19 : Rd 1 encS okS H w (.slice m_Ra m_Rn m_Rc) m.touch.reads) (Q20 : Rd 1 encS okS H w (.slice m_Wa m_Wn m_Wc) m.touch.writes) (h_id : i64ok id) (p0 : bdC 34359738368 m) :
    Calls Tryz.prog 54 #[.agg #[.slice m_Sa m_Sn m_Sc, .slice m_Ra m_Rn m_Rc, .slice m_Wa m_Wn m_Wc], .int .i64 id] w fun e w' => ∃ (Q12 : Option Addr), ∃ (Q14 : Nat), ∃ (Q13 : Nat), ∃ (Q9 : Option Addr), ∃ (Q11 : Nat), ∃ (Q10 : Nat), ∃ (Q15 : Option Addr), ∃ (Q17 : Nat), ∃ (Q16 : Nat), e = .returned (.agg #[.slice Q12 Q14 Q13, .slice Q9 Q11 Q10, .slice Q15 Q17 Q16]) ∧ Mv [] w [] w' ∧ Rd 2 encC okC (Fsh H w) w' (.slice Q12 Q14 Q13) (wipeM m (kP_ id)).store ∧ Rd 1 encS okS (Fsh H w) w' (.slice Q9 Q11 Q10) (wipeM m (kP_ id)).touch.reads ∧ Rd 1 encS okS (Fsh H w) w' (.slice Q15 Q17 Q16) (wipeM m (kP_ id)).touch.writes := by
 have uU : True := (fun _ => trivial) p0
 clear uU
 have Q21 : Rd 2 encC okC (V H w []) w (.slice m_Sa m_Sn m_Sc) m.store := Rd.start Q18 (fun _ _ => fps_nil _)
 obtain ⟨Q28, Q25, Q31, Q34⟩ := Rd.inv Q18
 have Q22 : Rd 1 encS okS (V H w []) w (.slice m_Ra m_Rn m_Rc) m.touch.reads := Rd.start Q19 (fun _ _ => fps_nil _)
 obtain ⟨Q29, Q26, Q32, Q35⟩ := Rd.inv Q19
 have Q23 : Rd 1 encS okS (V H w []) w (.slice m_Wa m_Wn m_Wc) m.touch.writes := Rd.start Q20 (fun _ _ => fps_nil _)
 obtain ⟨Q30, Q27, Q33, Q36⟩ := Rd.inv Q20
 refine calls_enter 9 Tryz.func54 rfl Tryz.ntmps54 (Nat.le_of_ble_eq_true rfl) (fun _ F0i => ?_)
 have F0 : Fr 9 [(0, .agg #[.slice m_Sa m_Sn m_Sc, .slice m_Ra m_Rn m_Rc, .slice m_Wa m_Wn m_Wc]), (1, .int .i64 id)] _ := F0i
 clear F0i
 refine wp_seq (wp_region_lit (l_op (f_box F0 (At.nil w) rfl rfl rfl (F0.ev 0 rfl) rfl rfl fun b1 _ w1 F2 S1 => ?_)))
 refine l_op (f_alloc F2 S1.at' ZI_29 rfl rfl rfl rfl rfl fun b3 _ w3 F4 S3 => ?_)
 refine s_end (x_normal (wp_seq ?_))
 refine x_draw (fun aZ wZ => ∃ (Q3 : Option Addr), ∃ (Q5 : Nat), ∃ (Q4 : Nat), ∃ (Q0 : Option Addr), ∃ (Q2 : Nat), ∃ (Q1 : Nat), ∃ (Q6 : Option Addr), ∃ (Q8 : Nat), ∃ (Q7 : Nat), Fr 9 [(4, .pointer (some ⟨b3, 0, none⟩))] aZ ∧ Mv [bx b3 [.slice none 0 0, .slice none 0 0, .slice none 0 0] 29, bx b1 [.slice m_Sa m_Sn m_Sc, .slice m_Ra m_Rn m_Rc, .slice m_Wa m_Wn m_Wc] 29] w3 [bx b3 [.slice Q3 Q5 Q4, .slice Q0 Q2 Q1, .slice Q6 Q8 Q7] 29, bx b1 [.slice m_Sa m_Sn m_Sc, .slice m_Ra m_Rn m_Rc, .slice m_Wa m_Wn m_Wc] 29] wZ ∧ Rd 2 encC okC (V H w [bx b3 [.slice Q3 Q5 Q4, .slice Q0 Q2 Q1, .slice Q6 Q8 Q7] 29, bx b1 [.slice m_Sa m_Sn m_Sc, .slice m_Ra m_Rn m_Rc, .slice m_Wa m_Wn m_Wc] 29]) wZ (.slice Q3 Q5 Q4) (wipeM m (kP_ id)).store ∧ Rd 1 encS okS (V H w [bx b3 [.slice Q3 Q5 Q4, .slice Q0 Q2 Q1, .slice Q6 Q8 Q7] 29, bx b1 [.slice m_Sa m_Sn m_Sc, .slice m_Ra m_Rn m_Rc, .slice m_Wa m_Wn m_Wc] 29]) wZ (.slice Q0 Q2 Q1) (wipeM m (kP_ id)).touch.reads ∧ Rd 1 encS okS (V H w [bx b3 [.slice Q3 Q5 Q4, .slice Q0 Q2 Q1, .slice Q6 Q8 Q7] 29, bx b1 [.slice m_Sa m_Sn m_Sc, .slice m_Ra m_Rn m_Rc, .slice m_Wa m_Wn m_Wc] 29]) wZ (.slice Q6 Q8 Q7) (wipeM m (kP_ id)).touch.writes) [bx b1 [.slice m_Sa m_Sn m_Sc, .slice m_Ra m_Rn m_Rc, .slice m_Wa m_Wn m_Wc] 29] mixed S3.at' (listed := #[false, false, false, false, false]) rfl (fun w6 S6 => ?_) [1] rfl ?_
 · skip
   refine g_take (v := .agg #[.slice m_Sa m_Sn m_Sc, .slice m_Ra m_Rn m_Rc, .slice m_Wa m_Wn m_Wc]) F4 rfl (i := 0) (listed' := #[true, false, false, false, false]) rfl (by kernel_rfl) (by kernel_rfl) (by kernel_rfl) (fun _ _ _ h => h) (Sd.of (Mv.refl S6.at') [1] rfl) rfl rfl rfl rfl (fun _ hz => (r_loadX (hz.bx 0 rfl) TI_29 rfl (F4.ev 2 rfl) rfl rfl (fun h => nomatch h) rfl)) fun _ F7 => ?_
   refine g_take F7 rfl (i := 1) (listed' := #[true, true, false, false, false]) rfl (by kernel_rfl) (by kernel_rfl) (by kernel_rfl) (fun _ _ _ h => h) (Sd.of (Mv.refl S6.at') [1] rfl) rfl rfl rfl rfl (fun _ hz => (r_move rfl (F7.ev 1 rfl))) fun _ F8 => ?_
   refine d_one (i := 2) (listed' := #[true, true, true, false, false]) rfl (by kernel_rfl) rfl rfl ?_
   refine f_call F8 CF_77 rfl rfl rfl rfl (lc (F8.ev 6 rfl) rfl) (spec_l11Head_c (H := fun _ => True) (id := id) h_id) ?_
   rintro _ w9 ⟨rfl, m9, Q24⟩
   refine ⟨_, rfl, fun _ F10 => ?_⟩
   have S9 := At.frame0 S6.at' m9
   clear m9
   refine ⟨Sd.of S9 [1] rfl, ?_⟩
   refine d_one (i := 3) (listed' := #[true, true, true, true, false]) rfl (by kernel_rfl) rfl rfl ?_
   refine f_call F10 CF_88 rfl rfl rfl rfl (lc (F10.ev 5 rfl) (lc (F10.ev 7 rfl) rfl)) (spec_l04Wipe_c (m := m) (pfx := kP_ id) (Rd.mq Q21 (S1.trans (S3.trans (S6.trans S9)))) (Rd.mq Q22 (S1.trans (S3.trans (S6.trans S9)))) (Rd.mq Q23 (S1.trans (S3.trans (S6.trans S9)))) Q24 (by first | assumption | omega | ((repeat first | apply b1_ | apply b2_ | apply b3_ | apply b4_ | apply b5_ | apply b6_); exact bdC.le ‹_› (by decide)) | decide | exact Nat.le_trans (keyNum_size _ _ ‹_›) (by decide)) (by first | assumption | omega | ((repeat first | apply b1_ | apply b2_ | apply b3_ | apply b4_ | apply b5_ | apply b6_); exact bdC.le ‹_› (by decide)) | decide | exact Nat.le_trans (keyNum_size _ _ ‹_›) (by decide)) (by first | assumption | omega | ((repeat first | apply b1_ | apply b2_ | apply b3_ | apply b4_ | apply b5_ | apply b6_); exact bdC.le ‹_› (by decide)) | decide | exact Nat.le_trans (keyNum_size _ _ ‹_›) (by decide)) (by first | assumption | omega | ((repeat first | apply b1_ | apply b2_ | apply b3_ | apply b4_ | apply b5_ | apply b6_); exact bdC.le ‹_› (by decide)) | decide | exact Nat.le_trans (keyNum_size _ _ ‹_›) (by decide))) ?_
   rintro _ w11 ⟨Q3, Q5, Q4, Q0, Q2, Q1, Q6, Q8, Q7, rfl, m11, v11_0, v11_1, v11_2⟩
   refine ⟨_, rfl, fun _ F12 => ?_⟩
   have S11 := At.frame0 S9.at' m11
   have V11_0 := Rd.got0 S9.at' ((S1.trans (S3.trans (S6.trans S9))).kp.size) v11_0 S11
   obtain ⟨ln11_0, le11_0, mx11_0, ni11_0⟩ := Rd.inv V11_0
   have V11_1 := Rd.got0 S9.at' ((S1.trans (S3.trans (S6.trans S9))).kp.size) v11_1 S11
   obtain ⟨ln11_1, le11_1, mx11_1, ni11_1⟩ := Rd.inv V11_1
   have V11_2 := Rd.got0 S9.at' ((S1.trans (S3.trans (S6.trans S9))).kp.size) v11_2 S11
   obtain ⟨ln11_2, le11_2, mx11_2, ni11_2⟩ := Rd.inv V11_2
   clear m11 v11_0 v11_1 v11_2
   refine ⟨Sd.of (S9.trans S11) [1] rfl, ?_⟩
   refine d_one (i := 4) (listed' := #[true, true, true, true, true]) rfl (by kernel_rfl) rfl rfl ?_
   refine s_store S11.at' 0 TI_29 rfl rfl rfl rfl rfl (F12.ev 4 rfl) (F12.ev 8 rfl) rfl rfl rfl rfl rfl fun w13 S13 => ?_
   refine ⟨Sd.of (S9.trans (S11.trans S13)) [1] rfl, ?_⟩
   refine wpAnyH_done (by kernel_rfl) (x_normal ?_) _
   exact ⟨Q3, Q5, Q4, Q0, Q2, Q1, Q6, Q8, Q7, F12.cut rfl, ((S6.trans (S9.trans (S11.trans S13))).pick [0, 1] rfl), (Rd.mq V11_0 S13), (Rd.mq V11_1 S13), (Rd.mq V11_2 S13)⟩
 · rintro a14 w14 ⟨Q3, Q5, Q4, Q0, Q2, Q1, Q6, Q8, Q7, F14, S14, V14_0, V14_1, V14_2⟩
   obtain ⟨ln14_0, le14_0, mx14_0, ni14_0⟩ := Rd.inv V14_0
   obtain ⟨ln14_1, le14_1, mx14_1, ni14_1⟩ := Rd.inv V14_1
   obtain ⟨ln14_2, le14_2, mx14_2, ni14_2⟩ := Rd.inv V14_2
   refine x_normal (wp_ret ?_)
   refine x_done (v := .agg #[.slice Q3 Q5 Q4, .slice Q0 Q2 Q1, .slice Q6 Q8 Q7]) F14 (results_1 Tryz.results54 (.cell (F14.ev 4 rfl) (run_loadVar' TI_29 _ [.slice Q3 Q5 Q4, .slice Q0 Q2 Q1, .slice Q6 Q8 Q7] rfl (fun h => nomatch h) (At.cells S14.at' 0 rfl 0 [.slice Q3 Q5 Q4, .slice Q0 Q2 Q1, .slice Q6 Q8 Q7] rfl)))) ?_
   exact ⟨Q3, Q5, Q4, Q0, Q2, Q1, Q6, Q8, Q7, rfl, (Mv.pick (S1.trans (S3.trans S14)) [] rfl), (Rd.give V14_0), (Rd.give V14_1), (Rd.give V14_2)⟩
theorem impl_DropPages_c {w : World} {H : Nat → Prop} {m : MachD} {m_Sa : Option Addr} {m_Sn m_Sc : Nat} {m_Ra : Option Addr} {m_Rn m_Rc : Nat} {m_Wa : Option Addr} {m_Wn m_Wc : Nat} {id : Int} (Q18 : Rd 2 encC okC H w (.slice m_Sa m_Sn m_Sc) m.store) (Q19 : Rd 1 encS okS H w (.slice m_Ra m_Rn m_Rc) m.touch.reads) (Q20 : Rd 1 encS okS H w (.slice m_Wa m_Wn m_Wc) m.touch.writes) (h_id : i64ok id) (tab0 : Tb 0 H w) (p0 : bdC 17179869184 m) :
    Calls Tryz.prog 20 #[.agg #[.slice m_Sa m_Sn m_Sc, .slice m_Ra m_Rn m_Rc, .slice m_Wa m_Wn m_Wc], .int .i64 id] w fun e w' => ∃ (Q12 : Option Addr), ∃ (Q14 : Nat), ∃ (Q13 : Nat), ∃ (Q9 : Option Addr), ∃ (Q11 : Nat), ∃ (Q10 : Nat), ∃ (Q15 : Option Addr), ∃ (Q17 : Nat), ∃ (Q16 : Nat), e = .returned (.agg #[.slice Q12 Q14 Q13, .slice Q9 Q11 Q10, .slice Q15 Q17 Q16]) ∧ Mv [] w [ow 73 2 encC okC (.slice Q12 Q14 Q13) (wipeM m (kP_ id)).store, ow 9 1 encS okS (.slice Q9 Q11 Q10) (wipeM m (kP_ id)).touch.reads, ow 9 1 encS okS (.slice Q15 Q17 Q16) (wipeM m (kP_ id)).touch.writes] w' := by
 have uU : True := (fun _ => trivial) p0
 clear uU
 have Q21 : Rd 2 encC okC (V H w []) w (.slice m_Sa m_Sn m_Sc) m.store := Rd.start Q18 (fun _ _ => fps_nil _)
 obtain ⟨Q36, Q33, Q57, Q60⟩ := Rd.inv Q18
 have Q22 : Rd 1 encS okS (V H w []) w (.slice m_Ra m_Rn m_Rc) m.touch.reads := Rd.start Q19 (fun _ _ => fps_nil _)
 obtain ⟨Q37, Q34, Q58, Q61⟩ := Rd.inv Q19
 have Q23 : Rd 1 encS okS (V H w []) w (.slice m_Wa m_Wn m_Wc) m.touch.writes := Rd.start Q20 (fun _ _ => fps_nil _)
 obtain ⟨Q38, Q35, Q59, Q62⟩ := Rd.inv Q20
 have V_tab0 : Tb 0 (V H w []) w := Tb.start tab0 (fun _ _ => fps_nil _)
 refine calls_enter 10 Tryz.func20 rfl Tryz.ntmps20 (Nat.le_of_ble_eq_true rfl) (fun _ F0i => ?_)
 have F0 : Fr 10 [(0, .agg #[.slice m_Sa m_Sn m_Sc, .slice m_Ra m_Rn m_Rc, .slice m_Wa m_Wn m_Wc]), (1, .int .i64 id)] _ := F0i
 clear F0i
 refine wp_seq (wp_region_lit (l_op (f_box F0 (At.nil w) rfl rfl rfl (F0.ev 0 rfl) rfl rfl fun b1 _ w1 F2 S1 => ?_)))
 refine l_op (f_alloc F2 S1.at' ZI_29 rfl rfl rfl rfl rfl fun b3 _ w3 F4 S3 => ?_)
 refine s_end (x_normal (wp_seq (wp_region_lit (l_op (f_val (v := .agg #[.slice m_Sa m_Sn m_Sc, .slice m_Ra m_Rn m_Rc, .slice m_Wa m_Wn m_Wc]) F4 rfl rfl (r_loadB S3.at' 1 TI_29 rfl rfl (F4.ev 2 rfl) rfl rfl (fun h => nomatch h) rfl) rfl fun _ F5 => ?_)))))
 refine l_op (f_call F5 CF_39 rfl rfl rfl rfl (lc (F5.ev 5 rfl) rfl) (impl_Mach_clone_c (m := m) (Rd.mq Q21 (S1.trans S3)) (Rd.mq Q22 (S1.trans S3)) (Rd.mq Q23 (S1.trans S3)) (by first | assumption | omega | ((repeat first | apply b1_ | apply b2_ | apply b3_ | apply b4_ | apply b5_ | apply b6_); exact bdC.le ‹_› (by decide)) | decide | exact Nat.le_trans (keyNum_size _ _ ‹_›) (by decide)) (by first | assumption | omega | ((repeat first | apply b1_ | apply b2_ | apply b3_ | apply b4_ | apply b5_ | apply b6_); exact bdC.le ‹_› (by decide)) | decide | exact Nat.le_trans (keyNum_size _ _ ‹_›) (by decide)) (by first | assumption | omega | ((repeat first | apply b1_ | apply b2_ | apply b3_ | apply b4_ | apply b5_ | apply b6_); exact bdC.le ‹_› (by decide)) | decide | exact Nat.le_trans (keyNum_size _ _ ‹_›) (by decide))) ?_)
 rintro _ w6 ⟨Q27, Q29, Q28, Q24, Q26, Q25, Q30, Q32, Q31, rfl, m6⟩
 refine ⟨_, rfl, fun _ F7 => ?_⟩
 have S6 : Mv _ _ [ow 73 2 encC okC (.slice Q27 Q29 Q28) m.store, ow 9 1 encS okS (.slice Q24 Q26 Q25) m.touch.reads, ow 9 1 encS okS (.slice Q30 Q32 Q31) m.touch.writes, bx b3 [.slice none 0 0, .slice none 0 0, .slice none 0 0] 29, bx b1 [.slice m_Sa m_Sn m_Sc, .slice m_Ra m_Rn m_Rc, .slice m_Wa m_Wn m_Wc] 29] _ := At.frame S3.at' [] rfl m6
 obtain ⟨Q42, Q48, Q54⟩ := At.ownInv S6.at' ET_24.hk 0 rfl
 obtain ⟨Q43, Q49, Q55⟩ := At.ownInv S6.at' ET_25.hk 1 rfl
 obtain ⟨Q44, Q50, Q56⟩ := At.ownInv S6.at' ET_25.hk 2 rfl
 clear m6
 refine l_op (s_store S6.at' 4 TI_29 rfl rfl rfl rfl rfl (F7.ev 2 rfl) (F7.ev 6 rfl) rfl rfl rfl rfl rfl fun w8 S8 => ?_)
 refine s_end (x_normal (wp_seq (wp_region_lit (l_op (f_mv F7 rfl rfl rfl rfl rfl fun _ F9 => ?_)))))
 refine l_op (f_call F9 CF_53 rfl rfl rfl rfl (lc (F9.ev 2 rfl) (lc (F9.ev 7 rfl) rfl)) (impl_Mach_dropPages_c (m := m) (id := id) h_id (Tb.mv V_tab0 (S1.trans (S3.trans (S6.trans S8)))) (by first | assumption | omega | ((repeat first | apply b1_ | apply b2_ | apply b3_ | apply b4_ | apply b5_ | apply b6_); exact bdC.le ‹_› (by decide)) | decide | exact Nat.le_trans (keyNum_size _ _ ‹_›) (by decide)) (At.pick (is := [0, 1, 2, 3]) S8.at' rfl) (V_off (is := [0, 1, 2, 3]))) ?_)
 rintro _ w10 ⟨Q3, Q5, Q4, Q0, Q2, Q1, Q6, Q8, Q7, rfl, m10⟩
 refine ⟨_, rfl, fun _ F11 => ?_⟩
 have S10 : Mv _ _ [bx b1 [.slice Q3 Q5 Q4, .slice Q0 Q2 Q1, .slice Q6 Q8 Q7] 29, ow 73 2 encC okC (.slice Q3 Q5 Q4) (wipeM m (kP_ id)).store, ow 9 1 encS okS (.slice Q0 Q2 Q1) (wipeM m (kP_ id)).touch.reads, ow 9 1 encS okS (.slice Q6 Q8 Q7) (wipeM m (kP_ id)).touch.writes, bx b3 [.slice none 0 0, .slice none 0 0, .slice none 0 0] 29] _ := At.frame S8.at' [0, 1, 2, 3] rfl m10
 obtain ⟨Q39, Q45, Q51⟩ := At.ownInv S10.at' ET_24.hk 1 rfl
 obtain ⟨Q40, Q46, Q52⟩ := At.ownInv S10.at' ET_25.hk 2 rfl
 obtain ⟨Q41, Q47, Q53⟩ := At.ownInv S10.at' ET_25.hk 3 rfl
 clear m10
 refine s_end (x_normal (wp_seq (wp_region_lit (l_op (f_val (v := .agg #[.slice Q3 Q5 Q4, .slice Q0 Q2 Q1, .slice Q6 Q8 Q7]) F11 rfl rfl (r_loadB S10.at' 0 TI_29 rfl rfl (F11.ev 2 rfl) rfl rfl (fun h => nomatch h) rfl) rfl fun _ F12 => ?_)))))
 refine l_op (s_store S10.at' 4 TI_29 rfl rfl rfl rfl rfl (F12.ev 4 rfl) (F12.ev 9 rfl) rfl rfl rfl rfl rfl fun w13 S13 => ?_)
 have T14 : Mv _ _ [bx b3 [.slice Q3 Q5 Q4, .slice Q0 Q2 Q1, .slice Q6 Q8 Q7] 29, bx b1 [.slice Q3 Q5 Q4, .slice Q0 Q2 Q1, .slice Q6 Q8 Q7] 29, ow 73 2 encC okC (.slice Q3 Q5 Q4) (wipeM m (kP_ id)).store, ow 9 1 encS okS (.slice Q0 Q2 Q1) (wipeM m (kP_ id)).touch.reads, ow 9 1 encS okS (.slice Q6 Q8 Q7) (wipeM m (kP_ id)).touch.writes] _ := S13
 refine s_end (x_normal (wp_ret ?_))
 refine x_done (v := .agg #[.slice Q3 Q5 Q4, .slice Q0 Q2 Q1, .slice Q6 Q8 Q7]) F12 (results_1 Tryz.results20 (.cell (F12.ev 4 rfl) (run_loadVar' TI_29 _ [.slice Q3 Q5 Q4, .slice Q0 Q2 Q1, .slice Q6 Q8 Q7] rfl (fun h => nomatch h) (At.cells T14.at' 0 rfl 0 [.slice Q3 Q5 Q4, .slice Q0 Q2 Q1, .slice Q6 Q8 Q7] rfl)))) ?_
 exact ⟨Q3, Q5, Q4, Q0, Q2, Q1, Q6, Q8, Q7, rfl, (Mv.pick (S1.trans (S3.trans (S6.trans (S8.trans (S10.trans T14))))) [2, 3, 4] rfl)⟩
theorem spec_DropPages_c {w : World} {H : Nat → Prop} {m : MachD} {m_Sa : Option Addr} {m_Sn m_Sc : Nat} {m_Ra : Option Addr} {m_Rn m_Rc : Nat} {m_Wa : Option Addr} {m_Wn m_Wc : Nat} {id : Int} (Q18 : Rd 2 encC okC H w (.slice m_Sa m_Sn m_Sc) m.store) (Q19 : Rd 1 encS okS H w (.slice m_Ra m_Rn m_Rc) m.touch.reads) (Q20 : Rd 1 encS okS H w (.slice m_Wa m_Wn m_Wc) m.touch.writes) (h_id : i64ok id) (p0 : bdC 17179869184 m) :
    Calls Tryz.prog 21 #[.agg #[.slice m_Sa m_Sn m_Sc, .slice m_Ra m_Rn m_Rc, .slice m_Wa m_Wn m_Wc], .int .i64 id] w fun e w' => ∃ (Q12 : Option Addr), ∃ (Q14 : Nat), ∃ (Q13 : Nat), ∃ (Q9 : Option Addr), ∃ (Q11 : Nat), ∃ (Q10 : Nat), ∃ (Q15 : Option Addr), ∃ (Q17 : Nat), ∃ (Q16 : Nat), e = .returned (.agg #[.slice Q12 Q14 Q13, .slice Q9 Q11 Q10, .slice Q15 Q17 Q16]) ∧ Mv [] w [] w' ∧ Rd 2 encC okC (Fsh H w) w' (.slice Q12 Q14 Q13) (wipeM m (kP_ id)).store ∧ Rd 1 encS okS (Fsh H w) w' (.slice Q9 Q11 Q10) (wipeM m (kP_ id)).touch.reads ∧ Rd 1 encS okS (Fsh H w) w' (.slice Q15 Q17 Q16) (wipeM m (kP_ id)).touch.writes := by
 have uU : True := (fun _ => trivial) p0
 clear uU
 have Q21 : Rd 2 encC okC (V H w []) w (.slice m_Sa m_Sn m_Sc) m.store := Rd.start Q18 (fun _ _ => fps_nil _)
 obtain ⟨Q27, Q24, Q30, Q33⟩ := Rd.inv Q18
 have Q22 : Rd 1 encS okS (V H w []) w (.slice m_Ra m_Rn m_Rc) m.touch.reads := Rd.start Q19 (fun _ _ => fps_nil _)
 obtain ⟨Q28, Q25, Q31, Q34⟩ := Rd.inv Q19
 have Q23 : Rd 1 encS okS (V H w []) w (.slice m_Wa m_Wn m_Wc) m.touch.writes := Rd.start Q20 (fun _ _ => fps_nil _)
 obtain ⟨Q29, Q26, Q32, Q35⟩ := Rd.inv Q20
 refine calls_enter 9 Tryz.func21 rfl Tryz.ntmps21 (Nat.le_of_ble_eq_true rfl) (fun _ F0i => ?_)
 have F0 : Fr 9 [(0, .agg #[.slice m_Sa m_Sn m_Sc, .slice m_Ra m_Rn m_Rc, .slice m_Wa m_Wn m_Wc]), (1, .int .i64 id)] _ := F0i
 clear F0i
 refine wp_seq (wp_region_lit (l_op (f_box F0 (At.nil w) rfl rfl rfl (F0.ev 0 rfl) rfl rfl fun b1 _ w1 F2 S1 => ?_)))
 refine l_op (f_alloc F2 S1.at' ZI_29 rfl rfl rfl rfl rfl fun b3 _ w3 F4 S3 => ?_)
 refine s_end (x_normal (wp_seq (wp_region_lit (l_op (f_val (v := .agg #[.slice m_Sa m_Sn m_Sc, .slice m_Ra m_Rn m_Rc, .slice m_Wa m_Wn m_Wc]) F4 rfl rfl (r_loadB S3.at' 1 TI_29 rfl rfl (F4.ev 2 rfl) rfl rfl (fun h => nomatch h) rfl) rfl fun _ F5 => ?_)))))
 refine l_op (f_call F5 CF_42 rfl rfl rfl rfl (lc (F5.ev 5 rfl) rfl) (spec_l04Copy_c (m := m) (Rd.mq Q21 (S1.trans S3)) (Rd.mq Q22 (S1.trans S3)) (Rd.mq Q23 (S1.trans S3)) (by first | assumption | omega | ((repeat first | apply b1_ | apply b2_ | apply b3_ | apply b4_ | apply b5_ | apply b6_); exact bdC.le ‹_› (by decide)) | decide | exact Nat.le_trans (keyNum_size _ _ ‹_›) (by decide)) (by first | assumption | omega | ((repeat first | apply b1_ | apply b2_ | apply b3_ | apply b4_ | apply b5_ | apply b6_); exact bdC.le ‹_› (by decide)) | decide | exact Nat.le_trans (keyNum_size _ _ ‹_›) (by decide)) (by first | assumption | omega | ((repeat first | apply b1_ | apply b2_ | apply b3_ | apply b4_ | apply b5_ | apply b6_); exact bdC.le ‹_› (by decide)) | decide | exact Nat.le_trans (keyNum_size _ _ ‹_›) (by decide))) ?_)
 rintro _ w6 ⟨Q39, Q41, Q40, Q36, Q38, Q37, Q42, Q44, Q43, rfl, m6, v6_0, v6_1, v6_2⟩
 refine ⟨_, rfl, fun _ F7 => ?_⟩
 have S6 := At.frame0 S3.at' m6
 have V6_0 := Rd.got0 S3.at' ((S1.trans S3).kp.size) v6_0 S6
 obtain ⟨ln6_0, le6_0, mx6_0, ni6_0⟩ := Rd.inv V6_0
 have V6_1 := Rd.got0 S3.at' ((S1.trans S3).kp.size) v6_1 S6
 obtain ⟨ln6_1, le6_1, mx6_1, ni6_1⟩ := Rd.inv V6_1
 have V6_2 := Rd.got0 S3.at' ((S1.trans S3).kp.size) v6_2 S6
 obtain ⟨ln6_2, le6_2, mx6_2, ni6_2⟩ := Rd.inv V6_2
 clear m6 v6_0 v6_1 v6_2
 refine l_op (f_mv F7 rfl rfl rfl rfl rfl fun _ F8 => ?_)
 refine l_op (f_call F8 CF_54 rfl rfl rfl rfl (lc (F8.ev 6 rfl) (lc (F8.ev 7 rfl) rfl)) (spec_l11DropPages_c (m := m) (id := id) V6_0 V6_1 V6_2 h_id (by first | assumption | omega | ((repeat first | apply b1_ | apply b2_ | apply b3_ | apply b4_ | apply b5_ | apply b6_); exact bdC.le ‹_› (by decide)) | decide | exact Nat.le_trans (keyNum_size _ _ ‹_›) (by decide))) ?_)
 rintro _ w9 ⟨Q3, Q5, Q4, Q0, Q2, Q1, Q6, Q8, Q7, rfl, m9, v9_0, v9_1, v9_2⟩
 refine ⟨_, rfl, fun _ F10 => ?_⟩
 have S9 := At.frame0 S6.at' m9
 have V9_0 := Rd.got0 S6.at' ((S1.trans (S3.trans S6)).kp.size) v9_0 S9
 obtain ⟨ln9_0, le9_0, mx9_0, ni9_0⟩ := Rd.inv V9_0
 have V9_1 := Rd.got0 S6.at' ((S1.trans (S3.trans S6)).kp.size) v9_1 S9
 obtain ⟨ln9_1, le9_1, mx9_1, ni9_1⟩ := Rd.inv V9_1
 have V9_2 := Rd.got0 S6.at' ((S1.trans (S3.trans S6)).kp.size) v9_2 S9
 obtain ⟨ln9_2, le9_2, mx9_2, ni9_2⟩ := Rd.inv V9_2
 clear m9 v9_0 v9_1 v9_2
 refine l_op (s_store S9.at' 0 TI_29 rfl rfl rfl rfl rfl (F10.ev 4 rfl) (F10.ev 8 rfl) rfl rfl rfl rfl rfl fun w11 S11 => ?_)
 refine s_end (x_normal (wp_ret ?_))
 refine x_done (v := .agg #[.slice Q3 Q5 Q4, .slice Q0 Q2 Q1, .slice Q6 Q8 Q7]) F10 (results_1 Tryz.results21 (.cell (F10.ev 4 rfl) (run_loadVar' TI_29 _ [.slice Q3 Q5 Q4, .slice Q0 Q2 Q1, .slice Q6 Q8 Q7] rfl (fun h => nomatch h) (At.cells S11.at' 0 rfl 0 [.slice Q3 Q5 Q4, .slice Q0 Q2 Q1, .slice Q6 Q8 Q7] rfl)))) ?_
 exact ⟨Q3, Q5, Q4, Q0, Q2, Q1, Q6, Q8, Q7, rfl, (Mv.pick (S1.trans (S3.trans (S6.trans (S9.trans S11)))) [] rfl), (Rd.give (Rd.mq V9_0 S11)), (Rd.give (Rd.mq V9_1 S11)), (Rd.give (Rd.mq V9_2 S11))⟩
theorem spec_l11PagesOf_c {w : World} {H : Nat → Prop} {m : MachD} {m_Sa : Option Addr} {m_Sn m_Sc : Nat} {m_Ra : Option Addr} {m_Rn m_Rc : Nat} {m_Wa : Option Addr} {m_Wn m_Wc : Nat} {id : Int} (Q36 : Rd 2 encC okC H w (.slice m_Sa m_Sn m_Sc) m.store) (Q37 : Rd 1 encS okS H w (.slice m_Ra m_Rn m_Rc) m.touch.reads) (Q38 : Rd 1 encS okS H w (.slice m_Wa m_Wn m_Wc) m.touch.writes) (h_id : i64ok id) (p0 : bdC 34359738368 m) :
    Calls Tryz.prog 49 #[.agg #[.slice m_Sa m_Sn m_Sc, .slice m_Ra m_Rn m_Rc, .slice m_Wa m_Wn m_Wc], .int .i64 id] w fun e w' => ∃ (Q21 : Option Addr), ∃ (Q25 : Nat), ∃ (Q23 : Nat), ∃ (Q15 : Option Addr), ∃ (Q19 : Nat), ∃ (Q17 : Nat), ∃ (Q27 : Option Addr), ∃ (Q31 : Nat), ∃ (Q29 : Nat), ∃ (r1_a : Option Addr), ∃ (r1_n : Nat), ∃ (r1_c : Nat), e = .returned (.tuple #[.agg #[.slice Q21 Q25 Q23, .slice Q15 Q19 Q17, .slice Q27 Q31 Q29], .slice r1_a r1_n r1_c]) ∧ Mv [] w [] w' ∧ Rd 2 encC okC (Fsh H w) w' (.slice Q21 Q25 Q23) (lookM m (kP_ id ++ bT_)).store ∧ Rd 1 encS okS (Fsh H w) w' (.slice Q15 Q19 Q17) (lookM m (kP_ id ++ bT_)).touch.reads ∧ Rd 1 encS okS (Fsh H w) w' (.slice Q27 Q31 Q29) (lookM m (kP_ id ++ bT_)).touch.writes ∧ Rd 1 encS okS (Fsh H w) w' (.slice r1_a r1_n r1_c) (cutL (kP_ id).size (keysUnder m.store (kP_ id))) := by
 have uU : True := (fun _ => trivial) p0
 clear uU
 have Q12 : Rd 2 encC okC (V H w []) w (.slice m_Sa m_Sn m_Sc) m.store := Rd.start Q36 (fun _ _ => fps_nil _)
 obtain ⟨Q44, Q41, Q50, Q53⟩ := Rd.inv Q36
 have Q13 : Rd 1 encS okS (V H w []) w (.slice m_Ra m_Rn m_Rc) m.touch.reads := Rd.start Q37 (fun _ _ => fps_nil _)
 obtain ⟨Q45, Q42, Q51, Q54⟩ := Rd.inv Q37
 have Q14 : Rd 1 encS okS (V H w []) w (.slice m_Wa m_Wn m_Wc) m.touch.writes := Rd.start Q38 (fun _ _ => fps_nil _)
 obtain ⟨Q46, Q43, Q52, Q55⟩ := Rd.inv Q38
 refine calls_enter 36 Tryz.func49 rfl Tryz.ntmps49 (Nat.le_of_ble_eq_true rfl) (fun _ F0i => ?_)
 have F0 : Fr 36 [(0, .agg #[.slice m_Sa m_Sn m_Sc, .slice m_Ra m_Rn m_Rc, .slice m_Wa m_Wn m_Wc]), (1, .int .i64 id)] _ := F0i
 clear F0i
 refine wp_seq (wp_region_lit (l_op (f_box F0 (At.nil w) rfl rfl rfl (F0.ev 0 rfl) rfl rfl fun b1 _ w1 F2 S1 => ?_)))
 refine l_op (f_alloc F2 S1.at' ZI_29 rfl rfl rfl rfl rfl fun b3 _ w3 F4 S3 => ?_)
 refine l_op (f_val F4 rfl rfl (r_assign rfl rfl) rfl fun _ F5 => ?_)
 refine s_end (x_normal (wp_seq ?_))
 refine x_draw (fun aZ wZ => ∃ (Q3 : Option Addr), ∃ (Q5 : Nat), ∃ (Q4 : Nat), ∃ (Q0 : Option Addr), ∃ (Q2 : Nat), ∃ (Q1 : Nat), ∃ (Q6 : Option Addr), ∃ (Q8 : Nat), ∃ (Q7 : Nat), ∃ (Q10 : Option Addr), ∃ (Q9 : Nat), ∃ (Q11 : Nat), Fr 36 [(1, .int .i64 id), (2, .pointer (some ⟨b1, 0, none⟩)), (4, .pointer (some ⟨b3, 0, none⟩)), (6, .slice Q10 Q9 Q11)] aZ ∧ Mv [bx b3 [.slice none 0 0, .slice none 0 0, .slice none 0 0] 29, bx b1 [.slice m_Sa m_Sn m_Sc, .slice m_Ra m_Rn m_Rc, .slice m_Wa m_Wn m_Wc] 29] w3 [bx b3 [.slice none 0 0, .slice none 0 0, .slice none 0 0] 29, bx b1 [.slice Q3 Q5 Q4, .slice Q0 Q2 Q1, .slice Q6 Q8 Q7] 29] wZ ∧ Rd 1 encS okS (V H w [bx b3 [.slice none 0 0, .slice none 0 0, .slice none 0 0] 29, bx b1 [.slice Q3 Q5 Q4, .slice Q0 Q2 Q1, .slice Q6 Q8 Q7] 29]) wZ (.slice Q10 Q9 Q11) (keysUnder m.store (kP_ id)) ∧ Rd 2 encC okC (V H w [bx b3 [.slice none 0 0, .slice none 0 0, .slice none 0 0] 29, bx b1 [.slice Q3 Q5 Q4, .slice Q0 Q2 Q1, .slice Q6 Q8 Q7] 29]) wZ (.slice Q3 Q5 Q4) (lookM m ((kP_ id) ++ bT_)).store ∧ Rd 1 encS okS (V H w [bx b3 [.slice none 0 0, .slice none 0 0, .slice none 0 0] 29, bx b1 [.slice Q3 Q5 Q4, .slice Q0 Q2 Q1, .slice Q6 Q8 Q7] 29]) wZ (.slice Q0 Q2 Q1) (lookM m ((kP_ id) ++ bT_)).touch.reads ∧ Rd 1 encS okS (V H w [bx b3 [.slice none 0 0, .slice none 0 0, .slice none 0 0] 29, bx b1 [.slice Q3 Q5 Q4, .slice Q0 Q2 Q1, .slice Q6 Q8 Q7] 29]) wZ (.slice Q6 Q8 Q7) (lookM m ((kP_ id) ++ bT_)).touch.writes) [] mixed S3.at' (listed := #[false, false, false, false, false, false, false, false, false]) rfl (fun w7 S7 => ?_) [] rfl ?_
 · skip
   refine g_take F5 rfl (i := 1) (listed' := #[false, true, false, false, false, false, false, false, false]) rfl (by kernel_rfl) (by kernel_rfl) (by kernel_rfl) (fun _ _ _ h => h) (Sd.of (Mv.refl S7.at') [] rfl) rfl rfl rfl rfl (fun _ hz => (r_move rfl (F5.ev 1 rfl))) fun _ F8 => ?_
   refine d_all (rs := [0, 2]) rfl (by kernel_rfl) (by simp) (d_cons (i := 0) (listed' := #[true, true, false, false, false, false, false, false, false]) rfl rfl ?_ (d_cons (i := 2) (listed' := #[false, true, true, false, false, false, false, false, false]) rfl rfl ?_ d_nil))
   · skip
     refine f_val (v := .agg #[.slice m_Sa m_Sn m_Sc, .slice m_Ra m_Rn m_Rc, .slice m_Wa m_Wn m_Wc]) F8 rfl rfl (r_loadB S7.at' 1 TI_29 rfl rfl (F8.ev 2 rfl) rfl rfl (fun h => nomatch h) rfl) rfl fun _ F9 => ?_
     refine ⟨Sd.of (Mv.refl S7.at') [] rfl, ?_⟩
     refine d_one (i := 2) (listed' := #[true, true, true, false, false, false, false, false, false]) rfl (by kernel_rfl) rfl rfl ?_
     refine f_call F9 CF_77 rfl rfl rfl rfl (lc (F9.ev 11 rfl) rfl) (spec_l11Head_c (H := fun _ => True) (id := id) h_id) ?_
     rintro _ w10 ⟨rfl, m10, Q39⟩
     refine ⟨_, rfl, fun _ F11 => ?_⟩
     have S10 := At.frame0 S7.at' m10
     clear m10
     refine ⟨Sd.of S10 [] rfl, ?_⟩
     refine d_one (i := 3) (listed' := #[true, true, true, true, false, false, false, false, false]) rfl (by kernel_rfl) rfl rfl ?_
     refine f_call F11 CF_86 rfl rfl rfl rfl (lc (F11.ev 10 rfl) (lc (F11.ev 12 rfl) rfl)) (spec_l04Under_c (m := m) (pfx := kP_ id) (Rd.mq Q12 (S1.trans (S3.trans (S7.trans S10)))) (Rd.mq Q13 (S1.trans (S3.trans (S7.trans S10)))) (Rd.mq Q14 (S1.trans (S3.trans (S7.trans S10)))) Q39 (by first | assumption | omega | ((repeat first | apply b1_ | apply b2_ | apply b3_ | apply b4_ | apply b5_ | apply b6_); exact bdC.le ‹_› (by decide)) | decide | exact Nat.le_trans (keyNum_size _ _ ‹_›) (by decide)) (by first | assumption | omega | ((repeat first | apply b1_ | apply b2_ | apply b3_ | apply b4_ | apply b5_ | apply b6_); exact bdC.le ‹_› (by decide)) | decide | exact Nat.le_trans (keyNum_size _ _ ‹_›) (by decide)) (by first | assumption | omega | ((repeat first | apply b1_ | apply b2_ | apply b3_ | apply b4_ | apply b5_ | apply b6_); exact bdC.le ‹_› (by decide)) | decide | exact Nat.le_trans (keyNum_size _ _ ‹_›) (by decide))) ?_
     rintro _ w12 ⟨Q3, Q5, Q4, Q0, Q2, Q1, Q6, Q8, Q7, Q10, Q9, Q11, rfl, m12, v12_0, v12_1, v12_2, v12_3⟩
     refine ⟨_, rfl, fun _ F13 => ?_⟩
     have S12 := At.frame0 S10.at' m12
     have V12_0 := Rd.got0 S10.at' ((S1.trans (S3.trans (S7.trans S10))).kp.size) v12_0 S12
     obtain ⟨ln12_0, le12_0, mx12_0, ni12_0⟩ := Rd.inv V12_0
     have V12_1 := Rd.got0 S10.at' ((S1.trans (S3.trans (S7.trans S10))).kp.size) v12_1 S12
     obtain ⟨ln12_1, le12_1, mx12_1, ni12_1⟩ := Rd.inv V12_1
     have V12_2 := Rd.got0 S10.at' ((S1.trans (S3.trans (S7.trans S10))).kp.size) v12_2 S12
     obtain ⟨ln12_2, le12_2, mx12_2, ni12_2⟩ := Rd.inv V12_2
     have V12_3 := Rd.got0 S10.at' ((S1.trans (S3.trans (S7.trans S10))).kp.size) v12_3 S12
     obtain ⟨ln12_3, le12_3, mx12_3, ni12_3⟩ := Rd.inv V12_3
     clear m12 v12_0 v12_1 v12_2 v12_3
     refine ⟨Sd.of (S10.trans S12) [] rfl, ?_⟩
     refine g_take F13 rfl (i := 4) (listed' := #[true, true, true, true, true, false, false, false, false]) rfl (by kernel_rfl) (by kernel_rfl) (by kernel_rfl) (fun _ _ _ h => h) (Sd.of (S10.trans S12) [] rfl) rfl rfl rfl rfl (fun _ hz => (r_move rfl (F13.ev 13 rfl))) fun _ F14 => ?_
     refine g_take (v := .agg #[.slice Q3 Q5 Q4, .slice Q0 Q2 Q1, .slice Q6 Q8 Q7]) F14 rfl (i := 5) (listed' := #[true, true, true, true, true, true, false, false, false]) rfl (by kernel_rfl) (by kernel_rfl) (by kernel_rfl) (fun _ _ _ h => h) (Sd.of (S10.trans S12) [] rfl) rfl rfl rfl rfl (fun _ hz => (r_extract rfl (F14.ev 9 rfl) rfl)) fun _ F15 => ?_
     refine g_take (v := .slice Q10 Q9 Q11) F15 rfl (i := 6) (listed' := #[true, true, true, true, true, true, true, false, false]) rfl (by kernel_rfl) (by kernel_rfl) (by kernel_rfl) (fun _ _ _ h => h) (Sd.of (S10.trans S12) [] rfl) rfl rfl rfl rfl (fun _ hz => (r_extract rfl (F15.ev 9 rfl) rfl)) fun _ F16 => ?_
     refine d_one (i := 7) (listed' := #[true, true, true, true, true, true, true, true, false]) rfl (by kernel_rfl) rfl rfl ?_
     refine s_store S12.at' 1 TI_29 rfl rfl rfl rfl rfl (F16.ev 2 rfl) (F16.ev 14 rfl) rfl rfl rfl rfl rfl fun w17 S17 => ?_
     refine ⟨Sd.of (S10.trans (S12.trans S17)) [] rfl, ?_⟩
     refine g_take F16 rfl (i := 8) (listed' := #[true, true, true, true, true, true, true, true, true]) rfl (by kernel_rfl) (by kernel_rfl) (by kernel_rfl) (fun _ _ _ h => h) (Sd.of (S10.trans (S12.trans S17)) [] rfl) rfl rfl rfl rfl (fun _ hz => (r_assign rfl (F16.ev 15 rfl))) fun _ F18 => ?_
     refine wpAnyH_done (by kernel_rfl) (x_normal ?_) _
     exact ⟨Q3, Q5, Q4, Q0, Q2, Q1, Q6, Q8, Q7, Q10, Q9, Q11, F18.cut rfl, ((S7.trans (S10.trans (S12.trans S17))).pick [1, 0] rfl), (Rd.mq (Rd.mq V12_3 S17) (Mv.pick (Mv.refl S17.at') [1, 0] rfl)), (Rd.mq (Rd.mq V12_0 S17) (Mv.pick (Mv.refl S17.at') [1, 0] rfl)), (Rd.mq (Rd.mq V12_1 S17) (Mv.pick (Mv.refl S17.at') [1, 0] rfl)), (Rd.mq (Rd.mq V12_2 S17) (Mv.pick (Mv.refl S17.at') [1, 0] rfl))⟩
   · skip
     refine f_call F8 CF_77 rfl rfl rfl rfl (lc (F8.ev 11 rfl) rfl) (spec_l11Head_c (H := fun _ => True) (id := id) h_id) ?_
     rintro _ w19 ⟨rfl, m19, Q40⟩
     refine ⟨_, rfl, fun _ F20 => ?_⟩
     have S19 := At.frame0 S7.at' m19
     clear m19
     refine ⟨Sd.of S19 [] rfl, ?_⟩
     refine d_one (i := 0) (listed' := #[true, true, true, false, false, false, false, false, false]) rfl (by kernel_rfl) rfl rfl ?_
     refine f_val (v := .agg #[.slice m_Sa m_Sn m_Sc, .slice m_Ra m_Rn m_Rc, .slice m_Wa m_Wn m_Wc]) F20 rfl rfl (r_loadB S19.at' 1 TI_29 rfl rfl (F20.ev 2 rfl) rfl rfl (fun h => nomatch h) rfl) rfl fun _ F21 => ?_
     refine ⟨Sd.of S19 [] rfl, ?_⟩
     refine d_one (i := 3) (listed' := #[true, true, true, true, false, false, false, false, false]) rfl (by kernel_rfl) rfl rfl ?_
     refine f_call F21 CF_86 rfl rfl rfl rfl (lc (F21.ev 10 rfl) (lc (F21.ev 12 rfl) rfl)) (spec_l04Under_c (m := m) (pfx := kP_ id) (Rd.mq Q12 (S1.trans (S3.trans (S7.trans S19)))) (Rd.mq Q13 (S1.trans (S3.trans (S7.trans S19)))) (Rd.mq Q14 (S1.trans (S3.trans (S7.trans S19)))) Q40 (by first | assumption | omega | ((repeat first | apply b1_ | apply b2_ | apply b3_ | apply b4_ | apply b5_ | apply b6_); exact bdC.le ‹_› (by decide)) | decide | exact Nat.le_trans (keyNum_size _ _ ‹_›) (by decide)) (by first | assumption | omega | ((repeat first | apply b1_ | apply b2_ | apply b3_ | apply b4_ | apply b5_ | apply b6_); exact bdC.le ‹_› (by decide)) | decide | exact Nat.le_trans (keyNum_size _ _ ‹_›) (by decide)) (by first | assumption | omega | ((repeat first | apply b1_ | apply b2_ | apply b3_ | apply b4_ | apply b5_ | apply b6_); exact bdC.le ‹_› (by decide)) | decide | exact Nat.le_trans (keyNum_size _ _ ‹_›) (by decide))) ?_
     rintro _ w22 ⟨Q22, Q26, Q24, Q16, Q20, Q18, Q28, Q32, Q30, Q33, Q35, Q34, rfl, m22, v22_0, v22_1, v22_2, v22_3⟩
     refine ⟨_, rfl, fun _ F23 => ?_⟩
     have S22 := At.frame0 S19.at' m22
     have V22_0 := Rd.got0 S19.at' ((S1.trans (S3.trans (S7.trans S19))).kp.size) v22_0 S22
     obtain ⟨ln22_0, le22_0, mx22_0, ni22_0⟩ := Rd.inv V22_0
     have V22_1 := Rd.got0 S19.at' ((S1.trans (S3.trans (S7.trans S19))).kp.size) v22_1 S22
     obtain ⟨ln22_1, le22_1, mx22_1, ni22_1⟩ := Rd.inv V22_1
     have V22_2 := Rd.got0 S19.at' ((S1.trans (S3.trans (S7.trans S19))).kp.size) v22_2 S22
     obtain ⟨ln22_2, le22_2, mx22_2, ni22_2⟩ := Rd.inv V22_2
     have V22_3 := Rd.got0 S19.at' ((S1.trans (S3.trans (S7.trans S19))).kp.size) v22_3 S22
     obtain ⟨ln22_3, le22_3, mx22_3, ni22_3⟩ := Rd.inv V22_3
     clear m22 v22_0 v22_1 v22_2 v22_3
     refine ⟨Sd.of (S19.trans S22) [] rfl, ?_⟩
     refine g_take F23 rfl (i := 4) (listed' := #[true, true, true, true, true, false, false, false, false]) rfl (by kernel_rfl) (by kernel_rfl) (by kernel_rfl) (fun _ _ _ h => h) (Sd.of (S19.trans S22) [] rfl) rfl rfl rfl rfl (fun _ hz => (r_move rfl (F23.ev 13 rfl))) fun _ F24 => ?_
     refine g_take (v := .agg #[.slice Q22 Q26 Q24, .slice Q16 Q20 Q18, .slice Q28 Q32 Q30]) F24 rfl (i := 5) (listed' := #[true, true, true, true, true, true, false, false, false]) rfl (by kernel_rfl) (by kernel_rfl) (by kernel_rfl) (fun _ _ _ h => h) (Sd.of (S19.trans S22) [] rfl) rfl rfl rfl rfl (fun _ hz => (r_extract rfl (F24.ev 9 rfl) rfl)) fun _ F25 => ?_
     refine g_take (v := .slice Q33 Q35 Q34) F25 rfl (i := 6) (listed' := #[true, true, true, true, true, true, true, false, false]) rfl (by kernel_rfl) (by kernel_rfl) (by kernel_rfl) (fun _ _ _ h => h) (Sd.of (S19.trans S22) [] rfl) rfl rfl rfl rfl (fun _ hz => (r_extract rfl (F25.ev 9 rfl) rfl)) fun _ F26 => ?_
     refine d_one (i := 7) (listed' := #[true, true, true, true, true, true, true, true, false]) rfl (by kernel_rfl) rfl rfl ?_
     refine s_store S22.at' 1 TI_29 rfl rfl rfl rfl rfl (F26.ev 2 rfl) (F26.ev 14 rfl) rfl rfl rfl rfl rfl fun w27 S27 => ?_
     refine ⟨Sd.of (S19.trans (S22.trans S27)) [] rfl, ?_⟩
     refine g_take F26 rfl (i := 8) (listed' := #[true, true, true, true, true, true, true, true, true]) rfl (by kernel_rfl) (by kernel_rfl) (by kernel_rfl) (fun _ _ _ h => h) (Sd.of (S19.trans (S22.trans S27)) [] rfl) rfl rfl rfl rfl (fun _ hz => (r_assign rfl (F26.ev 15 rfl))) fun _ F28 => ?_
     refine wpAnyH_done (by kernel_rfl) (x_normal ?_) _
     exact ⟨Q22, Q26, Q24, Q16, Q20, Q18, Q28, Q32, Q30, Q33, Q35, Q34, F28.cut rfl, ((S7.trans (S19.trans (S22.trans S27))).pick [1, 0] rfl), (Rd.mq (Rd.mq V22_3 S27) (Mv.pick (Mv.refl S27.at') [1, 0] rfl)), (Rd.mq (Rd.mq V22_0 S27) (Mv.pick (Mv.refl S27.at') [1, 0] rfl)), (Rd.mq (Rd.mq V22_1 S27) (Mv.pick (Mv.refl S27.at') [1, 0] rfl)), (Rd.mq (Rd.mq V22_2 S27) (Mv.pick (Mv.refl S27.at') [1, 0] rfl))⟩
 · rintro a29 w29 ⟨Q3, Q5, Q4, Q0, Q2, Q1, Q6, Q8, Q7, Q10, Q9, Q11, F29, S29, V29_0, V29_1, V29_2, V29_3⟩
   obtain ⟨ln29_0, le29_0, mx29_0, ni29_0⟩ := Rd.inv V29_0
   obtain ⟨ln29_1, le29_1, mx29_1, ni29_1⟩ := Rd.inv V29_1
   obtain ⟨ln29_2, le29_2, mx29_2, ni29_2⟩ := Rd.inv V29_2
   obtain ⟨ln29_3, le29_3, mx29_3, ni29_3⟩ := Rd.inv V29_3
   refine x_normal (wp_seq (wp_region_lit (l_op (f_buildSl (ok := okS) (vs := []) F29 S29.at' (([] : List ByteArray)) ET_25 rfl rfl rfl rfl rfl rfl rfl rfl rfl (by simp) fun b30 _ w30 F31 S30 => ?_))))
   refine l_op (f_as F31 rfl rfl rfl rfl rfl fun _ F32 => ?_)
   refine s_end (x_normal (wp_seq (wp_seq (wp_region_lit (l_op (f_val F32 rfl rfl (r_assign rfl rfl) rfl fun _ F33 => ?_))))))
   refine s_end (x_normal (wp_block ?_))
   refine x_loop (fun (k : Nat) aZ wZ => ∃ (oa : Option Addr), ∃ (on : Nat), ∃ (oc : Nat), Fr 36 [(8, .int .i64 ((k : Nat) : Int)), (7, .slice oa on oc), (1, .int .i64 id), (2, .pointer (some ⟨b1, 0, none⟩)), (4, .pointer (some ⟨b3, 0, none⟩)), (6, .slice Q10 Q9 Q11)] aZ ∧ Mv [ow 9 1 encS okS (.slice (some ⟨b30, 0, none⟩) 0 0) ([] : List ByteArray), bx b3 [.slice none 0 0, .slice none 0 0, .slice none 0 0] 29, bx b1 [.slice Q3 Q5 Q4, .slice Q0 Q2 Q1, .slice Q6 Q8 Q7] 29] w30 [ow 9 1 encS okS (.slice oa on oc) (cutL (kP_ id).size ((keysUnder m.store (kP_ id)).take k)), bx b3 [.slice none 0 0, .slice none 0 0, .slice none 0 0] 29, bx b1 [.slice Q3 Q5 Q4, .slice Q0 Q2 Q1, .slice Q6 Q8 Q7] 29] wZ ∧ (k ≤ (keysUnder m.store (kP_ id)).length)) (fun (k : Nat) => (keysUnder m.store (kP_ id)).length - k) (0) ?_ ?_
   · exact ⟨(some ⟨b30, 0, none⟩), 0, 0, F33.cut rfl, (Mv.refl S30.at'), by omega⟩
   · rintro k a34 w34 ⟨oa, on, oc, F34, S34, hk_0⟩
     refine wp_seq (wp_seq (wp_region_lit (l_op (f_mv F34 rfl rfl rfl rfl rfl fun _ F35 => ?_))))
     refine l_op (f_mv F35 rfl rfl rfl rfl rfl fun _ F36 => ?_)
     refine l_op (f_val F36 rfl rfl (r_len Tryz.underlying25 rfl (F36.ev 18 rfl)) rfl fun _ F37 => ?_)
     refine l_op (f_val F37 rfl rfl (r_cmp (b := decide (k < Q9)) (.inr (.inr (.inl rfl))) rfl (F37.ev 17 rfl) (F37.ev 19 rfl) (dec_of (by omega))) rfl fun _ F38 => ?_)
     refine s_end (x_normal (x_cond (p := k < Q9) (F38.ev 20 rfl) (fun h39 => ?_) (fun h39 => ?_)))
     · skip
       refine wp_skip (x_normal (wp_seq (wp_block ?_)))
       obtain ⟨x1, hx1, okx1⟩ := Rd.elem (Rd.mq V29_0 (S30.trans S34)) k (by first | assumption | omega)
       refine x_draw (fun aZ wZ => ∃ (b53 : Nat), ∃ (A55 : Option Addr), ∃ (N55 : Nat), ∃ (C55 : Nat), Fr 36 [(1, .int .i64 id), (2, .pointer (some ⟨b1, 0, none⟩)), (4, .pointer (some ⟨b3, 0, none⟩)), (6, .slice Q10 Q9 Q11), (7, .slice A55 N55 C55), (8, .int .i64 ((k : Nat) : Int))] aZ ∧ Mv [ow 9 1 encS okS (.slice oa on oc) (cutL (kP_ id).size ((keysUnder m.store (kP_ id)).take k)), bx b3 [.slice none 0 0, .slice none 0 0, .slice none 0 0] 29, bx b1 [.slice Q3 Q5 Q4, .slice Q0 Q2 Q1, .slice Q6 Q8 Q7] 29] w34 [bx b3 [.slice none 0 0, .slice none 0 0, .slice none 0 0] 29, bx b1 [.slice Q3 Q5 Q4, .slice Q0 Q2 Q1, .slice Q6 Q8 Q7] 29, ow 9 1 encS okS (.slice A55 N55 C55) ((cutL (kP_ id).size ((keysUnder m.store (kP_ id)).take k)) ++ ([(x1.extract (kP_ id).size x1.size)]))] wZ) [] mixed S34.at' (listed := #[false, false, false, false, false, false, false, false, false, false, false, false]) rfl (fun w41 S41 => ?_) [] rfl ?_
       · skip
         refine g_take F38 rfl (i := 0) (listed' := #[true, false, false, false, false, false, false, false, false, false, false, false]) rfl (by kernel_rfl) (by kernel_rfl) (by kernel_rfl) (fun _ _ _ h => h) (Sd.of (Mv.refl S41.at') [] rfl) rfl rfl rfl rfl (fun _ hz => (r_move rfl (F38.ev 7 rfl))) fun _ F42 => ?_
         refine g_take F42 rfl (i := 1) (listed' := #[true, true, false, false, false, false, false, false, false, false, false, false]) rfl (by kernel_rfl) (by kernel_rfl) (by kernel_rfl) (fun _ _ _ h => h) (Sd.of (Mv.refl S41.at') [] rfl) rfl rfl rfl rfl (fun _ hz => (r_move rfl (F42.ev 6 rfl))) fun _ F43 => ?_
         refine g_take F43 rfl (i := 2) (listed' := #[true, true, true, false, false, false, false, false, false, false, false, false]) rfl (by kernel_rfl) (by kernel_rfl) (by kernel_rfl) (fun _ _ _ h => h) (Sd.of (Mv.refl S41.at') [] rfl) rfl rfl rfl rfl (fun _ hz => (r_move rfl (F43.ev 8 rfl))) fun _ F44 => ?_
         obtain ⟨B45, O45, y45, ad45, hy45, oky45, ln45, cl45⟩ := Rd.atK (Nat.succ_pos _) (Rd.mq V29_0 (S30.trans (S34.trans S41))) k (by first | assumption | omega)
         clear ln45
         obtain rfl := Option.some.inj (hx1.symm.trans hy45)
         clear hy45 oky45
         refine g_take F44 rfl (i := 3) (listed' := #[true, true, true, true, false, false, false, false, false, false, false, false]) rfl (by kernel_rfl) (by kernel_rfl) (by kernel_rfl) (fun _ _ _ h => h) (Sd.of (Mv.refl S41.at') [] rfl) rfl rfl rfl rfl (fun _ hz => (r_indexAddr (i := k) ET_25 rfl ((F44.ev 24 rfl).trans (by rw [ad45])) (F44.ev 25 rfl) (by omega) (by first | assumption | omega))) fun _ F46 => ?_
         refine g_take (v := .string x1) F46 rfl (i := 4) (listed' := #[true, true, true, true, true, false, false, false, false, false, false, false]) rfl (by kernel_rfl) (by kernel_rfl) (by kernel_rfl) (fun _ _ _ h => h) (Sd.of (Mv.refl S41.at') [] rfl) rfl rfl rfl rfl (fun _ hz => (r_load (cs := [.string x1]) TI_9 rfl (F46.ev 26 rfl) rfl (fun _ => rfl) (elem_sub (f := 0) (cl45 _ hz.kp) [.string x1] rfl))) fun _ F47 => ?_
         refine g_take F47 rfl (i := 5) (listed' := #[true, true, true, true, true, true, false, false, false, false, false, false]) rfl (by kernel_rfl) (by kernel_rfl) (by kernel_rfl) (fun _ _ _ h => h) (Sd.of (Mv.refl S41.at') [] rfl) rfl rfl rfl rfl (fun _ hz => (r_move rfl (F47.ev 1 rfl))) fun _ F48 => ?_
         refine d_one (i := 6) (listed' := #[true, true, true, true, true, true, true, false, false, false, false, false]) rfl (by kernel_rfl) rfl rfl ?_
         refine f_call F48 CF_77 rfl rfl rfl rfl (lc (F48.ev 28 rfl) rfl) (spec_l11Head_c (H := fun _ => True) (id := id) h_id) ?_
         rintro _ w49 ⟨rfl, m49, Q56⟩
         refine ⟨_, rfl, fun _ F50 => ?_⟩
         have S49 := At.frame0 S41.at' m49
         clear m49
         refine ⟨Sd.of S49 [] rfl, ?_⟩
         refine g_take F50 rfl (i := 7) (listed' := #[true, true, true, true, true, true, true, true, false, false, false, false]) rfl (by kernel_rfl) (by kernel_rfl) (by kernel_rfl) (fun _ _ _ h => h) (Sd.of S49 [] rfl) rfl rfl rfl rfl (fun _ hz => (r_lenS (fun t ht => by cases ht; exact Tryz.underlying9) rfl rfl (F50.ev 29 rfl))) fun _ F51 => ?_
         refine g_take F51 rfl (i := 8) (listed' := #[true, true, true, true, true, true, true, true, true, false, false, false]) rfl (by kernel_rfl) (by kernel_rfl) (by kernel_rfl) (fun _ _ _ h => h) (Sd.of S49 [] rfl) rfl rfl rfl rfl (fun _ hz => (r_sliceS (l := (kP_ id).size) (h := x1.size) Tryz.underlying9 rfl (F51.ev 27 rfl) (F51.ev 30 rfl) rfl (by have := keysUnder_pre hx1; omega) (by have := keysUnder_pre hx1; omega) rfl)) fun _ F52 => ?_
         refine d_one (i := 9) (listed' := #[true, true, true, true, true, true, true, true, true, true, false, false]) rfl (by kernel_rfl) rfl rfl ?_
         refine f_buildSl (ok := okS) (vs := [.string (x1.extract (kP_ id).size x1.size)]) F52 S49.at' ([(x1.extract (kP_ id).size x1.size)]) ET_25 rfl rfl rfl rfl rfl rfl (lc (pr2 (F52.ev 31 rfl)) rfl) rfl rfl (fun x hx => (List.mem_singleton.1 hx) ▸ (okS_ext okx1)) fun b53 _ w53 F54 S53 => ?_
         refine ⟨Sd.of (S49.trans S53) [] rfl, ?_⟩
         refine d_one (i := 10) (listed' := #[true, true, true, true, true, true, true, true, true, true, true, false]) rfl (by kernel_rfl) rfl rfl ?_
         refine f_app (news := [(x1.extract (kP_ id).size x1.size)]) F54 S53.at' 1 ET_25 rfl rfl rfl rfl rfl rfl (F54.ev 23 rfl) (F54.ev 32 rfl) ((At.rd S53.at' ET_25.hk 0 rfl)).1 (by have hc := cutL_take (kP_ id).size m.store (kP_ id) k; have hs := bdC.s (m := m) ‹_›; first | omega | ((repeat (first | rw [List.length_append] | rw [List.length_cons] | rw [List.length_nil] | rw [List.length_take] | rw [List.length_drop])) <;> omega)) fun A55 N55 C55 _ w55 F56 S55 l55 => ?_
         have S57 := At.drop S55.at' 1
         refine ⟨Sd.of (S49.trans (S53.trans (S55.trans S57))) [] rfl, ?_⟩
         refine g_take F56 rfl (i := 11) (listed' := #[true, true, true, true, true, true, true, true, true, true, true, true]) rfl (by kernel_rfl) (by kernel_rfl) (by kernel_rfl) (fun _ _ _ h => h) (Sd.of (S49.trans (S53.trans (S55.trans S57))) [] rfl) rfl rfl rfl rfl (fun _ hz => (r_assign rfl (F56.ev 33 rfl))) fun _ F58 => ?_
         refine wpAnyH_done (by kernel_rfl) (x_normal ?_) _
         exact ⟨b53, A55, N55, C55, F58.cut rfl, ((S41.trans (S49.trans (S53.trans (S55.trans S57)))).pick [1, 2, 0] rfl)⟩
       · rintro a59 w59 ⟨b53, A55, N55, C55, F59, S59⟩
         obtain ⟨Q47, Q48, Q49⟩ := At.ownInv S59.at' ET_25.hk 2 rfl
         refine x_block_normal (x_normal (wp_region_lit (l_op (f_mv F59 rfl rfl rfl rfl rfl fun _ F60 => ?_))))
         refine l_op (f_val F60 rfl rfl (r_add (z := ((k + 1 : Nat) : Int)) rfl (F60.ev 21 rfl) rfl (by first | rfl | omega) ⟨by first | omega | (unfold i64ok at *; omega), by first | omega | (unfold i64ok at *; omega)⟩) rfl fun _ F61 => ?_)
         refine l_op (f_as F61 rfl rfl rfl rfl rfl fun _ F62 => ?_)
         refine s_end ?_
         refine x_normal ⟨k + 1, by omega, A55, N55, C55, F62.cut rfl, (Mv.cast ((S34.trans S59).pick [2, 0, 1] rfl) (by (rw [cutL_step hx1]); all_goals rfl)), by omega⟩
     · skip
       refine wp_exit (x_then_exit (x_then_exit (x_block_here (x_normal (wp_seq (wp_region_lit (l_op (f_val (v := .agg #[.slice Q3 Q5 Q4, .slice Q0 Q2 Q1, .slice Q6 Q8 Q7]) F38 rfl rfl (r_loadB S34.at' 2 TI_29 rfl rfl (F38.ev 2 rfl) rfl rfl (fun h => nomatch h) rfl) rfl fun _ F63 => ?_))))))))
       refine l_op (f_mv F63 rfl rfl rfl rfl rfl fun _ F64 => ?_)
       refine l_op (s_store S34.at' 1 TI_29 rfl rfl rfl rfl rfl (F64.ev 4 rfl) (F64.ev 34 rfl) rfl rfl rfl rfl rfl fun w65 S65 => ?_)
       refine l_op (f_as F64 rfl rfl rfl rfl rfl fun _ F66 => ?_)
       have T67 : Mv _ _ [bx b3 [.slice Q3 Q5 Q4, .slice Q0 Q2 Q1, .slice Q6 Q8 Q7] 29, ow 9 1 encS okS (.slice oa on oc) (cutL (kP_ id).size ((keysUnder m.store (kP_ id)).take k)), bx b1 [.slice Q3 Q5 Q4, .slice Q0 Q2 Q1, .slice Q6 Q8 Q7] 29] _ := S65
       refine s_end (x_normal (wp_ret ?_))
       have Z68 : Rd 1 encS okS (V H w [bx b3 [.slice Q3 Q5 Q4, .slice Q0 Q2 Q1, .slice Q6 Q8 Q7] 29, bx b1 [.slice Q3 Q5 Q4, .slice Q0 Q2 Q1, .slice Q6 Q8 Q7] 29]) w65 (.slice oa on oc) (cutL (kP_ id).size ((keysUnder m.store (kP_ id)).take k)) := At.freeze (S1.trans (S3.trans (S29.trans (S30.trans (S34.trans T67))))) ET_25.hk 1 rfl (fun b hb => ((S1.trans (S3.trans (S29.trans (S30.trans (S34.trans T67))))).fresh b ⟨_, nth_mem (i := 1) rfl, hb⟩).resolve_left (fps_nil _))
       have S68 := At.drop T67.at' 1
       refine x_done (v := .tuple #[.agg #[.slice Q3 Q5 Q4, .slice Q0 Q2 Q1, .slice Q6 Q8 Q7], .slice oa on oc]) F66 (results_2 Tryz.results49 (.cell (F66.ev 4 rfl) (run_loadVar' TI_29 _ [.slice Q3 Q5 Q4, .slice Q0 Q2 Q1, .slice Q6 Q8 Q7] rfl (fun h => nomatch h) (At.cells T67.at' 0 rfl 0 [.slice Q3 Q5 Q4, .slice Q0 Q2 Q1, .slice Q6 Q8 Q7] rfl))) (.tmp (F66.ev 5 rfl))) ?_
       exact ⟨Q3, Q5, Q4, Q0, Q2, Q1, Q6, Q8, Q7, oa, on, oc, rfl, (Mv.pick (S1.trans (S3.trans (S29.trans (S30.trans (S34.trans (T67.trans S68)))))) [] rfl), (Rd.cast (Rd.give (Rd.mq V29_1 (S30.trans (S34.trans (T67.trans S68))))) (show (lookM m ((kP_ id) ++ bT_)).store = (lookM m (kP_ id ++ bT_)).store from by first | rfl | rw [List.take_of_length_le (by omega)])), (Rd.cast (Rd.give (Rd.mq V29_2 (S30.trans (S34.trans (T67.trans S68))))) (show (lookM m ((kP_ id) ++ bT_)).touch.reads = (lookM m (kP_ id ++ bT_)).touch.reads from by first | rfl | rw [List.take_of_length_le (by omega)])), (Rd.cast (Rd.give (Rd.mq V29_3 (S30.trans (S34.trans (T67.trans S68))))) (show (lookM m ((kP_ id) ++ bT_)).touch.writes = (lookM m (kP_ id ++ bT_)).touch.writes from by first | rfl | rw [List.take_of_length_le (by omega)])), (Rd.cast (Rd.give Z68) (show (cutL (kP_ id).size ((keysUnder m.store (kP_ id)).take k)) = (cutL (kP_ id).size (keysUnder m.store (kP_ id))) from by first | rfl | rw [List.take_of_length_le (by omega)]))⟩
theorem spec_PagesOf_c {w : World} {H : Nat → Prop} {m : MachD} {m_Sa : Option Addr} {m_Sn m_Sc : Nat} {m_Ra : Option Addr} {m_Rn m_Rc : Nat} {m_Wa : Option Addr} {m_Wn m_Wc : Nat} {id : Int} (Q21 : Rd 2 encC okC H w (.slice m_Sa m_Sn m_Sc) m.store) (Q22 : Rd 1 encS okS H w (.slice m_Ra m_Rn m_Rc) m.touch.reads) (Q23 : Rd 1 encS okS H w (.slice m_Wa m_Wn m_Wc) m.touch.writes) (h_id : i64ok id) (p0 : bdC 17179869184 m) :
    Calls Tryz.prog 16 #[.agg #[.slice m_Sa m_Sn m_Sc, .slice m_Ra m_Rn m_Rc, .slice m_Wa m_Wn m_Wc], .int .i64 id] w fun e w' => ∃ (Q15 : Option Addr), ∃ (Q17 : Nat), ∃ (Q16 : Nat), ∃ (Q12 : Option Addr), ∃ (Q14 : Nat), ∃ (Q13 : Nat), ∃ (Q18 : Option Addr), ∃ (Q20 : Nat), ∃ (Q19 : Nat), ∃ (r1_a : Option Addr), ∃ (r1_n : Nat), ∃ (r1_c : Nat), e = .returned (.tuple #[.agg #[.slice Q15 Q17 Q16, .slice Q12 Q14 Q13, .slice Q18 Q20 Q19], .slice r1_a r1_n r1_c]) ∧ Mv [] w [] w' ∧ Rd 2 encC okC (Fsh H w) w' (.slice Q15 Q17 Q16) (lookM m (kP_ id ++ bT_)).store ∧ Rd 1 encS okS (Fsh H w) w' (.slice Q12 Q14 Q13) (lookM m (kP_ id ++ bT_)).touch.reads ∧ Rd 1 encS okS (Fsh H w) w' (.slice Q18 Q20 Q19) (lookM m (kP_ id ++ bT_)).touch.writes ∧ Rd 1 encS okS (Fsh H w) w' (.slice r1_a r1_n r1_c) (cutL (kP_ id).size (keysUnder m.store (kP_ id))) := by
 have uU : True := (fun _ => trivial) p0
 clear uU
 have Q24 : Rd 2 encC okC (V H w []) w (.slice m_Sa m_Sn m_Sc) m.store := Rd.start Q21 (fun _ _ => fps_nil _)
 obtain ⟨Q30, Q27, Q33, Q36⟩ := Rd.inv Q21
 have Q25 : Rd 1 encS okS (V H w []) w (.slice m_Ra m_Rn m_Rc) m.touch.reads := Rd.start Q22 (fun _ _ => fps_nil _)
 obtain ⟨Q31, Q28, Q34, Q37⟩ := Rd.inv Q22
 have Q26 : Rd 1 encS okS (V H w []) w (.slice m_Wa m_Wn m_Wc) m.touch.writes := Rd.start Q23 (fun _ _ => fps_nil _)
 obtain ⟨Q32, Q29, Q35, Q38⟩ := Rd.inv Q23
 refine calls_enter 12 Tryz.func16 rfl Tryz.ntmps16 (Nat.le_of_ble_eq_true rfl) (fun _ F0i => ?_)
 have F0 : Fr 12 [(0, .agg #[.slice m_Sa m_Sn m_Sc, .slice m_Ra m_Rn m_Rc, .slice m_Wa m_Wn m_Wc]), (1, .int .i64 id)] _ := F0i
 clear F0i
 refine wp_seq (wp_region_lit (l_op (f_box F0 (At.nil w) rfl rfl rfl (F0.ev 0 rfl) rfl rfl fun b1 _ w1 F2 S1 => ?_)))
 refine l_op (f_alloc F2 S1.at' ZI_29 rfl rfl rfl rfl rfl fun b3 _ w3 F4 S3 => ?_)
 refine l_op (f_val F4 rfl rfl (r_assign rfl rfl) rfl fun _ F5 => ?_)
 refine s_end (x_normal (wp_seq (wp_region_lit (l_op (f_val (v := .agg #[.slice m_Sa m_Sn m_Sc, .slice m_Ra m_Rn m_Rc, .slice m_Wa m_Wn m_Wc]) F5 rfl rfl (r_loadB S3.at' 1 TI_29 rfl rfl (F5.ev 2 rfl) rfl rfl (fun h => nomatch h) rfl) rfl fun _ F6 => ?_)))))
 refine l_op (f_call F6 CF_42 rfl rfl rfl rfl (lc (F6.ev 6 rfl) rfl) (spec_l04Copy_c (m := m) (Rd.mq Q24 (S1.trans S3)) (Rd.mq Q25 (S1.trans S3)) (Rd.mq Q26 (S1.trans S3)) (by first | assumption | omega | ((repeat first | apply b1_ | apply b2_ | apply b3_ | apply b4_ | apply b5_ | apply b6_); exact bdC.le ‹_› (by decide)) | decide | exact Nat.le_trans (keyNum_size _ _ ‹_›) (by decide)) (by first | assumption | omega | ((repeat first | apply b1_ | apply b2_ | apply b3_ | apply b4_ | apply b5_ | apply b6_); exact bdC.le ‹_› (by decide)) | decide | exact Nat.le_trans (keyNum_size _ _ ‹_›) (by decide)) (by first | assumption | omega | ((repeat first | apply b1_ | apply b2_ | apply b3_ | apply b4_ | apply b5_ | apply b6_); exact bdC.le ‹_› (by decide)) | decide | exact Nat.le_trans (keyNum_size _ _ ‹_›) (by decide))) ?_)
 rintro _ w7 ⟨Q42, Q44, Q43, Q39, Q41, Q40, Q45, Q47, Q46, rfl, m7, v7_0, v7_1, v7_2⟩
 refine ⟨_, rfl, fun _ F8 => ?_⟩
 have S7 := At.frame0 S3.at' m7
 have V7_0 := Rd.got0 S3.at' ((S1.trans S3).kp.size) v7_0 S7
 obtain ⟨ln7_0, le7_0, mx7_0, ni7_0⟩ := Rd.inv V7_0
 have V7_1 := Rd.got0 S3.at' ((S1.trans S3).kp.size) v7_1 S7
 obtain ⟨ln7_1, le7_1, mx7_1, ni7_1⟩ := Rd.inv V7_1
 have V7_2 := Rd.got0 S3.at' ((S1.trans S3).kp.size) v7_2 S7
 obtain ⟨ln7_2, le7_2, mx7_2, ni7_2⟩ := Rd.inv V7_2
 clear m7 v7_0 v7_1 v7_2
 refine l_op (f_mv F8 rfl rfl rfl rfl rfl fun _ F9 => ?_)
 refine l_op (f_call F9 CF_49 rfl rfl rfl rfl (lc (F9.ev 7 rfl) (lc (F9.ev 8 rfl) rfl)) (spec_l11PagesOf_c (m := m) (id := id) V7_0 V7_1 V7_2 h_id (by first | assumption | omega | ((repeat first | apply b1_ | apply b2_ | apply b3_ | apply b4_ | apply b5_ | apply b6_); exact bdC.le ‹_› (by decide)) | decide | exact Nat.le_trans (keyNum_size _ _ ‹_›) (by decide))) ?_)
 rintro _ w10 ⟨Q3, Q5, Q4, Q0, Q2, Q1, Q6, Q8, Q7, Q9, Q11, Q10, rfl, m10, v10_0, v10_1, v10_2, v10_3⟩
 refine ⟨_, rfl, fun _ F11 => ?_⟩
 have S10 := At.frame0 S7.at' m10
 have V10_0 := Rd.got0 S7.at' ((S1.trans (S3.trans S7)).kp.size) v10_0 S10
 obtain ⟨ln10_0, le10_0, mx10_0, ni10_0⟩ := Rd.inv V10_0
 have V10_1 := Rd.got0 S7.at' ((S1.trans (S3.trans S7)).kp.size) v10_1 S10
 obtain ⟨ln10_1, le10_1, mx10_1, ni10_1⟩ := Rd.inv V10_1
 have V10_2 := Rd.got0 S7.at' ((S1.trans (S3.trans S7)).kp.size) v10_2 S10
 obtain ⟨ln10_2, le10_2, mx10_2, ni10_2⟩ := Rd.inv V10_2
 have V10_3 := Rd.got0 S7.at' ((S1.trans (S3.trans S7)).kp.size) v10_3 S10
 obtain ⟨ln10_3, le10_3, mx10_3, ni10_3⟩ := Rd.inv V10_3
 clear m10 v10_0 v10_1 v10_2 v10_3
 refine l_op (f_val (v := .agg #[.slice Q3 Q5 Q4, .slice Q0 Q2 Q1, .slice Q6 Q8 Q7]) F11 rfl rfl (r_extract rfl (F11.ev 9 rfl) rfl) rfl fun _ F12 => ?_)
 refine l_op (f_val (v := .slice Q9 Q11 Q10) F12 rfl rfl (r_extract rfl (F12.ev 9 rfl) rfl) rfl fun _ F13 => ?_)
 refine l_op (s_store S10.at' 0 TI_29 rfl rfl rfl rfl rfl (F13.ev 4 rfl) (F13.ev 10 rfl) rfl rfl rfl rfl rfl fun w14 S14 => ?_)
 refine l_op (f_as F13 rfl rfl rfl rfl rfl fun _ F15 => ?_)
 refine s_end (x_normal (wp_ret ?_))
 refine x_done (v := .tuple #[.agg #[.slice Q3 Q5 Q4, .slice Q0 Q2 Q1, .slice Q6 Q8 Q7], .slice Q9 Q11 Q10]) F15 (results_2 Tryz.results16 (.cell (F15.ev 4 rfl) (run_loadVar' TI_29 _ [.slice Q3 Q5 Q4, .slice Q0 Q2 Q1, .slice Q6 Q8 Q7] rfl (fun h => nomatch h) (At.cells S14.at' 0 rfl 0 [.slice Q3 Q5 Q4, .slice Q0 Q2 Q1, .slice Q6 Q8 Q7] rfl))) (.tmp (F15.ev 5 rfl))) ?_
 exact ⟨Q3, Q5, Q4, Q0, Q2, Q1, Q6, Q8, Q7, Q9, Q11, Q10, rfl, (Mv.pick (S1.trans (S3.trans (S7.trans (S10.trans S14)))) [] rfl), (Rd.give (Rd.mq V10_0 S14)), (Rd.give (Rd.mq V10_1 S14)), (Rd.give (Rd.mq V10_2 S14)), (Rd.give (Rd.mq V10_3 S14))⟩
theorem impl_PagesOf_c {w : World} {H : Nat → Prop} {m : MachD} {m_Sa : Option Addr} {m_Sn m_Sc : Nat} {m_Ra : Option Addr} {m_Rn m_Rc : Nat} {m_Wa : Option Addr} {m_Wn m_Wc : Nat} {id : Int} (Q21 : Rd 2 encC okC H w (.slice m_Sa m_Sn m_Sc) m.store) (Q22 : Rd 1 encS okS H w (.slice m_Ra m_Rn m_Rc) m.touch.reads) (Q23 : Rd 1 encS okS H w (.slice m_Wa m_Wn m_Wc) m.touch.writes) (h_id : i64ok id) (tab0 : Tb 0 H w) (p0 : bdC 17179869184 m) :
    Calls Tryz.prog 15 #[.agg #[.slice m_Sa m_Sn m_Sc, .slice m_Ra m_Rn m_Rc, .slice m_Wa m_Wn m_Wc], .int .i64 id] w fun e w' => ∃ (Q15 : Option Addr), ∃ (Q17 : Nat), ∃ (Q16 : Nat), ∃ (Q12 : Option Addr), ∃ (Q14 : Nat), ∃ (Q13 : Nat), ∃ (Q18 : Option Addr), ∃ (Q20 : Nat), ∃ (Q19 : Nat), ∃ (r1_a : Option Addr), ∃ (r1_n : Nat), ∃ (r1_c : Nat), e = .returned (.tuple #[.agg #[.slice Q15 Q17 Q16, .slice Q12 Q14 Q13, .slice Q18 Q20 Q19], .slice r1_a r1_n r1_c]) ∧ Mv [] w [ow 73 2 encC okC (.slice Q15 Q17 Q16) (lookM m (kP_ id ++ bT_)).store, ow 9 1 encS okS (.slice Q12 Q14 Q13) (lookM m (kP_ id ++ bT_)).touch.reads, ow 9 1 encS okS (.slice Q18 Q20 Q19) (lookM m (kP_ id ++ bT_)).touch.writes, ow 9 1 encS okS (.slice r1_a r1_n r1_c) (cutL (kP_ id).size (keysUnder m.store (kP_ id)))] w' := by
 have uU : True := (fun _ => trivial) p0
 clear uU
 have Q24 : Rd 2 encC okC (V H w []) w (.slice m_Sa m_Sn m_Sc) m.store := Rd.start Q21 (fun _ _ => fps_nil _)
 obtain ⟨Q40, Q37, Q64, Q67⟩ := Rd.inv Q21
 have Q25 : Rd 1 encS okS (V H w []) w (.slice m_Ra m_Rn m_Rc) m.touch.reads := Rd.start Q22 (fun _ _ => fps_nil _)
 obtain ⟨Q41, Q38, Q65, Q68⟩ := Rd.inv Q22
 have Q26 : Rd 1 encS okS (V H w []) w (.slice m_Wa m_Wn m_Wc) m.touch.writes := Rd.start Q23 (fun _ _ => fps_nil _)
 obtain ⟨Q42, Q39, Q66, Q69⟩ := Rd.inv Q23
 have V_tab0 : Tb 0 (V H w []) w := Tb.start tab0 (fun _ _ => fps_nil _)
 refine calls_enter 30 Tryz.func15 rfl Tryz.ntmps15 (Nat.le_of_ble_eq_true rfl) (fun _ F0i => ?_)
 have F0 : Fr 30 [(0, .agg #[.slice m_Sa m_Sn m_Sc, .slice m_Ra m_Rn m_Rc, .slice m_Wa m_Wn m_Wc]), (1, .int .i64 id)] _ := F0i
 clear F0i
 refine wp_seq (wp_region_lit (l_op (f_box F0 (At.nil w) rfl rfl rfl (F0.ev 0 rfl) rfl rfl fun b1 _ w1 F2 S1 => ?_)))
 refine l_op (f_alloc F2 S1.at' ZI_29 rfl rfl rfl rfl rfl fun b3 _ w3 F4 S3 => ?_)
 refine l_op (f_val F4 rfl rfl (r_assign rfl rfl) rfl fun _ F5 => ?_)
 refine s_end (x_normal (wp_seq (wp_region_lit (l_op (f_val (v := .agg #[.slice m_Sa m_Sn m_Sc, .slice m_Ra m_Rn m_Rc, .slice m_Wa m_Wn m_Wc]) F5 rfl rfl (r_loadB S3.at' 1 TI_29 rfl rfl (F5.ev 2 rfl) rfl rfl (fun h => nomatch h) rfl) rfl fun _ F6 => ?_)))))
 refine l_op (f_call F6 CF_39 rfl rfl rfl rfl (lc (F6.ev 9 rfl) rfl) (impl_Mach_clone_c (m := m) (Rd.mq Q24 (S1.trans S3)) (Rd.mq Q25 (S1.trans S3)) (Rd.mq Q26 (S1.trans S3)) (by first | assumption | omega | ((repeat first | apply b1_ | apply b2_ | apply b3_ | apply b4_ | apply b5_ | apply b6_); exact bdC.le ‹_› (by decide)) | decide | exact Nat.le_trans (keyNum_size _ _ ‹_›) (by decide)) (by first | assumption | omega | ((repeat first | apply b1_ | apply b2_ | apply b3_ | apply b4_ | apply b5_ | apply b6_); exact bdC.le ‹_› (by decide)) | decide | exact Nat.le_trans (keyNum_size _ _ ‹_›) (by decide)) (by first | assumption | omega | ((repeat first | apply b1_ | apply b2_ | apply b3_ | apply b4_ | apply b5_ | apply b6_); exact bdC.le ‹_› (by decide)) | decide | exact Nat.le_trans (keyNum_size _ _ ‹_›) (by decide))) ?_)
 rintro _ w7 ⟨Q31, Q33, Q32, Q28, Q30, Q29, Q34, Q36, Q35, rfl, m7⟩
 refine ⟨_, rfl, fun _ F8 => ?_⟩
 have S7 : Mv _ _ [ow 73 2 encC okC (.slice Q31 Q33 Q32) m.store, ow 9 1 encS okS (.slice Q28 Q30 Q29) m.touch.reads, ow 9 1 encS okS (.slice Q34 Q36 Q35) m.touch.writes, bx b3 [.slice none 0 0, .slice none 0 0, .slice none 0 0] 29, bx b1 [.slice m_Sa m_Sn m_Sc, .slice m_Ra m_Rn m_Rc, .slice m_Wa m_Wn m_Wc] 29] _ := At.frame S3.at' [] rfl m7
 obtain ⟨Q47, Q54, Q61⟩ := At.ownInv S7.at' ET_24.hk 0 rfl
 obtain ⟨Q48, Q55, Q62⟩ := At.ownInv S7.at' ET_25.hk 1 rfl
 obtain ⟨Q49, Q56, Q63⟩ := At.ownInv S7.at' ET_25.hk 2 rfl
 clear m7
 refine l_op (s_store S7.at' 4 TI_29 rfl rfl rfl rfl rfl (F8.ev 2 rfl) (F8.ev 10 rfl) rfl rfl rfl rfl rfl fun w9 S9 => ?_)
 refine s_end (x_normal (wp_seq (wp_region_lit (l_op (f_val F8 rfl rfl (r_assign rfl rfl) rfl fun _ F10 => ?_)))))
 refine s_end (x_normal (wp_seq (wp_seq (wp_region_lit (l_op (f_mv F10 rfl rfl rfl rfl rfl fun _ F11 => ?_))))))
 refine l_op (f_call F11 CF_48 rfl rfl rfl rfl (lc (F11.ev 11 rfl) rfl) (impl_pagesKey_c (id := id) h_id (Tb.mv V_tab0 (S1.trans (S3.trans (S7.trans S9))))) ?_)
 rintro _ w12 ⟨rfl, m12, Q27⟩
 refine ⟨_, rfl, fun _ F13 => ?_⟩
 have S12 := At.frame0 S9.at' m12
 clear m12
 refine l_op (f_call F13 CF_47 rfl rfl rfl rfl (lc (F13.ev 2 rfl) (lc (F13.ev 12 rfl) rfl)) (impl_Mach_under_c (H := fun _ => True) (m := m) (pfx := kP_ id) Q27 (by first | assumption | omega | ((repeat first | apply b1_ | apply b2_ | apply b3_ | apply b4_ | apply b5_ | apply b6_); exact bdC.le ‹_› (by decide)) | decide | exact Nat.le_trans (keyNum_size _ _ ‹_›) (by decide)) (by first | assumption | omega | ((repeat first | apply b1_ | apply b2_ | apply b3_ | apply b4_ | apply b5_ | apply b6_); exact bdC.le ‹_› (by decide)) | decide | exact Nat.le_trans (keyNum_size _ _ ‹_›) (by decide)) (by first | assumption | omega | ((repeat first | apply b1_ | apply b2_ | apply b3_ | apply b4_ | apply b5_ | apply b6_); exact bdC.le ‹_› (by decide)) | decide | exact Nat.le_trans (keyNum_size _ _ ‹_›) (by decide)) (At.pick (is := [0, 1, 2, 3]) S12.at' rfl)) ?_)
 rintro _ w14 ⟨Q10, Q9, Q11, Q3, Q5, Q4, Q0, Q2, Q1, Q6, Q8, Q7, rfl, m14⟩
 refine ⟨_, rfl, fun _ F15 => ?_⟩
 have S14 : Mv _ _ [ow 9 1 encS okS (.slice Q10 Q9 Q11) (keysUnder m.store (kP_ id)), bx b1 [.slice Q3 Q5 Q4, .slice Q0 Q2 Q1, .slice Q6 Q8 Q7] 29, ow 73 2 encC okC (.slice Q3 Q5 Q4) (lookM m ((kP_ id) ++ bT_)).store, ow 9 1 encS okS (.slice Q0 Q2 Q1) (lookM m ((kP_ id) ++ bT_)).touch.reads, ow 9 1 encS okS (.slice Q6 Q8 Q7) (lookM m ((kP_ id) ++ bT_)).touch.writes, bx b3 [.slice none 0 0, .slice none 0 0, .slice none 0 0] 29] _ := At.frame S12.at' [0, 1, 2, 3] rfl m14
 obtain ⟨Q43, Q50, Q57⟩ := At.ownInv S14.at' ET_25.hk 0 rfl
 obtain ⟨Q44, Q51, Q58⟩ := At.ownInv S14.at' ET_24.hk 2 rfl
 obtain ⟨Q45, Q52, Q59⟩ := At.ownInv S14.at' ET_25.hk 3 rfl
 obtain ⟨Q46, Q53, Q60⟩ := At.ownInv S14.at' ET_25.hk 4 rfl
 clear m14
 refine l_op (f_val F15 rfl rfl (r_len Tryz.underlying25 rfl (F15.ev 13 rfl)) rfl fun _ F16 => ?_)
 refine l_op (f_val F16 rfl rfl (r_move rfl rfl) rfl fun _ F17 => ?_)
 refine s_end (x_normal (wp_block ?_))
 have S19 : Mv [ow 9 1 encS okS (.slice Q10 Q9 Q11) (keysUnder m.store (kP_ id)), bx b1 [.slice Q3 Q5 Q4, .slice Q0 Q2 Q1, .slice Q6 Q8 Q7] 29, ow 73 2 encC okC (.slice Q3 Q5 Q4) (lookM m ((kP_ id) ++ bT_)).store, ow 9 1 encS okS (.slice Q0 Q2 Q1) (lookM m ((kP_ id) ++ bT_)).touch.reads, ow 9 1 encS okS (.slice Q6 Q8 Q7) (lookM m ((kP_ id) ++ bT_)).touch.writes, bx b3 [.slice none 0 0, .slice none 0 0, .slice none 0 0] 29] w14 [ow 9 1 encS okS (.slice none 0 0) ([] : List ByteArray), ow 9 1 encS okS (.slice Q10 Q9 Q11) (keysUnder m.store (kP_ id)), bx b1 [.slice Q3 Q5 Q4, .slice Q0 Q2 Q1, .slice Q6 Q8 Q7] 29, ow 73 2 encC okC (.slice Q3 Q5 Q4) (lookM m ((kP_ id) ++ bT_)).store, ow 9 1 encS okS (.slice Q0 Q2 Q1) (lookM m ((kP_ id) ++ bT_)).touch.reads, ow 9 1 encS okS (.slice Q6 Q8 Q7) (lookM m ((kP_ id) ++ bT_)).touch.writes, bx b3 [.slice none 0 0, .slice none 0 0, .slice none 0 0] 29] w14 := mv_nil S14.at'
 refine x_loop (fun (k : Nat) aZ wZ => ∃ (oa : Option Addr), ∃ (on : Nat), ∃ (oc : Nat), Fr 30 [(15, .int .i64 ((k : Nat) : Int)), (14, .int .i64 ((Q9 : Nat) : Int)), (13, .slice Q10 Q9 Q11), (6, .slice oa on oc), (4, .pointer (some ⟨b3, 0, none⟩)), (2, .pointer (some ⟨b1, 0, none⟩)), (1, .int .i64 id)] aZ ∧ Mv [ow 9 1 encS okS (.slice none 0 0) ([] : List ByteArray), ow 9 1 encS okS (.slice Q10 Q9 Q11) (keysUnder m.store (kP_ id)), bx b1 [.slice Q3 Q5 Q4, .slice Q0 Q2 Q1, .slice Q6 Q8 Q7] 29, ow 73 2 encC okC (.slice Q3 Q5 Q4) (lookM m ((kP_ id) ++ bT_)).store, ow 9 1 encS okS (.slice Q0 Q2 Q1) (lookM m ((kP_ id) ++ bT_)).touch.reads, ow 9 1 encS okS (.slice Q6 Q8 Q7) (lookM m ((kP_ id) ++ bT_)).touch.writes, bx b3 [.slice none 0 0, .slice none 0 0, .slice none 0 0] 29] w14 [ow 9 1 encS okS (.slice oa on oc) (cutL (kP_ id).size ((keysUnder m.store (kP_ id)).take k)), ow 9 1 encS okS (.slice Q10 Q9 Q11) (keysUnder m.store (kP_ id)), bx b1 [.slice Q3 Q5 Q4, .slice Q0 Q2 Q1, .slice Q6 Q8 Q7] 29, ow 73 2 encC okC (.slice Q3 Q5 Q4) (lookM m ((kP_ id) ++ bT_)).store, ow 9 1 encS okS (.slice Q0 Q2 Q1) (lookM m ((kP_ id) ++ bT_)).touch.reads, ow 9 1 encS okS (.slice Q6 Q8 Q7) (lookM m ((kP_ id) ++ bT_)).touch.writes, bx b3 [.slice none 0 0, .slice none 0 0, .slice none 0 0] 29] wZ ∧ (k ≤ (keysUnder m.store (kP_ id)).length)) (fun (k : Nat) => (keysUnder m.store (kP_ id)).length - k) (0) ?_ ?_
 · exact ⟨none, 0, 0, F17.cut rfl, (Mv.refl S19.at'), by omega⟩
 · rintro k a18 w18 ⟨oa, on, oc, F18, S18, hk_0⟩
   refine wp_seq (wp_region_lit (l_op (f_val F18 rfl rfl (r_cmp (b := decide (k < Q9)) (.inr (.inr (.inl rfl))) rfl (F18.ev 15 rfl) (F18.ev 14 rfl) (dec_of (by omega))) rfl fun _ F20 => ?_)))
   refine s_end (x_normal (wp_seq (x_cond (p := k < Q9) (F20.ev 16 rfl) (fun h21 => ?_) (fun h21 => ?_))))
   · skip
     refine wp_skip (x_normal (wp_seq (wp_block (wp_seq (wp_region_lit ?_)))))
     obtain ⟨B22, O22, x1, ad22, hx1, okx1, ln22, cl22⟩ := Rd.at (At.rd S18.at' ET_25.hk 1 rfl) k (by first | assumption | omega)
     clear ln22
     refine l_op (f_val F20 rfl rfl (r_indexAddr (i := k) ET_25 rfl ((F20.ev 13 rfl).trans (by rw [ad22])) (F20.ev 15 rfl) (by omega) (by first | assumption | omega)) rfl fun _ F23 => ?_)
     refine l_op (f_val (v := .string x1) F23 rfl rfl (r_load (cs := [.string x1]) TI_9 rfl (F23.ev 17 rfl) rfl (fun _ => rfl) (elem_sub (f := 0) cl22 [.string x1] rfl)) rfl fun _ F24 => ?_)
     refine l_op (f_as F24 rfl rfl rfl rfl rfl fun _ F25 => ?_)
     refine s_end (x_normal (wp_region_lit (l_op (f_mv F25 rfl rfl rfl rfl rfl fun _ F26 => ?_))))
     refine l_op (f_mv F26 rfl rfl rfl rfl rfl fun _ F27 => ?_)
     refine l_op (f_mv F27 rfl rfl rfl rfl rfl fun _ F28 => ?_)
     refine l_op (f_call F28 CF_48 rfl rfl rfl rfl (lc (F28.ev 21 rfl) rfl) (impl_pagesKey_c (id := id) h_id (Tb.mv V_tab0 (S1.trans (S3.trans (S7.trans (S9.trans (S12.trans (S14.trans (S19.trans S18))))))))) ?_)
     rintro _ w29 ⟨rfl, m29, Q70⟩
     refine ⟨_, rfl, fun _ F30 => ?_⟩
     have S29 := At.frame0 S18.at' m29
     clear m29
     refine l_op (f_val F30 rfl rfl (r_lenS (fun t ht => by cases ht; exact Tryz.underlying9) rfl rfl (F30.ev 22 rfl)) rfl fun _ F31 => ?_)
     refine l_op (f_val F31 rfl rfl (r_sliceS (l := (kP_ id).size) (h := x1.size) Tryz.underlying9 rfl (F31.ev 20 rfl) (F31.ev 23 rfl) rfl (by have := keysUnder_pre hx1; omega) (by have := keysUnder_pre hx1; omega) rfl) rfl fun _ F32 => ?_)
     refine l_op (f_buildSl (ok := okS) (vs := [.string (x1.extract (kP_ id).size x1.size)]) F32 S29.at' ([(x1.extract (kP_ id).size x1.size)]) ET_25 rfl rfl rfl rfl rfl rfl (lc (pr2 (F32.ev 24 rfl)) rfl) rfl rfl (fun x hx => (List.mem_singleton.1 hx) ▸ (okS_ext okx1)) fun b33 _ w33 F34 S33 => ?_)
     refine l_op (f_app (news := [(x1.extract (kP_ id).size x1.size)]) F34 S33.at' 1 ET_25 rfl rfl rfl rfl rfl rfl (F34.ev 19 rfl) (F34.ev 25 rfl) ((At.rd S33.at' ET_25.hk 0 rfl)).1 (by have hc := cutL_take (kP_ id).size m.store (kP_ id) k; have hs := bdC.s (m := m) ‹_›; first | omega | ((repeat (first | rw [List.length_append] | rw [List.length_cons] | rw [List.length_nil] | rw [List.length_take] | rw [List.length_drop])) <;> omega)) fun A35 N35 C35 _ w35 F36 S35 l35 => ?_)
     have S37 := At.drop S35.at' 1
     refine l_op (f_as F36 rfl rfl rfl rfl rfl fun _ F38 => ?_)
     have T39 : Mv _ _ [ow 9 1 encS okS (.slice A35 N35 C35) ((cutL (kP_ id).size ((keysUnder m.store (kP_ id)).take k)) ++ ([(x1.extract (kP_ id).size x1.size)])), ow 9 1 encS okS (.slice Q10 Q9 Q11) (keysUnder m.store (kP_ id)), bx b1 [.slice Q3 Q5 Q4, .slice Q0 Q2 Q1, .slice Q6 Q8 Q7] 29, ow 73 2 encC okC (.slice Q3 Q5 Q4) (lookM m ((kP_ id) ++ bT_)).store, ow 9 1 encS okS (.slice Q0 Q2 Q1) (lookM m ((kP_ id) ++ bT_)).touch.reads, ow 9 1 encS okS (.slice Q6 Q8 Q7) (lookM m ((kP_ id) ++ bT_)).touch.writes, bx b3 [.slice none 0 0, .slice none 0 0, .slice none 0 0] 29] _ := S37
     refine s_end (x_block_normal (x_normal (wp_region_lit (l_op (f_val F38 rfl rfl (r_add (z := ((k + 1 : Nat) : Int)) rfl (F38.ev 15 rfl) rfl (by first | rfl | omega) ⟨by first | omega | (unfold i64ok at *; omega), by first | omega | (unfold i64ok at *; omega)⟩) rfl fun _ F40 => ?_)))))
     refine l_op (f_mv F40 rfl rfl rfl rfl rfl fun _ F41 => ?_)
     refine s_end ?_
     refine x_normal ⟨k + 1, by omega, A35, N35, C35, F41.cut rfl, (Mv.cast ((S18.trans (S29.trans (S33.trans (S35.trans T39)))).pick [0, 1, 2, 3, 4, 5, 6] rfl) (by (rw [cutL_step hx1]); all_goals rfl)), by omega⟩
   · skip
     refine wp_exit (x_then_exit (x_then_exit (x_block_here (x_normal (wp_seq (wp_region_lit (l_op (f_val (v := .agg #[.slice Q3 Q5 Q4, .slice Q0 Q2 Q1, .slice Q6 Q8 Q7]) F20 rfl rfl (r_loadB S18.at' 2 TI_29 rfl rfl (F20.ev 2 rfl) rfl rfl (fun h => nomatch h) rfl) rfl fun _ F42 => ?_))))))))
     refine l_op (f_mv F42 rfl rfl rfl rfl rfl fun _ F43 => ?_)
     refine l_op (s_store S18.at' 6 TI_29 rfl rfl rfl rfl rfl (F43.ev 4 rfl) (F43.ev 28 rfl) rfl rfl rfl rfl rfl fun w44 S44 => ?_)
     refine l_op (f_as F43 rfl rfl rfl rfl rfl fun _ F45 => ?_)
     have T46 : Mv _ _ [bx b3 [.slice Q3 Q5 Q4, .slice Q0 Q2 Q1, .slice Q6 Q8 Q7] 29, ow 9 1 encS okS (.slice oa on oc) (cutL (kP_ id).size ((keysUnder m.store (kP_ id)).take k)), ow 9 1 encS okS (.slice Q10 Q9 Q11) (keysUnder m.store (kP_ id)), bx b1 [.slice Q3 Q5 Q4, .slice Q0 Q2 Q1, .slice Q6 Q8 Q7] 29, ow 73 2 encC okC (.slice Q3 Q5 Q4) (lookM m ((kP_ id) ++ bT_)).store, ow 9 1 encS okS (.slice Q0 Q2 Q1) (lookM m ((kP_ id) ++ bT_)).touch.reads, ow 9 1 encS okS (.slice Q6 Q8 Q7) (lookM m ((kP_ id) ++ bT_)).touch.writes] _ := S44
     refine s_end (x_normal (wp_ret ?_))
     refine x_done (v := .tuple #[.agg #[.slice Q3 Q5 Q4, .slice Q0 Q2 Q1, .slice Q6 Q8 Q7], .slice oa on oc]) F45 (results_2 Tryz.results15 (.cell (F45.ev 4 rfl) (run_loadVar' TI_29 _ [.slice Q3 Q5 Q4, .slice Q0 Q2 Q1, .slice Q6 Q8 Q7] rfl (fun h => nomatch h) (At.cells T46.at' 0 rfl 0 [.slice Q3 Q5 Q4, .slice Q0 Q2 Q1, .slice Q6 Q8 Q7] rfl))) (.tmp (F45.ev 5 rfl))) ?_
     exact ⟨Q3, Q5, Q4, Q0, Q2, Q1, Q6, Q8, Q7, oa, on, oc, rfl, (Mv.cast (Mv.pick (S1.trans (S3.trans (S7.trans (S9.trans (S12.trans (S14.trans (S19.trans (S18.trans T46)))))))) [4, 5, 6, 1] rfl) (by rw [(show (lookM m ((kP_ id) ++ bT_)).store = (lookM m (kP_ id ++ bT_)).store from by first | rfl | rw [List.take_of_length_le (by omega)]), (show (lookM m ((kP_ id) ++ bT_)).touch.reads = (lookM m (kP_ id ++ bT_)).touch.reads from by first | rfl | rw [List.take_of_length_le (by omega)]), (show (lookM m ((kP_ id) ++ bT_)).touch.writes = (lookM m (kP_ id ++ bT_)).touch.writes from by first | rfl | rw [List.take_of_length_le (by omega)]), (show (cutL (kP_ id).size ((keysUnder m.store (kP_ id)).take k)) = (cutL (kP_ id).size (keysUnder m.store (kP_ id))) from by first | rfl | rw [List.take_of_length_le (by omega)])]; all_goals rfl))⟩
end Go.Proofs.YtibgmijfnbnfkaaGreatDoor
