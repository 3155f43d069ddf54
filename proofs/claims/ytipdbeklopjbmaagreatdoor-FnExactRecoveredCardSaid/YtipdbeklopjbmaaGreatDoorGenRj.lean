/-
  Walks: a disk is recovered.
-/
import Derived.Test.YtipdbeklopjbmaaGreatDoorGenRi
import Derived.Test.YtipdbeklopjbmaaGreatDoorP24
import Derived.Test.YtipdbeklopjbmaaGreatDoorGenFo

namespace Go.Proofs.YtipdbeklopjbmaaGreatDoor
open Go.ChangeShapes Go.WideShapes Go.ChangeAt Go.RowKit
set_option maxRecDepth 100000
set_option maxHeartbeats 1000000
theorem impl_Recovered_c {w : World} {H : Nat → Prop} {d : DiskH} {Q1 : Option Addr} {Q3 Q2 : Nat} {L : List SlotD} (Q16 : Rd 3 encSlot okSlot H w (.slice Q1 Q3 Q2) d.slots) (Q18 : NRd inSlot H w d.slots) (Q9 : okS d.journal.text) (Q17 : i64ok d.journal.sure) (tab0 : Tb 0 H w) (tab1 : Tb 1 H w) (tab2 : Tb 2 H w) (p0 : d.slots.map SlotH.d = L) (p1 : slotsFit 1048576 L) :
    Calls Tryz.prog 9 #[.agg #[.slice Q1 Q3 Q2, .string d.journal.text, .int .i64 d.journal.sure]] w fun e w' => ∃ (r0_a : Option Addr), ∃ (r0_n : Nat), ∃ (r0_c : Nat), e = .returned (.tuple #[.slice r0_a r0_n r0_c, .int .i64 (recQ L d.journal)]) ∧ Mv [] w [ow 91 2 encC okC (.slice r0_a r0_n r0_c) (recC L d.journal)] w' := by
 have uU : True := (fun _ => trivial) Q17
 clear uU
 have hft : slotsFit 1048576 (d.slots.map SlotH.d) := by rw [p0]; exact p1
 have Q7 : Rd 3 encSlot okSlot (V H w []) w (.slice Q1 Q3 Q2) d.slots := Rd.start Q16 (fun _ _ => fps_nil _)
 obtain ⟨Q20, Q19, Q29, Q30⟩ := Rd.inv Q16
 have Q8 : NRd inSlot (V H w []) w d.slots := NRd.start Q18 (fun _ _ => fps_nil _)
 have V_tab0 : Tb 0 (V H w []) w := Tb.start tab0 (fun _ _ => fps_nil _)
 have V_tab1 : Tb 1 (V H w []) w := Tb.start tab1 (fun _ _ => fps_nil _)
 have V_tab2 : Tb 2 (V H w []) w := Tb.start tab2 (fun _ _ => fps_nil _)
 refine calls_enter 60 Tryz.func9 rfl Tryz.ntmps9 (Nat.le_of_ble_eq_true rfl) (fun _ F0i => ?_)
 have F0 : Fr 60 [(0, .agg #[.slice Q1 Q3 Q2, .string d.journal.text, .int .i64 d.journal.sure])] _ := F0i
 clear F0i
 refine wp_seq (wp_region_lit (l_op (f_box F0 (At.nil w) rfl rfl rfl (F0.ev 0 rfl) rfl rfl fun b1 _ w1 F2 S1 => ?_)))
 refine l_op (f_val F2 rfl rfl (r_assign rfl rfl) rfl fun _ F3 => ?_)
 refine l_op (f_val F3 rfl rfl (r_assign rfl rfl) rfl fun _ F4 => ?_)
 refine s_end (x_normal (wp_seq (wp_seq (wp_region_lit (l_op (f_val (v := .agg #[.slice Q1 Q3 Q2, .string d.journal.text, .int .i64 d.journal.sure]) F4 rfl rfl (r_loadB S1.at' 0 TI_34 rfl rfl (F4.ev 1 rfl) rfl rfl (fun h => nomatch h) rfl) rfl fun _ F5 => ?_))))))
 refine l_op (f_call F5 CF_43 rfl rfl rfl rfl (lc (F5.ev 12 rfl) rfl) (impl_DiskOk_c (d := d) (Rd.mq Q7 S1) (NRd.mv Q8 S1) Q9 (by first | assumption | exact ⟨by omega, by omega⟩ | (unfold i64ok at *; omega) | (simp only [i64ok]; omega))) ?_)
 rintro _ w6 ⟨rfl, m6⟩
 refine ⟨_, rfl, fun _ F7 => ?_⟩
 have S6 := At.frame0 S1.at' m6
 clear m6
 refine l_op (f_val F7 rfl rfl (r_not rfl (F7.ev 13 rfl)) rfl fun _ F8 => ?_)
 refine s_end (x_normal (x_condb (b := (!(diskOk (d.slots.map SlotH.d) d.journal))) (F8.ev 14 rfl) (fun h9 => ?_) (fun h9 => ?_)))
 · skip
   refine wp_seq (wp_region_lit (l_op (f_val F8 rfl rfl (r_assign rfl rfl) rfl fun _ F10 => ?_)))
   refine l_op (f_val F10 rfl rfl (r_assign rfl rfl) rfl fun _ F11 => ?_)
   refine s_end (x_normal (wp_ret (x_then_ret ?_)))
   have S12 : Mv [bx b1 [.slice Q1 Q3 Q2, .string d.journal.text, .int .i64 d.journal.sure] 34] w6 [ow 91 2 encC okC (.slice none 0 0) ([] : List CellD), bx b1 [.slice Q1 Q3 Q2, .string d.journal.text, .int .i64 d.journal.sure] 34] w6 := mv_nil S6.at'
   refine x_done (v := .tuple #[.slice none 0 0, .int .i64 0]) F11 (results_2 Tryz.results9 (.tmp (F11.ev 2 rfl)) (.tmp (F11.ev 3 rfl))) ?_
   exact ⟨none, 0, 0, (congrArg (fun zZ => Ending.returned (.tuple #[.slice none 0 0, .int .i64 zZ])) (show 0 = (recQ L d.journal) from by first | exact (rec_no p0 ‹_›).1 | exact (rec_no p0 ‹_›).2 | exact (rec_yes p0 ‹_› hx1 q43_0 Q6 (by omega) hk_1).1 | exact (rec_yes p0 ‹_› hx1 q43_0 Q6 (by omega) hk_1).2)), (Mv.cast (Mv.pick (S1.trans (S6.trans S12)) [0] rfl) (by rw [← (show ([] : List CellD) = (recC L d.journal) from by first | exact (rec_no p0 ‹_›).1 | exact (rec_no p0 ‹_›).2 | exact (rec_yes p0 ‹_› hx1 q43_0 Q6 (by omega) hk_1).1 | exact (rec_yes p0 ‹_› hx1 q43_0 Q6 (by omega) hk_1).2)]; all_goals rfl))⟩
 · skip
   refine wp_skip (x_normal (wp_seq ?_))
   have hbb := diskOk_bd ‹_›
   obtain ⟨x1, hx1, okx1⟩ := Rd.elem (Rd.mq Q7 (S1.trans S6)) (bestTo (d.slots.map SlotH.d) d.slots.length).toNat (by first | assumption | omega)
   have oj14 := okx1
   unfold okSlot at oj14
   have VI15 : Rd 2 encC okC (V H w [bx b1 [.slice Q1 Q3 Q2, .string d.journal.text, .int .i64 d.journal.sure] 34]) w6 (.slice x1.a0 x1.n0 x1.c0) x1.d.cells := NRd.get (NRd.mv Q8 (S1.trans S6)) hx1 (j := 0) rfl
   obtain ⟨ln15, le15, mx15, ni15⟩ := Rd.inv VI15
   refine x_draw (fun aZ wZ => ∃ (b25 : Nat), Fr 60 [(1, .pointer (some ⟨b1, 0, none⟩)), (4, .pointer (some ⟨b25, 0, none⟩))] aZ ∧ Mv [bx b1 [.slice Q1 Q3 Q2, .string d.journal.text, .int .i64 d.journal.sure] 34] w6 [bx b1 [.slice Q1 Q3 Q2, .string d.journal.text, .int .i64 d.journal.sure] 34, bx b25 [.int .i64 x1.d.seq, .slice x1.a0 x1.n0 x1.c0, .bool x1.d.whole] 81] wZ) [bx b1 [.slice Q1 Q3 Q2, .string d.journal.text, .int .i64 d.journal.sure] 34] mixed S6.at' (listed := #[false, false, false, false, false, false, false, false]) rfl (fun w16 S16 => ?_) [0] rfl ?_
   · skip
     refine g_take F8 rfl (i := 0) (listed' := #[true, false, false, false, false, false, false, false]) rfl (by kernel_rfl) (by kernel_rfl) (by kernel_rfl) (fun _ _ _ h => h) (Sd.of (Mv.refl S16.at') [0] rfl) rfl rfl rfl rfl (fun _ hz => (r_field FI_34_0 rfl (F8.ev 1 rfl) rfl)) fun _ F17 => ?_
     refine g_take (v := .slice Q1 Q3 Q2) F17 rfl (i := 1) (listed' := #[true, true, false, false, false, false, false, false]) rfl (by kernel_rfl) (by kernel_rfl) (by kernel_rfl) (fun _ _ _ h => h) (Sd.of (Mv.refl S16.at') [0] rfl) rfl rfl rfl rfl (fun _ hz => (r_loadX (hz.bx 0 rfl) TI_31 rfl (F17.ev 15 rfl) rfl rfl (fun _ => rfl) rfl)) fun _ F18 => ?_
     refine g_take (v := .agg #[.slice Q1 Q3 Q2, .string d.journal.text, .int .i64 d.journal.sure]) F18 rfl (i := 2) (listed' := #[true, true, true, false, false, false, false, false]) rfl (by kernel_rfl) (by kernel_rfl) (by kernel_rfl) (fun _ _ _ h => h) (Sd.of (Mv.refl S16.at') [0] rfl) rfl rfl rfl rfl (fun _ hz => (r_loadX (hz.bx 0 rfl) TI_34 rfl (F18.ev 1 rfl) rfl rfl (fun h => nomatch h) rfl)) fun _ F19 => ?_
     refine d_all (rs := [3, 6]) rfl (by kernel_rfl) (by simp) (d_cons (i := 3) (listed' := #[true, true, true, true, false, false, false, false]) rfl rfl ?_ (d_cons (i := 6) (listed' := #[true, true, true, false, false, false, true, false]) rfl rfl ?_ d_nil))
     · skip
       refine f_call F19 CF_44 rfl rfl rfl rfl (lc (F19.ev 17 rfl) rfl) (impl_BestSlot_c (d := d) (Rd.mq Q7 (S1.trans (S6.trans S16))) (NRd.mv Q8 (S1.trans (S6.trans S16))) Q9 (by first | assumption | exact ⟨by omega, by omega⟩ | (unfold i64ok at *; omega) | (simp only [i64ok]; omega))) ?_
       rintro _ w20 ⟨rfl, m20, q20_0⟩
       refine ⟨_, rfl, fun _ F21 => ?_⟩
       have S20 := At.frame0 S16.at' m20
       clear m20
       refine ⟨Sd.of S20 [0] rfl, ?_⟩
       obtain ⟨B22, O22, y22, ad22, hy22, oky22, ln22, cl22⟩ := Rd.atK (Nat.succ_pos _) (Rd.mq Q7 (S1.trans (S6.trans S16))) (bestTo (d.slots.map SlotH.d) d.slots.length).toNat (by first | assumption | omega)
       clear ln22
       obtain rfl := Option.some.inj (hx1.symm.trans hy22)
       clear hy22 oky22
       refine g_take F21 rfl (i := 4) (listed' := #[true, true, true, true, true, false, false, false]) rfl (by kernel_rfl) (by kernel_rfl) (by kernel_rfl) (fun _ _ _ h => h) (Sd.of S20 [0] rfl) rfl rfl rfl rfl (fun _ hz => (r_indexAddr (i := (bestTo (d.slots.map SlotH.d) d.slots.length).toNat) ET_31 rfl ((F21.ev 16 rfl).trans (by rw [ad22])) (F21.ev 18 rfl) (by omega) (by first | assumption | omega))) fun _ F23 => ?_
       refine g_take (v := .agg #[.int .i64 x1.d.seq, .slice x1.a0 x1.n0 x1.c0, .bool x1.d.whole]) F23 rfl (i := 5) (listed' := #[true, true, true, true, true, true, false, false]) rfl (by kernel_rfl) (by kernel_rfl) (by kernel_rfl) (fun _ _ _ h => h) (Sd.of S20 [0] rfl) rfl rfl rfl rfl (fun _ hz => (r_load (cs := [.int .i64 x1.d.seq, .slice x1.a0 x1.n0 x1.c0, .bool x1.d.whole]) TI_81 rfl (F23.ev 19 rfl) rfl (fun h => nomatch h) (elem_sub (f := 0) (cl22 _ hz.kp) [.int .i64 x1.d.seq, .slice x1.a0 x1.n0 x1.c0, .bool x1.d.whole] rfl))) fun _ F24 => ?_
       refine d_one (i := 6) (listed' := #[true, true, true, true, true, true, true, false]) rfl (by kernel_rfl) rfl rfl ?_
       refine f_alloc F24 S20.at' ZI_81 rfl rfl rfl rfl rfl fun b25 _ w25 F26 S25 => ?_
       refine ⟨Sd.of (S20.trans S25) [1] rfl, ?_⟩
       refine d_one (i := 7) (listed' := #[true, true, true, true, true, true, true, true]) rfl (by kernel_rfl) rfl rfl ?_
       refine s_store S25.at' 0 TI_81 rfl rfl rfl rfl rfl (F26.ev 4 rfl) (F26.ev 20 rfl) rfl rfl rfl rfl rfl fun w27 S27 => ?_
       refine ⟨Sd.of (S20.trans (S25.trans S27)) [1] rfl, ?_⟩
       refine wpAnyH_done (by kernel_rfl) (x_normal ?_) _
       exact ⟨b25, F26.cut rfl, ((S16.trans (S20.trans (S25.trans S27))).pick [1, 0] rfl)⟩
     · skip
       refine f_alloc F19 S16.at' ZI_81 rfl rfl rfl rfl rfl fun b28 _ w28 F29 S28 => ?_
       refine ⟨Sd.of S28 [1] rfl, ?_⟩
       refine d_one (i := 3) (listed' := #[true, true, true, true, false, false, true, false]) rfl (by kernel_rfl) rfl rfl ?_
       refine f_call F29 CF_44 rfl rfl rfl rfl (lc (F29.ev 17 rfl) rfl) (impl_BestSlot_c (d := d) (Rd.mq Q7 (S1.trans (S6.trans (S16.trans S28)))) (NRd.mv Q8 (S1.trans (S6.trans (S16.trans S28)))) Q9 (by first | assumption | exact ⟨by omega, by omega⟩ | (unfold i64ok at *; omega) | (simp only [i64ok]; omega))) ?_
       rintro _ w30 ⟨rfl, m30, q30_0⟩
       refine ⟨_, rfl, fun _ F31 => ?_⟩
       have S30 := At.frame0 S28.at' m30
       clear m30
       refine ⟨Sd.of (S28.trans S30) [1] rfl, ?_⟩
       obtain ⟨B32, O32, y32, ad32, hy32, oky32, ln32, cl32⟩ := Rd.atK (Nat.succ_pos _) (Rd.mq Q7 (S1.trans (S6.trans S16))) (bestTo (d.slots.map SlotH.d) d.slots.length).toNat (by first | assumption | omega)
       clear ln32
       obtain rfl := Option.some.inj (hx1.symm.trans hy32)
       clear hy32 oky32
       refine g_take F31 rfl (i := 4) (listed' := #[true, true, true, true, true, false, true, false]) rfl (by kernel_rfl) (by kernel_rfl) (by kernel_rfl) (fun _ _ _ h => h) (Sd.of (S28.trans S30) [1] rfl) rfl rfl rfl rfl (fun _ hz => (r_indexAddr (i := (bestTo (d.slots.map SlotH.d) d.slots.length).toNat) ET_31 rfl ((F31.ev 16 rfl).trans (by rw [ad32])) (F31.ev 18 rfl) (by omega) (by first | assumption | omega))) fun _ F33 => ?_
       refine g_take (v := .agg #[.int .i64 x1.d.seq, .slice x1.a0 x1.n0 x1.c0, .bool x1.d.whole]) F33 rfl (i := 5) (listed' := #[true, true, true, true, true, true, true, false]) rfl (by kernel_rfl) (by kernel_rfl) (by kernel_rfl) (fun _ _ _ h => h) (Sd.of (S28.trans S30) [1] rfl) rfl rfl rfl rfl (fun _ hz => (r_load (cs := [.int .i64 x1.d.seq, .slice x1.a0 x1.n0 x1.c0, .bool x1.d.whole]) TI_81 rfl (F33.ev 19 rfl) rfl (fun h => nomatch h) (elem_sub (f := 0) (cl32 _ hz.kp) [.int .i64 x1.d.seq, .slice x1.a0 x1.n0 x1.c0, .bool x1.d.whole] rfl))) fun _ F34 => ?_
       refine d_one (i := 7) (listed' := #[true, true, true, true, true, true, true, true]) rfl (by kernel_rfl) rfl rfl ?_
       refine s_store S30.at' 0 TI_81 rfl rfl rfl rfl rfl (F34.ev 4 rfl) (F34.ev 20 rfl) rfl rfl rfl rfl rfl fun w35 S35 => ?_
       refine ⟨Sd.of (S28.trans (S30.trans S35)) [1] rfl, ?_⟩
       refine wpAnyH_done (by kernel_rfl) (x_normal ?_) _
       exact ⟨b28, F34.cut rfl, ((S16.trans (S28.trans (S30.trans S35))).pick [1, 0] rfl)⟩
   · rintro a36 w36 ⟨b25, F36, S36⟩
     refine x_normal (wp_seq ?_)
     have hsq := seq_bd ‹_› hx1
     have htx := disk_text (j := d.journal) ‹_›
     have hcl := hft.at hx1
     refine wp_region_lit (l_op (f_val F36 rfl rfl (r_field FI_34_1 rfl (F36.ev 1 rfl) rfl) rfl fun _ F37 => ?_))
     refine l_op (f_val F37 rfl rfl (r_field FI_32_0 rfl (F37.ev 22 rfl) rfl) rfl fun _ F38 => ?_)
     refine l_op (f_val (v := .string d.journal.text) F38 rfl rfl (r_loadB S36.at' 0 TI_9 rfl rfl (F38.ev 23 rfl) rfl rfl (fun _ => rfl) rfl) rfl fun _ F39 => ?_)
     refine l_op (f_val F39 rfl rfl (r_field FI_81_0 rfl (F39.ev 4 rfl) rfl) rfl fun _ F40 => ?_)
     refine l_op (f_val (v := .int .i64 x1.d.seq) F40 rfl rfl (r_loadB S36.at' 1 TI_3 rfl rfl (F40.ev 25 rfl) rfl rfl (fun _ => rfl) rfl) rfl fun _ F41 => ?_)
     refine l_op (f_val F41 rfl rfl (r_add (z := (x1.d.seq + 1)) rfl (F41.ev 26 rfl) rfl (by first | rfl | omega) ⟨by first | omega | (unfold i64ok at *; omega), by first | omega | (unfold i64ok at *; omega)⟩) rfl fun _ F42 => ?_)
     refine l_op (f_call F42 CF_45 rfl rfl rfl rfl (lc (F42.ev 24 rfl) (lc (F42.ev 27 rfl) rfl)) (impl_RecordsIn_c (text := d.journal.text) (frm := (x1.d.seq + 1)) Q9 (by first | assumption | exact ⟨by omega, by omega⟩ | (unfold i64ok at *; omega)) (Tb.mv V_tab0 (S1.trans (S6.trans S36))) (Tb.mv V_tab1 (S1.trans (S6.trans S36))) (Tb.mv V_tab2 (S1.trans (S6.trans S36))) (by first | assumption | omega | (simp <;> omega))) ?_)
     rintro _ w43 ⟨R_43, Q4, Q0, Q5, rfl, m43, q43_0⟩
     refine ⟨_, rfl, fun _ F44 => ?_⟩
     have S43 : Mv _ _ [ow 28 1 encCs okCs (.slice Q4 Q0 Q5) R_43, gr inCs R_43, bx b1 [.slice Q1 Q3 Q2, .string d.journal.text, .int .i64 d.journal.sure] 34, bx b25 [.int .i64 x1.d.seq, .slice x1.a0 x1.n0 x1.c0, .bool x1.d.whole] 81] _ := At.frame S36.at' [] rfl m43
     obtain ⟨Q6, Q23, Q26⟩ := At.ownInv S43.at' ET_83.hk 0 rfl
     clear m43
     refine l_op (f_mv F44 rfl rfl rfl rfl rfl fun _ F45 => ?_)
     refine l_op (f_val (v := .slice Q4 Q0 Q5) F45 rfl rfl (r_extract rfl (F45.ev 21 rfl) rfl) rfl fun _ F46 => ?_)
     refine l_op (f_val (v := .int .i64 (((recsIn d.journal.text (x1.d.seq + 1)).2 : Nat) : Int)) F46 rfl rfl (r_extract rfl (F46.ev 21 rfl) rfl) rfl fun _ F47 => ?_)
     refine l_op (f_as F47 rfl rfl rfl rfl rfl fun _ F48 => ?_)
     refine l_op (f_as F48 rfl rfl rfl rfl rfl fun _ F49 => ?_)
     refine s_end (x_normal (wp_seq (wp_region_lit (l_op (f_val F49 rfl rfl (r_field FI_81_1 rfl (F49.ev 4 rfl) rfl) rfl fun _ F50 => ?_)))))
     refine l_op (f_val (v := .slice x1.a0 x1.n0 x1.c0) F50 rfl rfl (r_loadB S43.at' 3 TI_28 rfl rfl (F50.ev 31 rfl) rfl rfl (fun _ => rfl) rfl) rfl fun _ F51 => ?_)
     refine l_op (f_call F51 CF_46 rfl rfl rfl rfl (lc (F51.ev 32 rfl) rfl) (slices_Clone_Simpl_Cell_impl_Cell_c (s := x1.d.cells) (Rd.mq VI15 (S36.trans S43)) (by first | assumption | omega | (simp <;> omega))) ?_)
     rintro _ w52 ⟨Q10, Q12, Q11, rfl, m52⟩
     refine ⟨_, rfl, fun _ F53 => ?_⟩
     have S52 : Mv _ _ [ow 91 2 encC okC (.slice Q10 Q12 Q11) x1.d.cells, ow 28 1 encCs okCs (.slice Q4 Q0 Q5) R_43, gr inCs R_43, bx b1 [.slice Q1 Q3 Q2, .string d.journal.text, .int .i64 d.journal.sure] 34, bx b25 [.int .i64 x1.d.seq, .slice x1.a0 x1.n0 x1.c0, .bool x1.d.whole] 81] _ := At.frame S43.at' [] rfl m52
     obtain ⟨Q21, Q24, Q27⟩ := At.ownInv S52.at' ET_28.hk 0 rfl
     clear m52
     refine l_op (f_as F53 rfl rfl rfl rfl rfl fun _ F54 => ?_)
     refine s_end (x_normal (wp_seq (wp_seq (wp_region_lit (l_op (f_mv F54 rfl rfl rfl rfl rfl fun _ F55 => ?_))))))
     refine l_op (f_val F55 rfl rfl (r_len Tryz.underlying83 rfl (F55.ev 34 rfl)) rfl fun _ F56 => ?_)
     refine l_op (f_val F56 rfl rfl (r_move rfl rfl) rfl fun _ F57 => ?_)
     refine s_end (x_normal (wp_block ?_))
     refine x_loop (fun (k : Nat) aZ wZ => ∃ (D : List CellD), ∃ (oa : Option Addr), ∃ (on : Nat), ∃ (oc : Nat), Fr 60 [(36, .int .i64 ((k : Nat) : Int)), (35, .int .i64 ((Q0 : Nat) : Int)), (34, .slice Q4 Q0 Q5), (7, .slice oa on oc), (5, .slice Q4 Q0 Q5), (4, .pointer (some ⟨b25, 0, none⟩))] aZ ∧ Mv [ow 91 2 encC okC (.slice Q10 Q12 Q11) x1.d.cells, ow 28 1 encCs okCs (.slice Q4 Q0 Q5) R_43, gr inCs R_43, bx b1 [.slice Q1 Q3 Q2, .string d.journal.text, .int .i64 d.journal.sure] 34, bx b25 [.int .i64 x1.d.seq, .slice x1.a0 x1.n0 x1.c0, .bool x1.d.whole] 81] w52 [ow 91 2 encC okC (.slice oa on oc) D, ow 28 1 encCs okCs (.slice Q4 Q0 Q5) R_43, gr inCs R_43, bx b1 [.slice Q1 Q3 Q2, .string d.journal.text, .int .i64 d.journal.sure] 34, bx b25 [.int .i64 x1.d.seq, .slice x1.a0 x1.n0 x1.c0, .bool x1.d.whole] 81] wZ ∧ (k ≤ Q0) ∧ (D = putLists x1.d.cells ((R_43.map CsH.d).take k))) (fun (k : Nat) => Q0 - k) (0) ?_ ?_
     · exact ⟨x1.d.cells, Q10, Q12, Q11, F57.cut rfl, (Mv.refl S52.at'), by omega, putL_start _ _⟩
     · rintro k a58 w58 ⟨D, oa, on, oc, F58, S58, hk_0, hk_1⟩
       obtain ⟨lI_oa, lJ_oa, lK_oa⟩ := At.ownInv S58.at' ET_28.hk 0 rfl
       have hRl := recs_len q43_0
       have hDl : D.length ≤ x1.d.cells.length + k * 4000 := by rw [hk_1]; exact put_fit q43_0
       refine wp_seq (wp_region_lit (l_op (f_val F58 rfl rfl (r_cmp (b := decide (k < Q0)) (.inr (.inr (.inl rfl))) rfl (F58.ev 36 rfl) (F58.ev 35 rfl) (dec_of (by omega))) rfl fun _ F59 => ?_)))
       refine s_end (x_normal (wp_seq (x_cond (p := k < Q0) (F59.ev 37 rfl) (fun h60 => ?_) (fun h60 => ?_))))
       · skip
         refine wp_skip (x_normal (wp_seq (wp_block (wp_seq (wp_region_lit ?_)))))
         obtain ⟨B61, O61, x2, ad61, hx2, okx2, ln61, cl61⟩ := Rd.at (At.rd S58.at' ET_83.hk 1 rfl) k (by first | assumption | omega)
         clear ln61
         have oj62 := okx2
         unfold okCs at oj62
         obtain ⟨ln63, le63, mx63, ni63⟩ := Rd.inv (show Rd 2 encC okC (fun _ => True) w58 (.slice x2.a0 x2.n0 x2.c0) x2.d from NRd.get (At.nrd S58.at' 2 rfl) hx2 (j := 0) rfl)
         refine l_op (f_val F59 rfl rfl (r_indexAddr (i := k) ET_83 rfl ((F59.ev 34 rfl).trans (by rw [ad61])) (F59.ev 36 rfl) (by omega) (by first | assumption | omega)) rfl fun _ F64 => ?_)
         refine l_op (f_val (v := .slice x2.a0 x2.n0 x2.c0) F64 rfl rfl (r_load (cs := [.slice x2.a0 x2.n0 x2.c0]) TI_28 rfl (F64.ev 38 rfl) rfl (fun _ => rfl) (elem_sub (f := 0) cl61 [.slice x2.a0 x2.n0 x2.c0] rfl)) rfl fun _ F65 => ?_)
         refine l_op (f_as F65 rfl rfl rfl rfl rfl fun _ F66 => ?_)
         refine s_end (x_normal (wp_seq (wp_region_lit (l_op (f_mv F66 rfl rfl rfl rfl rfl fun _ F67 => ?_)))))
         refine l_op (f_val F67 rfl rfl (r_len Tryz.underlying28 rfl (F67.ev 40 rfl)) rfl fun _ F68 => ?_)
         refine l_op (f_val F68 rfl rfl (r_move rfl rfl) rfl fun _ F69 => ?_)
         refine s_end (x_normal (wp_block ?_))
         refine x_loop (fun (j : Nat) aZ wZ => ∃ (E : List CellD), ∃ (ia : Option Addr), ∃ (im : Nat), ∃ (ic : Nat), Fr 60 [(42, .int .i64 ((j : Nat) : Int)), (41, .int .i64 ((x2.n0 : Nat) : Int)), (40, .slice x2.a0 x2.n0 x2.c0), (36, .int .i64 ((k : Nat) : Int)), (35, .int .i64 ((Q0 : Nat) : Int)), (34, .slice Q4 Q0 Q5), (7, .slice ia im ic), (5, .slice Q4 Q0 Q5), (4, .pointer (some ⟨b25, 0, none⟩))] aZ ∧ Mv [ow 91 2 encC okC (.slice oa on oc) D, ow 28 1 encCs okCs (.slice Q4 Q0 Q5) R_43, gr inCs R_43, bx b1 [.slice Q1 Q3 Q2, .string d.journal.text, .int .i64 d.journal.sure] 34, bx b25 [.int .i64 x1.d.seq, .slice x1.a0 x1.n0 x1.c0, .bool x1.d.whole] 81] w58 [ow 91 2 encC okC (.slice ia im ic) E, ow 28 1 encCs okCs (.slice Q4 Q0 Q5) R_43, gr inCs R_43, bx b1 [.slice Q1 Q3 Q2, .string d.journal.text, .int .i64 d.journal.sure] 34, bx b25 [.int .i64 x1.d.seq, .slice x1.a0 x1.n0 x1.c0, .bool x1.d.whole] 81] wZ ∧ (j ≤ x2.n0) ∧ (E = putAll (putLists x1.d.cells ((R_43.map CsH.d).take k)) (x2.d.take j))) (fun (j : Nat) => x2.n0 - j) (0) ?_ ?_
         · exact ⟨D, oa, on, oc, F69.cut rfl, (Mv.refl S58.at'), by omega, by rw [hk_1]; exact putA_start _ _⟩
         · rintro j a70 w70 ⟨E, ia, im, ic, F70, S70, hj_0, hj_1⟩
           obtain ⟨lI_ia, lJ_ia, lK_ia⟩ := At.ownInv S70.at' ET_28.hk 0 rfl
           have hEl : E.length ≤ x1.d.cells.length + k * 4000 + j := by rw [hj_1]; exact put_fit2 q43_0
           have hxl := recs_at q43_0 hx2
           refine wp_seq (wp_region_lit (l_op (f_val F70 rfl rfl (r_cmp (b := decide (j < x2.n0)) (.inr (.inr (.inl rfl))) rfl (F70.ev 42 rfl) (F70.ev 41 rfl) (dec_of (by omega))) rfl fun _ F71 => ?_)))
           refine s_end (x_normal (wp_seq (x_cond (p := j < x2.n0) (F71.ev 43 rfl) (fun h72 => ?_) (fun h72 => ?_))))
           · skip
             refine wp_skip (x_normal (wp_seq (wp_block (wp_seq (wp_region_lit ?_)))))
             obtain ⟨B73, O73, x3, ad73, hx3, okx3, ln73, cl73⟩ := Rd.at (show Rd 2 encC okC (fun _ => True) w70 (.slice x2.a0 x2.n0 x2.c0) x2.d from NRd.get (At.nrd S70.at' 2 rfl) hx2 (j := 0) rfl) j (by first | assumption | omega)
             clear ln73
             refine l_op (f_val F71 rfl rfl (r_indexAddr (i := j) ET_28 rfl ((F71.ev 40 rfl).trans (by rw [ad73])) (F71.ev 42 rfl) (by omega) (by first | assumption | omega)) rfl fun _ F74 => ?_)
             refine l_op (f_val (v := .agg #[.string x3.key, .string x3.val]) F74 rfl rfl (r_load (cs := [.string x3.key, .string x3.val]) TI_91 rfl (F74.ev 44 rfl) rfl (fun h => nomatch h) (elem_sub (f := 0) cl73 [.string x3.key, .string x3.val] rfl)) rfl fun _ F75 => ?_)
             refine l_op (f_alloc F75 S70.at' ZI_91 rfl rfl rfl rfl rfl fun b76 _ w76 F77 S76 => ?_)
             refine l_op (s_store S76.at' 0 TI_91 rfl rfl rfl rfl rfl (F77.ev 11 rfl) (F77.ev 45 rfl) rfl rfl rfl rfl rfl fun w78 S78 => ?_)
             have T79 : Mv _ _ [bx b76 [.string x3.key, .string x3.val] 91, ow 91 2 encC okC (.slice ia im ic) E, ow 28 1 encCs okCs (.slice Q4 Q0 Q5) R_43, gr inCs R_43, bx b1 [.slice Q1 Q3 Q2, .string d.journal.text, .int .i64 d.journal.sure] 34, bx b25 [.int .i64 x1.d.seq, .slice x1.a0 x1.n0 x1.c0, .bool x1.d.whole] 81] _ := S78
             refine s_end (x_normal (wp_region_lit (l_op (f_mv F77 rfl rfl rfl rfl rfl fun _ F80 => ?_))))
             refine l_op (f_val F80 rfl rfl (r_field FI_91_0 rfl (F80.ev 11 rfl) rfl) rfl fun _ F81 => ?_)
             refine l_op (f_val (v := .string x3.key) F81 rfl rfl (r_loadB T79.at' 0 TI_9 rfl rfl (F81.ev 47 rfl) rfl rfl (fun _ => rfl) rfl) rfl fun _ F82 => ?_)
             refine l_op (f_val F82 rfl rfl (r_field FI_91_1 rfl (F82.ev 11 rfl) rfl) rfl fun _ F83 => ?_)
             refine l_op (f_val (v := .string x3.val) F83 rfl rfl (r_loadB T79.at' 0 TI_9 rfl rfl (F83.ev 49 rfl) rfl rfl (fun _ => rfl) rfl) rfl fun _ F84 => ?_)
             refine l_op (f_call F84 CF_47 rfl rfl rfl rfl (lc (F84.ev 46 rfl) (lc (F84.ev 48 rfl) (lc (F84.ev 50 rfl) rfl))) (impl_put_c (H := fun _ => True) (s := E) (key := x3.key) (val := x3.val) okx3.1 okx3.2 (by first | assumption | omega | (simp <;> omega)) (At.pick (is := [1]) T79.at' rfl)) ?_)
             rintro _ w85 ⟨Q13, Q15, Q14, rfl, m85⟩
             refine ⟨_, rfl, fun _ F86 => ?_⟩
             have S85 : Mv _ _ [ow 91 2 encC okC (.slice Q13 Q15 Q14) (putKey E x3.key x3.val), bx b76 [.string x3.key, .string x3.val] 91, ow 28 1 encCs okCs (.slice Q4 Q0 Q5) R_43, gr inCs R_43, bx b1 [.slice Q1 Q3 Q2, .string d.journal.text, .int .i64 d.journal.sure] 34, bx b25 [.int .i64 x1.d.seq, .slice x1.a0 x1.n0 x1.c0, .bool x1.d.whole] 81] _ := At.frame T79.at' [1] rfl m85
             obtain ⟨Q22, Q25, Q28⟩ := At.ownInv S85.at' ET_28.hk 0 rfl
             clear m85
             refine l_op (f_as F86 rfl rfl rfl rfl rfl fun _ F87 => ?_)
             refine s_end (x_block_normal (x_normal (wp_region_lit (l_op (f_val F87 rfl rfl (r_add (z := ((j + 1 : Nat) : Int)) rfl (F87.ev 42 rfl) rfl (by first | rfl | omega) ⟨by first | omega | (unfold i64ok at *; omega), by first | omega | (unfold i64ok at *; omega)⟩) rfl fun _ F88 => ?_)))))
             refine l_op (f_mv F88 rfl rfl rfl rfl rfl fun _ F89 => ?_)
             refine s_end ?_
             refine x_normal ⟨j + 1, by omega, putKey E x3.key x3.val, Q13, Q15, Q14, F89.cut rfl, ((S70.trans (S76.trans (T79.trans S85))).pick [0, 2, 3, 4, 5] rfl), by omega, by rw [hj_1]; exact (putAll_snoc hx3).symm⟩
           · skip
             refine wp_exit (x_then_exit (x_then_exit (x_block_here (x_block_normal (x_normal (wp_region_lit (l_op (f_val F71 rfl rfl (r_add (z := ((k + 1 : Nat) : Int)) rfl (F71.ev 36 rfl) rfl (by first | rfl | omega) ⟨by first | omega | (unfold i64ok at *; omega), by first | omega | (unfold i64ok at *; omega)⟩) rfl fun _ F90 => ?_))))))))
             refine l_op (f_mv F90 rfl rfl rfl rfl rfl fun _ F91 => ?_)
             refine s_end ?_
             refine x_normal ⟨k + 1, by omega, E, ia, im, ic, F91.cut rfl, ((S58.trans S70).pick [0, 1, 2, 3, 4] rfl), by omega, putL_next hx2 hj_1 (by omega)⟩
       · skip
         refine wp_exit (x_then_exit (x_then_exit (x_block_here (x_normal (wp_seq ?_)))))
         refine x_draw (fun aZ wZ => Fr 60 [(2, .slice oa on oc), (3, .int .i64 (x1.d.seq + ((Q0 : Nat) : Int)))] aZ ∧ Mv [ow 91 2 encC okC (.slice oa on oc) D, ow 28 1 encCs okCs (.slice Q4 Q0 Q5) R_43, gr inCs R_43, bx b1 [.slice Q1 Q3 Q2, .string d.journal.text, .int .i64 d.journal.sure] 34, bx b25 [.int .i64 x1.d.seq, .slice x1.a0 x1.n0 x1.c0, .bool x1.d.whole] 81] w58 [ow 91 2 encC okC (.slice oa on oc) D, ow 28 1 encCs okCs (.slice Q4 Q0 Q5) R_43, gr inCs R_43, bx b1 [.slice Q1 Q3 Q2, .string d.journal.text, .int .i64 d.journal.sure] 34, bx b25 [.int .i64 x1.d.seq, .slice x1.a0 x1.n0 x1.c0, .bool x1.d.whole] 81] wZ) [bx b25 [.int .i64 x1.d.seq, .slice x1.a0 x1.n0 x1.c0, .bool x1.d.whole] 81] mixed S58.at' (listed := #[false, false, false, false, false, false, false, false]) rfl (fun w93 S93 => ?_) [4] rfl ?_
         · skip
           refine g_take F59 rfl (i := 0) (listed' := #[true, false, false, false, false, false, false, false]) rfl (by kernel_rfl) (by kernel_rfl) (by kernel_rfl) (fun _ _ _ h => h) (Sd.of (Mv.refl S93.at') [4] rfl) rfl rfl rfl rfl (fun _ hz => (r_move rfl (F59.ev 7 rfl))) fun _ F94 => ?_
           refine g_take F94 rfl (i := 1) (listed' := #[true, true, false, false, false, false, false, false]) rfl (by kernel_rfl) (by kernel_rfl) (by kernel_rfl) (fun _ _ _ h => h) (Sd.of (Mv.refl S93.at') [4] rfl) rfl rfl rfl rfl (fun _ hz => (r_field FI_81_0 rfl (F94.ev 4 rfl) rfl)) fun _ F95 => ?_
           refine g_take (v := .int .i64 x1.d.seq) F95 rfl (i := 2) (listed' := #[true, true, true, false, false, false, false, false]) rfl (by kernel_rfl) (by kernel_rfl) (by kernel_rfl) (fun _ _ _ h => h) (Sd.of (Mv.refl S93.at') [4] rfl) rfl rfl rfl rfl (fun _ hz => (r_loadX (hz.bx 0 rfl) TI_3 rfl (F95.ev 55 rfl) rfl rfl (fun _ => rfl) rfl)) fun _ F96 => ?_
           refine g_take F96 rfl (i := 3) (listed' := #[true, true, true, true, false, false, false, false]) rfl (by kernel_rfl) (by kernel_rfl) (by kernel_rfl) (fun _ _ _ h => h) (Sd.of (Mv.refl S93.at') [4] rfl) rfl rfl rfl rfl (fun _ hz => (r_move rfl (F96.ev 5 rfl))) fun _ F97 => ?_
           refine g_take F97 rfl (i := 4) (listed' := #[true, true, true, true, true, false, false, false]) rfl (by kernel_rfl) (by kernel_rfl) (by kernel_rfl) (fun _ _ _ h => h) (Sd.of (Mv.refl S93.at') [4] rfl) rfl rfl rfl rfl (fun _ hz => (r_len Tryz.underlying83 rfl (F97.ev 57 rfl))) fun _ F98 => ?_
           refine g_take F98 rfl (i := 5) (listed' := #[true, true, true, true, true, true, false, false]) rfl (by kernel_rfl) (by kernel_rfl) (by kernel_rfl) (fun _ _ _ h => h) (Sd.of (Mv.refl S93.at') [4] rfl) rfl rfl rfl rfl (fun _ hz => (r_add (z := (x1.d.seq + ((Q0 : Nat) : Int))) rfl (F98.ev 56 rfl) (F98.ev 58 rfl) (by first | rfl | omega) ⟨by first | omega | (unfold i64ok at *; omega), by first | omega | (unfold i64ok at *; omega)⟩)) fun _ F99 => ?_
           refine g_take F99 rfl (i := 6) (listed' := #[true, true, true, true, true, true, true, false]) rfl (by kernel_rfl) (by kernel_rfl) (by kernel_rfl) (fun _ _ _ h => h) (Sd.of (Mv.refl S93.at') [4] rfl) rfl rfl rfl rfl (fun _ hz => (r_assign rfl (F99.ev 54 rfl))) fun _ F100 => ?_
           refine g_take F100 rfl (i := 7) (listed' := #[true, true, true, true, true, true, true, true]) rfl (by kernel_rfl) (by kernel_rfl) (by kernel_rfl) (fun _ _ _ h => h) (Sd.of (Mv.refl S93.at') [4] rfl) rfl rfl rfl rfl (fun _ hz => (r_assign rfl (F100.ev 59 rfl))) fun _ F101 => ?_
           refine wpAnyH_done (by kernel_rfl) (x_normal ?_) _
           exact ⟨F101.cut rfl, (S93.pick [0, 1, 2, 3, 4] rfl)⟩
         · rintro a102 w102 ⟨F102, S102⟩
           refine x_normal (wp_ret ?_)
           refine x_done (v := .tuple #[.slice oa on oc, .int .i64 (x1.d.seq + ((Q0 : Nat) : Int))]) F102 (results_2 Tryz.results9 (.tmp (F102.ev 2 rfl)) (.tmp (F102.ev 3 rfl))) ?_
           exact ⟨oa, on, oc, (congrArg (fun zZ => Ending.returned (.tuple #[.slice oa on oc, .int .i64 zZ])) (show (x1.d.seq + ((Q0 : Nat) : Int)) = (recQ L d.journal) from by first | exact (rec_no p0 ‹_›).1 | exact (rec_no p0 ‹_›).2 | exact (rec_yes p0 ‹_› hx1 q43_0 Q6 (by omega) hk_1).1 | exact (rec_yes p0 ‹_› hx1 q43_0 Q6 (by omega) hk_1).2)), (Mv.cast (Mv.pick (S1.trans (S6.trans (S36.trans (S43.trans (S52.trans (S58.trans S102)))))) [0] rfl) (by rw [← (show D = (recC L d.journal) from by first | exact (rec_no p0 ‹_›).1 | exact (rec_no p0 ‹_›).2 | exact (rec_yes p0 ‹_› hx1 q43_0 Q6 (by omega) hk_1).1 | exact (rec_yes p0 ‹_› hx1 q43_0 Q6 (by omega) hk_1).2)]; all_goals rfl))⟩
theorem spec_Recovered_c {w : World} {H : Nat → Prop} {d : DiskH} {Q0 : Option Addr} {Q2 Q1 : Nat} {L : List SlotD} (Q13 : Rd 3 encSlot okSlot H w (.slice Q0 Q2 Q1) d.slots) (Q15 : NRd inSlot H w d.slots) (Q9 : okS d.journal.text) (Q14 : i64ok d.journal.sure) (p0 : d.slots.map SlotH.d = L) (p1 : slotsFit 1048576 L) :
    Calls Tryz.prog 7 #[.agg #[.slice Q0 Q2 Q1, .string d.journal.text, .int .i64 d.journal.sure]] w fun e w' => ∃ (r0_a : Option Addr), ∃ (r0_n : Nat), ∃ (r0_c : Nat), e = .returned (.tuple #[.slice r0_a r0_n r0_c, .int .i64 (recQ L d.journal)]) ∧ Mv [] w [ow 91 2 encC okC (.slice r0_a r0_n r0_c) (recC L d.journal)] w' := by
 have uU : True := (fun _ => trivial) Q14
 clear uU
 have hft : slotsFit 1048576 (d.slots.map SlotH.d) := by rw [p0]; exact p1
 have Q7 : Rd 3 encSlot okSlot (V H w []) w (.slice Q0 Q2 Q1) d.slots := Rd.start Q13 (fun _ _ => fps_nil _)
 obtain ⟨Q17, Q16, Q23, Q24⟩ := Rd.inv Q13
 have Q8 : NRd inSlot (V H w []) w d.slots := NRd.start Q15 (fun _ _ => fps_nil _)
 refine calls_enter 51 Tryz.func7 rfl Tryz.ntmps7 (Nat.le_of_ble_eq_true rfl) (fun _ F0i => ?_)
 have F0 : Fr 51 [(0, .agg #[.slice Q0 Q2 Q1, .string d.journal.text, .int .i64 d.journal.sure])] _ := F0i
 clear F0i
 refine wp_seq (wp_region_lit (l_op (f_box F0 (At.nil w) rfl rfl rfl (F0.ev 0 rfl) rfl rfl fun b1 _ w1 F2 S1 => ?_)))
 refine l_op (f_val F2 rfl rfl (r_assign rfl rfl) rfl fun _ F3 => ?_)
 refine l_op (f_val F3 rfl rfl (r_assign rfl rfl) rfl fun _ F4 => ?_)
 refine s_end (x_normal (wp_seq (wp_seq (wp_region_lit (l_op (f_val (v := .agg #[.slice Q0 Q2 Q1, .string d.journal.text, .int .i64 d.journal.sure]) F4 rfl rfl (r_loadB S1.at' 0 TI_34 rfl rfl (F4.ev 1 rfl) rfl rfl (fun h => nomatch h) rfl) rfl fun _ F5 => ?_))))))
 refine l_op (f_call F5 CF_37 rfl rfl rfl rfl (lc (F5.ev 9 rfl) rfl) (spec_DiskOk_c (d := d) (Rd.mq Q7 S1) (NRd.mv Q8 S1) Q9 (by first | assumption | exact ⟨by omega, by omega⟩ | (unfold i64ok at *; omega) | (simp only [i64ok]; omega))) ?_)
 rintro _ w6 ⟨rfl, m6⟩
 refine ⟨_, rfl, fun _ F7 => ?_⟩
 have S6 := At.frame0 S1.at' m6
 clear m6
 refine l_op (f_val F7 rfl rfl (r_not rfl (F7.ev 10 rfl)) rfl fun _ F8 => ?_)
 refine s_end (x_normal (x_condb (b := (!(diskOk (d.slots.map SlotH.d) d.journal))) (F8.ev 11 rfl) (fun h9 => ?_) (fun h9 => ?_)))
 · skip
   refine wp_seq (wp_region_lit (l_op (f_buildSl (ok := okC) (vs := []) F8 S6.at' (([] : List CellD)) ET_28 rfl rfl rfl rfl rfl rfl rfl rfl rfl (by simp) fun b10 _ w10 F11 S10 => ?_)))
   refine l_op (f_as F11 rfl rfl rfl rfl rfl fun _ F12 => ?_)
   refine l_op (f_val F12 rfl rfl (r_assign rfl rfl) rfl fun _ F13 => ?_)
   refine s_end (x_normal (wp_ret (x_then_ret ?_)))
   refine x_done (v := .tuple #[.slice (some ⟨b10, 0, none⟩) 0 0, .int .i64 0]) F13 (results_2 Tryz.results7 (.tmp (F13.ev 2 rfl)) (.tmp (F13.ev 3 rfl))) ?_
   exact ⟨(some ⟨b10, 0, none⟩), 0, 0, (congrArg (fun zZ => Ending.returned (.tuple #[.slice (some ⟨b10, 0, none⟩) 0 0, .int .i64 zZ])) (show 0 = (recQ L d.journal) from by first | exact (rec_no p0 ‹_›).1 | exact (rec_no p0 ‹_›).2 | exact (rec_yes p0 ‹_› hx1 q52_0 Q4 (by omega) hk_1).1 | exact (rec_yes p0 ‹_› hx1 q52_0 Q4 (by omega) hk_1).2)), (Mv.cast (Mv.pick (S1.trans (S6.trans S10)) [0] rfl) (by rw [← (show ([] : List CellD) = (recC L d.journal) from by first | exact (rec_no p0 ‹_›).1 | exact (rec_no p0 ‹_›).2 | exact (rec_yes p0 ‹_› hx1 q52_0 Q4 (by omega) hk_1).1 | exact (rec_yes p0 ‹_› hx1 q52_0 Q4 (by omega) hk_1).2)]; all_goals rfl))⟩
 · skip
   refine wp_skip (x_normal (wp_seq ?_))
   have hbb := diskOk_bd ‹_›
   obtain ⟨x1, hx1, okx1⟩ := Rd.elem (Rd.mq Q7 (S1.trans S6)) (bestTo (d.slots.map SlotH.d) d.slots.length).toNat (by first | assumption | omega)
   have oj15 := okx1
   unfold okSlot at oj15
   have VI16 : Rd 2 encC okC (V H w [bx b1 [.slice Q0 Q2 Q1, .string d.journal.text, .int .i64 d.journal.sure] 34]) w6 (.slice x1.a0 x1.n0 x1.c0) x1.d.cells := NRd.get (NRd.mv Q8 (S1.trans S6)) hx1 (j := 0) rfl
   obtain ⟨ln16, le16, mx16, ni16⟩ := Rd.inv VI16
   refine x_draw (fun aZ wZ => ∃ (b26 : Nat), Fr 51 [(1, .pointer (some ⟨b1, 0, none⟩)), (4, .pointer (some ⟨b26, 0, none⟩))] aZ ∧ Mv [bx b1 [.slice Q0 Q2 Q1, .string d.journal.text, .int .i64 d.journal.sure] 34] w6 [bx b1 [.slice Q0 Q2 Q1, .string d.journal.text, .int .i64 d.journal.sure] 34, bx b26 [.int .i64 x1.d.seq, .slice x1.a0 x1.n0 x1.c0, .bool x1.d.whole] 81] wZ) [bx b1 [.slice Q0 Q2 Q1, .string d.journal.text, .int .i64 d.journal.sure] 34] mixed S6.at' (listed := #[false, false, false, false, false, false, false, false]) rfl (fun w17 S17 => ?_) [0] rfl ?_
   · skip
     refine g_take F8 rfl (i := 0) (listed' := #[true, false, false, false, false, false, false, false]) rfl (by kernel_rfl) (by kernel_rfl) (by kernel_rfl) (fun _ _ _ h => h) (Sd.of (Mv.refl S17.at') [0] rfl) rfl rfl rfl rfl (fun _ hz => (r_field FI_34_0 rfl (F8.ev 1 rfl) rfl)) fun _ F18 => ?_
     refine g_take (v := .slice Q0 Q2 Q1) F18 rfl (i := 1) (listed' := #[true, true, false, false, false, false, false, false]) rfl (by kernel_rfl) (by kernel_rfl) (by kernel_rfl) (fun _ _ _ h => h) (Sd.of (Mv.refl S17.at') [0] rfl) rfl rfl rfl rfl (fun _ hz => (r_loadX (hz.bx 0 rfl) TI_31 rfl (F18.ev 13 rfl) rfl rfl (fun _ => rfl) rfl)) fun _ F19 => ?_
     refine g_take (v := .agg #[.slice Q0 Q2 Q1, .string d.journal.text, .int .i64 d.journal.sure]) F19 rfl (i := 2) (listed' := #[true, true, true, false, false, false, false, false]) rfl (by kernel_rfl) (by kernel_rfl) (by kernel_rfl) (fun _ _ _ h => h) (Sd.of (Mv.refl S17.at') [0] rfl) rfl rfl rfl rfl (fun _ hz => (r_loadX (hz.bx 0 rfl) TI_34 rfl (F19.ev 1 rfl) rfl rfl (fun h => nomatch h) rfl)) fun _ F20 => ?_
     refine d_all (rs := [3, 6]) rfl (by kernel_rfl) (by simp) (d_cons (i := 3) (listed' := #[true, true, true, true, false, false, false, false]) rfl rfl ?_ (d_cons (i := 6) (listed' := #[true, true, true, false, false, false, true, false]) rfl rfl ?_ d_nil))
     · skip
       refine f_call F20 CF_38 rfl rfl rfl rfl (lc (F20.ev 15 rfl) rfl) (spec_BestSlot_c (d := d) (Rd.mq Q7 (S1.trans (S6.trans S17))) (NRd.mv Q8 (S1.trans (S6.trans S17))) Q9 (by first | assumption | exact ⟨by omega, by omega⟩ | (unfold i64ok at *; omega) | (simp only [i64ok]; omega))) ?_
       rintro _ w21 ⟨rfl, m21, q21_0⟩
       refine ⟨_, rfl, fun _ F22 => ?_⟩
       have S21 := At.frame0 S17.at' m21
       clear m21
       refine ⟨Sd.of S21 [0] rfl, ?_⟩
       obtain ⟨B23, O23, y23, ad23, hy23, oky23, ln23, cl23⟩ := Rd.atK (Nat.succ_pos _) (Rd.mq Q7 (S1.trans (S6.trans S17))) (bestTo (d.slots.map SlotH.d) d.slots.length).toNat (by first | assumption | omega)
       clear ln23
       obtain rfl := Option.some.inj (hx1.symm.trans hy23)
       clear hy23 oky23
       refine g_take F22 rfl (i := 4) (listed' := #[true, true, true, true, true, false, false, false]) rfl (by kernel_rfl) (by kernel_rfl) (by kernel_rfl) (fun _ _ _ h => h) (Sd.of S21 [0] rfl) rfl rfl rfl rfl (fun _ hz => (r_indexAddr (i := (bestTo (d.slots.map SlotH.d) d.slots.length).toNat) ET_31 rfl ((F22.ev 14 rfl).trans (by rw [ad23])) (F22.ev 16 rfl) (by omega) (by first | assumption | omega))) fun _ F24 => ?_
       refine g_take (v := .agg #[.int .i64 x1.d.seq, .slice x1.a0 x1.n0 x1.c0, .bool x1.d.whole]) F24 rfl (i := 5) (listed' := #[true, true, true, true, true, true, false, false]) rfl (by kernel_rfl) (by kernel_rfl) (by kernel_rfl) (fun _ _ _ h => h) (Sd.of S21 [0] rfl) rfl rfl rfl rfl (fun _ hz => (r_load (cs := [.int .i64 x1.d.seq, .slice x1.a0 x1.n0 x1.c0, .bool x1.d.whole]) TI_81 rfl (F24.ev 17 rfl) rfl (fun h => nomatch h) (elem_sub (f := 0) (cl23 _ hz.kp) [.int .i64 x1.d.seq, .slice x1.a0 x1.n0 x1.c0, .bool x1.d.whole] rfl))) fun _ F25 => ?_
       refine d_one (i := 6) (listed' := #[true, true, true, true, true, true, true, false]) rfl (by kernel_rfl) rfl rfl ?_
       refine f_alloc F25 S21.at' ZI_81 rfl rfl rfl rfl rfl fun b26 _ w26 F27 S26 => ?_
       refine ⟨Sd.of (S21.trans S26) [1] rfl, ?_⟩
       refine d_one (i := 7) (listed' := #[true, true, true, true, true, true, true, true]) rfl (by kernel_rfl) rfl rfl ?_
       refine s_store S26.at' 0 TI_81 rfl rfl rfl rfl rfl (F27.ev 4 rfl) (F27.ev 18 rfl) rfl rfl rfl rfl rfl fun w28 S28 => ?_
       refine ⟨Sd.of (S21.trans (S26.trans S28)) [1] rfl, ?_⟩
       refine wpAnyH_done (by kernel_rfl) (x_normal ?_) _
       exact ⟨b26, F27.cut rfl, ((S17.trans (S21.trans (S26.trans S28))).pick [1, 0] rfl)⟩
     · skip
       refine f_alloc F20 S17.at' ZI_81 rfl rfl rfl rfl rfl fun b29 _ w29 F30 S29 => ?_
       refine ⟨Sd.of S29 [1] rfl, ?_⟩
       refine d_one (i := 3) (listed' := #[true, true, true, true, false, false, true, false]) rfl (by kernel_rfl) rfl rfl ?_
       refine f_call F30 CF_38 rfl rfl rfl rfl (lc (F30.ev 15 rfl) rfl) (spec_BestSlot_c (d := d) (Rd.mq Q7 (S1.trans (S6.trans (S17.trans S29)))) (NRd.mv Q8 (S1.trans (S6.trans (S17.trans S29)))) Q9 (by first | assumption | exact ⟨by omega, by omega⟩ | (unfold i64ok at *; omega) | (simp only [i64ok]; omega))) ?_
       rintro _ w31 ⟨rfl, m31, q31_0⟩
       refine ⟨_, rfl, fun _ F32 => ?_⟩
       have S31 := At.frame0 S29.at' m31
       clear m31
       refine ⟨Sd.of (S29.trans S31) [1] rfl, ?_⟩
       obtain ⟨B33, O33, y33, ad33, hy33, oky33, ln33, cl33⟩ := Rd.atK (Nat.succ_pos _) (Rd.mq Q7 (S1.trans (S6.trans S17))) (bestTo (d.slots.map SlotH.d) d.slots.length).toNat (by first | assumption | omega)
       clear ln33
       obtain rfl := Option.some.inj (hx1.symm.trans hy33)
       clear hy33 oky33
       refine g_take F32 rfl (i := 4) (listed' := #[true, true, true, true, true, false, true, false]) rfl (by kernel_rfl) (by kernel_rfl) (by kernel_rfl) (fun _ _ _ h => h) (Sd.of (S29.trans S31) [1] rfl) rfl rfl rfl rfl (fun _ hz => (r_indexAddr (i := (bestTo (d.slots.map SlotH.d) d.slots.length).toNat) ET_31 rfl ((F32.ev 14 rfl).trans (by rw [ad33])) (F32.ev 16 rfl) (by omega) (by first | assumption | omega))) fun _ F34 => ?_
       refine g_take (v := .agg #[.int .i64 x1.d.seq, .slice x1.a0 x1.n0 x1.c0, .bool x1.d.whole]) F34 rfl (i := 5) (listed' := #[true, true, true, true, true, true, true, false]) rfl (by kernel_rfl) (by kernel_rfl) (by kernel_rfl) (fun _ _ _ h => h) (Sd.of (S29.trans S31) [1] rfl) rfl rfl rfl rfl (fun _ hz => (r_load (cs := [.int .i64 x1.d.seq, .slice x1.a0 x1.n0 x1.c0, .bool x1.d.whole]) TI_81 rfl (F34.ev 17 rfl) rfl (fun h => nomatch h) (elem_sub (f := 0) (cl33 _ hz.kp) [.int .i64 x1.d.seq, .slice x1.a0 x1.n0 x1.c0, .bool x1.d.whole] rfl))) fun _ F35 => ?_
       refine d_one (i := 7) (listed' := #[true, true, true, true, true, true, true, true]) rfl (by kernel_rfl) rfl rfl ?_
       refine s_store S31.at' 0 TI_81 rfl rfl rfl rfl rfl (F35.ev 4 rfl) (F35.ev 18 rfl) rfl rfl rfl rfl rfl fun w36 S36 => ?_
       refine ⟨Sd.of (S29.trans (S31.trans S36)) [1] rfl, ?_⟩
       refine wpAnyH_done (by kernel_rfl) (x_normal ?_) _
       exact ⟨b29, F35.cut rfl, ((S17.trans (S29.trans (S31.trans S36))).pick [1, 0] rfl)⟩
   · rintro a37 w37 ⟨b26, F37, S37⟩
     refine x_normal (wp_seq ?_)
     have hsq := seq_bd ‹_› hx1
     have htx := disk_text (j := d.journal) ‹_›
     have hcl := hft.at hx1
     refine wp_region_lit (l_op (f_buildSl (ok := okC) (vs := []) F37 S37.at' (([] : List CellD)) ET_28 rfl rfl rfl rfl rfl rfl rfl rfl rfl (by simp) fun b38 _ w38 F39 S38 => ?_))
     refine l_op (f_val F39 rfl rfl (r_field FI_81_1 rfl (F39.ev 4 rfl) rfl) rfl fun _ F40 => ?_)
     refine l_op (f_val (v := .slice x1.a0 x1.n0 x1.c0) F40 rfl rfl (r_loadB S38.at' 2 TI_28 rfl rfl (F40.ev 20 rfl) rfl rfl (fun _ => rfl) rfl) rfl fun _ F41 => ?_)
     refine l_op (f_app (news := x1.d.cells) F41 S38.at' 0 ET_28 rfl rfl rfl rfl rfl rfl (F41.ev 19 rfl) (F41.ev 21 rfl) ((Rd.mq VI16 (S37.trans S38))).1 (by ((repeat (first | rw [List.length_append] | rw [List.length_cons] | rw [List.length_nil] | rw [List.length_take] | rw [List.length_drop])) <;> omega)) fun A42 N42 C42 _ w42 F43 S42 l42 => ?_)
     refine l_op (f_as F43 rfl rfl rfl rfl rfl fun _ F44 => ?_)
     have T45 : Mv _ _ [ow 91 2 encC okC (.slice A42 N42 C42) (([] : List CellD) ++ x1.d.cells), bx b1 [.slice Q0 Q2 Q1, .string d.journal.text, .int .i64 d.journal.sure] 34, bx b26 [.int .i64 x1.d.seq, .slice x1.a0 x1.n0 x1.c0, .bool x1.d.whole] 81] _ := S42
     refine s_end (x_normal (wp_seq (wp_region_lit (l_op (f_val F44 rfl rfl (r_field FI_34_1 rfl (F44.ev 1 rfl) rfl) rfl fun _ F46 => ?_)))))
     refine l_op (f_val F46 rfl rfl (r_field FI_32_0 rfl (F46.ev 24 rfl) rfl) rfl fun _ F47 => ?_)
     refine l_op (f_val (v := .string d.journal.text) F47 rfl rfl (r_loadB T45.at' 1 TI_9 rfl rfl (F47.ev 25 rfl) rfl rfl (fun _ => rfl) rfl) rfl fun _ F48 => ?_)
     refine l_op (f_val F48 rfl rfl (r_field FI_81_0 rfl (F48.ev 4 rfl) rfl) rfl fun _ F49 => ?_)
     refine l_op (f_val (v := .int .i64 x1.d.seq) F49 rfl rfl (r_loadB T45.at' 2 TI_3 rfl rfl (F49.ev 27 rfl) rfl rfl (fun _ => rfl) rfl) rfl fun _ F50 => ?_)
     refine l_op (f_val F50 rfl rfl (r_add (z := (x1.d.seq + 1)) rfl (F50.ev 28 rfl) rfl (by first | rfl | omega) ⟨by first | omega | (unfold i64ok at *; omega), by first | omega | (unfold i64ok at *; omega)⟩) rfl fun _ F51 => ?_)
     refine l_op (f_call F51 CF_39 rfl rfl rfl rfl (lc (F51.ev 26 rfl) (lc (F51.ev 29 rfl) rfl)) (spec_RecordsIn_c (H := fun _ => True) (text := d.journal.text) (frm := (x1.d.seq + 1)) Q9 (by first | assumption | exact ⟨by omega, by omega⟩ | (unfold i64ok at *; omega)) (by first | assumption | omega | (simp <;> omega))) ?_)
     rintro _ w52 ⟨R_52, Q5, Q3, Q6, rfl, m52, q52_0⟩
     refine ⟨_, rfl, fun _ F53 => ?_⟩
     have S52 : Mv _ _ [ow 28 1 encCs okCs (.slice Q5 Q3 Q6) R_52, gr inCs R_52, ow 91 2 encC okC (.slice A42 N42 C42) (([] : List CellD) ++ x1.d.cells), bx b1 [.slice Q0 Q2 Q1, .string d.journal.text, .int .i64 d.journal.sure] 34, bx b26 [.int .i64 x1.d.seq, .slice x1.a0 x1.n0 x1.c0, .bool x1.d.whole] 81] _ := At.frame T45.at' [] rfl m52
     obtain ⟨Q4, Q19, Q21⟩ := At.ownInv S52.at' ET_83.hk 0 rfl
     clear m52
     refine l_op (f_mv F53 rfl rfl rfl rfl rfl fun _ F54 => ?_)
     refine l_op (f_val (v := .slice Q5 Q3 Q6) F54 rfl rfl (r_extract rfl (F54.ev 23 rfl) rfl) rfl fun _ F55 => ?_)
     refine l_op (f_val (v := .int .i64 (((recsIn d.journal.text (x1.d.seq + 1)).2 : Nat) : Int)) F55 rfl rfl (r_extract rfl (F55.ev 23 rfl) rfl) rfl fun _ F56 => ?_)
     refine l_op (f_as F56 rfl rfl rfl rfl rfl fun _ F57 => ?_)
     refine l_op (f_as F57 rfl rfl rfl rfl rfl fun _ F58 => ?_)
     refine s_end (x_normal (wp_seq (wp_seq (wp_region_lit (l_op (f_val F58 rfl rfl (r_assign rfl rfl) rfl fun _ F59 => ?_))))))
     refine s_end (x_normal (wp_block ?_))
     refine x_loop (fun (k : Nat) aZ wZ => ∃ (D : List CellD), ∃ (oa : Option Addr), ∃ (on : Nat), ∃ (oc : Nat), Fr 51 [(8, .int .i64 ((k : Nat) : Int)), (6, .slice Q5 Q3 Q6), (5, .slice oa on oc), (4, .pointer (some ⟨b26, 0, none⟩))] aZ ∧ Mv [ow 28 1 encCs okCs (.slice Q5 Q3 Q6) R_52, gr inCs R_52, ow 91 2 encC okC (.slice A42 N42 C42) (([] : List CellD) ++ x1.d.cells), bx b1 [.slice Q0 Q2 Q1, .string d.journal.text, .int .i64 d.journal.sure] 34, bx b26 [.int .i64 x1.d.seq, .slice x1.a0 x1.n0 x1.c0, .bool x1.d.whole] 81] w52 [ow 28 1 encCs okCs (.slice Q5 Q3 Q6) R_52, gr inCs R_52, ow 91 2 encC okC (.slice oa on oc) D, bx b1 [.slice Q0 Q2 Q1, .string d.journal.text, .int .i64 d.journal.sure] 34, bx b26 [.int .i64 x1.d.seq, .slice x1.a0 x1.n0 x1.c0, .bool x1.d.whole] 81] wZ ∧ (k ≤ Q3) ∧ (D = putLists x1.d.cells ((R_52.map CsH.d).take k))) (fun (k : Nat) => Q3 - k) (0) ?_ ?_
     · exact ⟨([] : List CellD) ++ x1.d.cells, A42, N42, C42, F59.cut rfl, (Mv.refl S52.at'), by omega, by rw [List.nil_append]; exact putL_start _ _⟩
     · rintro k a60 w60 ⟨D, oa, on, oc, F60, S60, hk_0, hk_1⟩
       obtain ⟨lI_oa, lJ_oa, lK_oa⟩ := At.ownInv S60.at' ET_28.hk 2 rfl
       have hRl := recs_len q52_0
       have hDl : D.length ≤ x1.d.cells.length + k * 4000 := by rw [hk_1]; exact put_fit q52_0
       refine wp_seq (wp_seq (wp_region_lit (l_op (f_mv F60 rfl rfl rfl rfl rfl fun _ F61 => ?_))))
       refine l_op (f_mv F61 rfl rfl rfl rfl rfl fun _ F62 => ?_)
       refine l_op (f_val F62 rfl rfl (r_len Tryz.underlying83 rfl (F62.ev 34 rfl)) rfl fun _ F63 => ?_)
       refine l_op (f_val F63 rfl rfl (r_cmp (b := decide (k < Q3)) (.inr (.inr (.inl rfl))) rfl (F63.ev 33 rfl) (F63.ev 35 rfl) (dec_of (by omega))) rfl fun _ F64 => ?_)
       refine s_end (x_normal (x_cond (p := k < Q3) (F64.ev 36 rfl) (fun h65 => ?_) (fun h65 => ?_)))
       · skip
         refine wp_skip (x_normal (wp_seq (wp_block (wp_region_lit (l_op (f_mv F64 rfl rfl rfl rfl rfl fun _ F66 => ?_))))))
         refine l_op (f_mv F66 rfl rfl rfl rfl rfl fun _ F67 => ?_)
         refine l_op (f_mv F67 rfl rfl rfl rfl rfl fun _ F68 => ?_)
         obtain ⟨B69, O69, x2, ad69, hx2, okx2, ln69, cl69⟩ := Rd.at (At.rd S60.at' ET_83.hk 0 rfl) k (by first | assumption | omega)
         clear ln69
         have oj70 := okx2
         unfold okCs at oj70
         obtain ⟨ln71, le71, mx71, ni71⟩ := Rd.inv (show Rd 2 encC okC (fun _ => True) w60 (.slice x2.a0 x2.n0 x2.c0) x2.d from NRd.get (At.nrd S60.at' 1 rfl) hx2 (j := 0) rfl)
         refine l_op (f_val F68 rfl rfl (r_indexAddr (i := k) ET_83 rfl ((F68.ev 40 rfl).trans (by rw [ad69])) (F68.ev 41 rfl) (by omega) (by first | assumption | omega)) rfl fun _ F72 => ?_)
         refine l_op (f_val (v := .slice x2.a0 x2.n0 x2.c0) F72 rfl rfl (r_load (cs := [.slice x2.a0 x2.n0 x2.c0]) TI_28 rfl (F72.ev 42 rfl) rfl (fun _ => rfl) (elem_sub (f := 0) cl69 [.slice x2.a0 x2.n0 x2.c0] rfl)) rfl fun _ F73 => ?_)
         refine l_op (f_call F73 CF_40 rfl rfl rfl rfl (lc (F73.ev 39 rfl) (lc (F73.ev 43 rfl) rfl)) (spec_ApplyRecord_c (H := fun _ => True) (s := D) (list := x2.d) (At.rd S60.at' ET_28.hk 2 rfl) (show Rd 2 encC okC (fun _ => True) w60 (.slice x2.a0 x2.n0 x2.c0) x2.d from NRd.get (At.nrd S60.at' 1 rfl) hx2 (j := 0) rfl) (by first | omega | (have := recs_at q52_0 hx2; omega)) (by first | omega | (have := recs_at q52_0 hx2; omega))) ?_)
         rintro _ w74 ⟨Q10, Q12, Q11, rfl, m74⟩
         refine ⟨_, rfl, fun _ F75 => ?_⟩
         have S74 : Mv _ _ [ow 91 2 encC okC (.slice Q10 Q12 Q11) (putAll D x2.d), ow 28 1 encCs okCs (.slice Q5 Q3 Q6) R_52, gr inCs R_52, ow 91 2 encC okC (.slice oa on oc) D, bx b1 [.slice Q0 Q2 Q1, .string d.journal.text, .int .i64 d.journal.sure] 34, bx b26 [.int .i64 x1.d.seq, .slice x1.a0 x1.n0 x1.c0, .bool x1.d.whole] 81] _ := At.frame S60.at' [] rfl m74
         obtain ⟨Q18, Q20, Q22⟩ := At.ownInv S74.at' ET_28.hk 0 rfl
         clear m74
         refine l_op (f_as F75 rfl rfl rfl rfl rfl fun _ F76 => ?_)
         refine s_end (x_block_normal (x_normal (wp_region_lit (l_op (f_mv F76 rfl rfl rfl rfl rfl fun _ F77 => ?_)))))
         refine l_op (f_val F77 rfl rfl (r_add (z := ((k + 1 : Nat) : Int)) rfl (F77.ev 37 rfl) rfl (by first | rfl | omega) ⟨by first | omega | (unfold i64ok at *; omega), by first | omega | (unfold i64ok at *; omega)⟩) rfl fun _ F78 => ?_)
         refine l_op (f_as F78 rfl rfl rfl rfl rfl fun _ F79 => ?_)
         refine s_end ?_
         refine x_normal ⟨k + 1, by omega, putAll D x2.d, Q10, Q12, Q11, F79.cut rfl, ((S60.trans S74).pick [1, 2, 0, 4, 5] rfl), by omega, by rw [hk_1]; exact (putLists_snoc (map_at hx2)).symm⟩
       · skip
         refine wp_exit (x_then_exit (x_then_exit (x_block_here (x_normal (wp_seq ?_)))))
         refine x_draw (fun aZ wZ => Fr 51 [(2, .slice oa on oc), (3, .int .i64 (x1.d.seq + ((Q3 : Nat) : Int)))] aZ ∧ Mv [ow 28 1 encCs okCs (.slice Q5 Q3 Q6) R_52, gr inCs R_52, ow 91 2 encC okC (.slice oa on oc) D, bx b1 [.slice Q0 Q2 Q1, .string d.journal.text, .int .i64 d.journal.sure] 34, bx b26 [.int .i64 x1.d.seq, .slice x1.a0 x1.n0 x1.c0, .bool x1.d.whole] 81] w60 [ow 28 1 encCs okCs (.slice Q5 Q3 Q6) R_52, gr inCs R_52, ow 91 2 encC okC (.slice oa on oc) D, bx b1 [.slice Q0 Q2 Q1, .string d.journal.text, .int .i64 d.journal.sure] 34, bx b26 [.int .i64 x1.d.seq, .slice x1.a0 x1.n0 x1.c0, .bool x1.d.whole] 81] wZ) [bx b26 [.int .i64 x1.d.seq, .slice x1.a0 x1.n0 x1.c0, .bool x1.d.whole] 81] mixed S60.at' (listed := #[false, false, false, false, false, false, false, false]) rfl (fun w81 S81 => ?_) [4] rfl ?_
         · skip
           refine g_take F64 rfl (i := 0) (listed' := #[true, false, false, false, false, false, false, false]) rfl (by kernel_rfl) (by kernel_rfl) (by kernel_rfl) (fun _ _ _ h => h) (Sd.of (Mv.refl S81.at') [4] rfl) rfl rfl rfl rfl (fun _ hz => (r_move rfl (F64.ev 5 rfl))) fun _ F82 => ?_
           refine g_take F82 rfl (i := 1) (listed' := #[true, true, false, false, false, false, false, false]) rfl (by kernel_rfl) (by kernel_rfl) (by kernel_rfl) (fun _ _ _ h => h) (Sd.of (Mv.refl S81.at') [4] rfl) rfl rfl rfl rfl (fun _ hz => (r_field FI_81_0 rfl (F82.ev 4 rfl) rfl)) fun _ F83 => ?_
           refine g_take (v := .int .i64 x1.d.seq) F83 rfl (i := 2) (listed' := #[true, true, true, false, false, false, false, false]) rfl (by kernel_rfl) (by kernel_rfl) (by kernel_rfl) (fun _ _ _ h => h) (Sd.of (Mv.refl S81.at') [4] rfl) rfl rfl rfl rfl (fun _ hz => (r_loadX (hz.bx 0 rfl) TI_3 rfl (F83.ev 46 rfl) rfl rfl (fun _ => rfl) rfl)) fun _ F84 => ?_
           refine g_take F84 rfl (i := 3) (listed' := #[true, true, true, true, false, false, false, false]) rfl (by kernel_rfl) (by kernel_rfl) (by kernel_rfl) (fun _ _ _ h => h) (Sd.of (Mv.refl S81.at') [4] rfl) rfl rfl rfl rfl (fun _ hz => (r_move rfl (F84.ev 6 rfl))) fun _ F85 => ?_
           refine g_take F85 rfl (i := 4) (listed' := #[true, true, true, true, true, false, false, false]) rfl (by kernel_rfl) (by kernel_rfl) (by kernel_rfl) (fun _ _ _ h => h) (Sd.of (Mv.refl S81.at') [4] rfl) rfl rfl rfl rfl (fun _ hz => (r_len Tryz.underlying83 rfl (F85.ev 48 rfl))) fun _ F86 => ?_
           refine g_take F86 rfl (i := 5) (listed' := #[true, true, true, true, true, true, false, false]) rfl (by kernel_rfl) (by kernel_rfl) (by kernel_rfl) (fun _ _ _ h => h) (Sd.of (Mv.refl S81.at') [4] rfl) rfl rfl rfl rfl (fun _ hz => (r_add (z := (x1.d.seq + ((Q3 : Nat) : Int))) rfl (F86.ev 47 rfl) (F86.ev 49 rfl) (by first | rfl | omega) ⟨by first | omega | (unfold i64ok at *; omega), by first | omega | (unfold i64ok at *; omega)⟩)) fun _ F87 => ?_
           refine g_take F87 rfl (i := 6) (listed' := #[true, true, true, true, true, true, true, false]) rfl (by kernel_rfl) (by kernel_rfl) (by kernel_rfl) (fun _ _ _ h => h) (Sd.of (Mv.refl S81.at') [4] rfl) rfl rfl rfl rfl (fun _ hz => (r_assign rfl (F87.ev 45 rfl))) fun _ F88 => ?_
           refine g_take F88 rfl (i := 7) (listed' := #[true, true, true, true, true, true, true, true]) rfl (by kernel_rfl) (by kernel_rfl) (by kernel_rfl) (fun _ _ _ h => h) (Sd.of (Mv.refl S81.at') [4] rfl) rfl rfl rfl rfl (fun _ hz => (r_assign rfl (F88.ev 50 rfl))) fun _ F89 => ?_
           refine wpAnyH_done (by kernel_rfl) (x_normal ?_) _
           exact ⟨F89.cut rfl, (S81.pick [0, 1, 2, 3, 4] rfl)⟩
         · rintro a90 w90 ⟨F90, S90⟩
           refine x_normal (wp_ret ?_)
           refine x_done (v := .tuple #[.slice oa on oc, .int .i64 (x1.d.seq + ((Q3 : Nat) : Int))]) F90 (results_2 Tryz.results7 (.tmp (F90.ev 2 rfl)) (.tmp (F90.ev 3 rfl))) ?_
           exact ⟨oa, on, oc, (congrArg (fun zZ => Ending.returned (.tuple #[.slice oa on oc, .int .i64 zZ])) (show (x1.d.seq + ((Q3 : Nat) : Int)) = (recQ L d.journal) from by first | exact (rec_no p0 ‹_›).1 | exact (rec_no p0 ‹_›).2 | exact (rec_yes p0 ‹_› hx1 q52_0 Q4 (by omega) hk_1).1 | exact (rec_yes p0 ‹_› hx1 q52_0 Q4 (by omega) hk_1).2)), (Mv.cast (Mv.pick (S1.trans (S6.trans (S37.trans (S38.trans (T45.trans (S52.trans (S60.trans S90))))))) [2] rfl) (by rw [← (show D = (recC L d.journal) from by first | exact (rec_no p0 ‹_›).1 | exact (rec_no p0 ‹_›).2 | exact (rec_yes p0 ‹_› hx1 q52_0 Q4 (by omega) hk_1).1 | exact (rec_yes p0 ‹_› hx1 q52_0 Q4 (by omega) hk_1).2)]; all_goals rfl))⟩
end Go.Proofs.YtipdbeklopjbmaaGreatDoor
