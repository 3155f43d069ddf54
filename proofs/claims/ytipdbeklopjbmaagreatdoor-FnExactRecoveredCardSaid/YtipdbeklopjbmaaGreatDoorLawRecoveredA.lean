/-
  PROVED HERE: whatever the input, the statement laws.FnExactRecovered returns true: the program's Recovered and the reference's give equal results, alter nothing of their arguments, and the result stands by itself. Condition: the tables and errors of the library that the row lists stand as the program's text lays them (the card ties that).
-/
import Derived.Test.YtipdbeklopjbmaaGreatDoorGenNsa
import Derived.Test.YtipdbeklopjbmaaGreatDoorP08
import Derived.Test.YtipdbeklopjbmaaGreatDoorGenRj
namespace Go.Proofs.YtipdbeklopjbmaaGreatDoor
open Go.ChangeShapes Go.WideShapes Go.ChangeAt Go.RowKit
set_option maxRecDepth 100000
set_option maxHeartbeats 1000000
theorem laws_FnExactRecovered_c {w : World} {H : Nat → Prop} {aD : DiskH} {Q3 : Option Addr} {Q5 Q4 : Nat} (Q29 : RdA 3 encSlot okSlot H w (.slice Q3 Q5 Q4) aD.slots) (Q34 : NRa inSlot H w aD.slots) (Q20 : okS aD.journal.text) (Q30 : i64ok aD.journal.sure) (tab0 : Tb 0 H w) (tab1 : Tb 1 H w) (tab2 : Tb 2 H w) :
    Calls Tryz.prog 3 #[.agg #[.slice Q3 Q5 Q4, .string aD.journal.text, .int .i64 aD.journal.sure]] w fun e w' => e = .returned (.bool true) ∧ Mv [] w [] w' := by
 have uU : True := (fun _ => trivial) Q30
 clear uU
 have Q19 : RdA 3 encSlot okSlot (V H w []) w (.slice Q3 Q5 Q4) aD.slots := RdA.start Q29 (fun _ _ => fps_nil _)
 obtain ⟨Q39, Q38, Q70, Q71⟩ := RdA.inv Q29
 have Q18 : NRa inSlot (V H w []) w aD.slots := NRa.start Q34 (fun _ _ => fps_nil _)
 have V_tab0 : Tb 0 (V H w []) w := Tb.start tab0 (fun _ _ => fps_nil _)
 have V_tab1 : Tb 1 (V H w []) w := Tb.start tab1 (fun _ _ => fps_nil _)
 have V_tab2 : Tb 2 (V H w []) w := Tb.start tab2 (fun _ _ => fps_nil _)
 refine calls_enter 96 Tryz.func3 rfl Tryz.ntmps3 (Nat.le_of_ble_eq_true rfl) (fun _ F0i => ?_)
 have F0 : Fr 96 [(0, .agg #[.slice Q3 Q5 Q4, .string aD.journal.text, .int .i64 aD.journal.sure])] _ := F0i
 clear F0i
 refine wp_seq (wp_region_lit (l_op (f_box F0 (At.nil w) rfl rfl rfl (F0.ev 0 rfl) rfl rfl fun b1 _ w1 F2 S1 => ?_)))
 refine l_op (f_val F2 rfl rfl (r_assign rfl rfl) rfl fun _ F3 => ?_)
 refine s_end (x_normal (wp_seq (wp_region_lit (l_op (f_val F3 rfl rfl (r_assign rfl rfl) rfl fun _ F4 => ?_)))))
 refine s_end (x_normal (wp_seq (wp_region_lit (l_op (f_val (v := .agg #[.slice Q3 Q5 Q4, .string aD.journal.text, .int .i64 aD.journal.sure]) F4 rfl rfl (r_loadB S1.at' 0 TI_26 rfl rfl (F4.ev 1 rfl) rfl rfl (fun h => nomatch h) rfl) rfl fun _ F5 => ?_)))))
 refine l_op (f_mv F5 rfl rfl rfl rfl rfl fun _ F6 => ?_)
 refine l_op (f_call F6 CF_6 rfl rfl rfl rfl (lc (F6.ev 14 rfl) (lc (F6.ev 15 rfl) rfl)) (laws_szDisk_c (a := aD) (left := 1048576) (RdA.mv (Nat.succ_pos _) Q19 S1) (NRa.mv Q18 S1) Q20 (by first | assumption | exact ⟨by omega, by omega⟩ | (unfold i64ok at *; omega) | (simp only [i64ok]; omega)) (by first | assumption | exact ⟨by omega, by omega⟩ | (unfold i64ok at *; omega)) (by first | assumption | omega | (simp <;> omega)) (by first | assumption | omega | (simp <;> omega))) ?_)
 rintro _ w7 ⟨rfl, m7, q7_0⟩
 refine ⟨_, rfl, fun _ F8 => ?_⟩
 have S7 := At.frame0 S1.at' m7
 clear m7
 refine l_op (f_as F8 rfl rfl rfl rfl rfl fun _ F9 => ?_)
 refine s_end (x_normal (wp_seq (wp_seq (wp_region_lit (l_op (f_mv F9 rfl rfl rfl rfl rfl fun _ F10 => ?_))))))
 refine l_op (f_val F10 rfl rfl (r_cmp (b := decide ((subOr 1048576 (szDiskH aD)) < 0)) (.inr (.inr (.inl rfl))) rfl (F10.ev 17 rfl) rfl (dec_of (by omega))) rfl fun _ F11 => ?_)
 refine s_end (x_normal (x_cond (p := (subOr 1048576 (szDiskH aD)) < 0) (F11.ev 18 rfl) (fun h12 => ?_) (fun h12 => ?_)))
 · skip
   refine wp_seq (wp_region_lit (l_op (f_val F11 rfl rfl (r_assign rfl rfl) rfl fun _ F13 => ?_)))
   refine s_end (x_normal (wp_ret (x_then_ret ?_)))
   refine x_done (v := .bool true) F13 (results_1 Tryz.results3 (.tmp (F13.ev 2 rfl))) ?_
   exact ⟨rfl, (Mv.pick (S1.trans S7) [] rfl)⟩
 · skip
   refine wp_skip (x_normal (wp_seq ?_))
   have hfit := (diskFits (d := aD) (n := 1048576) (z := 1048576) (by decide) ‹_›).1
   have hc := hfit.cnt
   refine wp_region_lit (l_op (f_val (v := .agg #[.slice Q3 Q5 Q4, .string aD.journal.text, .int .i64 aD.journal.sure]) F11 rfl rfl (r_loadB S7.at' 0 TI_26 rfl rfl (F11.ev 1 rfl) rfl rfl (fun h => nomatch h) rfl) rfl fun _ F14 => ?_))
   refine l_op (f_call F14 CF_8 rfl rfl rfl rfl (lc (F14.ev 20 rfl) rfl) (laws_toDisk_c (a := aD) (RdA.mv (Nat.succ_pos _) Q19 (S1.trans S7)) (NRa.mv Q18 (S1.trans S7)) Q20 (by first | assumption | exact ⟨by omega, by omega⟩ | (unfold i64ok at *; omega) | (simp only [i64ok]; omega)) (by exact hfit)) ?_)
   rintro _ w15 ⟨D_15, Q9, Q11, Q10, rfl, m15, Q31, q15_0, q15_1, q15_2⟩
   refine ⟨_, rfl, fun _ F16 => ?_⟩
   have S15 : Mv _ _ [ow 81 3 encSlot okSlot (.slice Q9 Q11 Q10) D_15, gr inSlot D_15, bx b1 [.slice Q3 Q5 Q4, .string aD.journal.text, .int .i64 aD.journal.sure] 26] _ := At.frame S7.at' [] rfl m15
   obtain ⟨Q41, Q51, Q61⟩ := At.ownInv S15.at' ET_31.hk 0 rfl
   clear m15
   refine l_op (f_call F16 CF_7 rfl rfl rfl rfl (lc (F16.ev 21 rfl) rfl) (spec_Recovered_c (H := fun _ => True) (L := (aD.slots.map SlotH.d)) (d := (⟨D_15, aD.journal⟩ : DiskH)) (At.rd S15.at' ET_31.hk 0 rfl) (At.nrd S15.at' 1 rfl) Q31 (by first | assumption | exact ⟨by omega, by omega⟩ | (unfold i64ok at *; omega) | (simp only [i64ok]; omega)) ‹_› (by exact hfit)) ?_)
   rintro _ w17 ⟨Q6, Q8, Q7, rfl, m17⟩
   refine ⟨_, rfl, fun _ F18 => ?_⟩
   have S17 : Mv _ _ [ow 91 2 encC okC (.slice Q6 Q8 Q7) (recC (aD.slots.map SlotH.d) aD.journal), ow 81 3 encSlot okSlot (.slice Q9 Q11 Q10) D_15, gr inSlot D_15, bx b1 [.slice Q3 Q5 Q4, .string aD.journal.text, .int .i64 aD.journal.sure] 26] _ := At.frame S15.at' [] rfl m17
   obtain ⟨Q42, Q52, Q62⟩ := At.ownInv S17.at' ET_28.hk 0 rfl
   clear m17
   refine l_op (f_mv F18 rfl rfl rfl rfl rfl fun _ F19 => ?_)
   refine l_op (f_val (v := .slice Q6 Q8 Q7) F19 rfl rfl (r_extract rfl (F19.ev 19 rfl) rfl) rfl fun _ F20 => ?_)
   refine l_op (f_val (v := .int .i64 (recQ (aD.slots.map SlotH.d) aD.journal)) F20 rfl rfl (r_extract rfl (F20.ev 19 rfl) rfl) rfl fun _ F21 => ?_)
   refine l_op (f_as F21 rfl rfl rfl rfl rfl fun _ F22 => ?_)
   refine l_op (f_as F22 rfl rfl rfl rfl rfl fun _ F23 => ?_)
   refine s_end (x_normal (wp_seq (wp_region_lit (l_op (f_val (v := .agg #[.slice Q3 Q5 Q4, .string aD.journal.text, .int .i64 aD.journal.sure]) F23 rfl rfl (r_loadB S17.at' 3 TI_26 rfl rfl (F23.ev 1 rfl) rfl rfl (fun h => nomatch h) rfl) rfl fun _ F24 => ?_)))))
   refine l_op (f_call F24 CF_8 rfl rfl rfl rfl (lc (F24.ev 25 rfl) rfl) (laws_toDisk_c (a := aD) (RdA.mv (Nat.succ_pos _) Q19 (S1.trans (S7.trans (S15.trans S17)))) (NRa.mv Q18 (S1.trans (S7.trans (S15.trans S17)))) Q20 (by first | assumption | exact ⟨by omega, by omega⟩ | (unfold i64ok at *; omega) | (simp only [i64ok]; omega)) (by exact hfit)) ?_)
   rintro _ w25 ⟨D_25, Q0, Q2, Q1, rfl, m25, Q24, q25_0, q25_1, q25_2⟩
   refine ⟨_, rfl, fun _ F26 => ?_⟩
   have S25 : Mv _ _ [ow 81 3 encSlot okSlot (.slice Q0 Q2 Q1) D_25, gr inSlot D_25, ow 91 2 encC okC (.slice Q6 Q8 Q7) (recC (aD.slots.map SlotH.d) aD.journal), ow 81 3 encSlot okSlot (.slice Q9 Q11 Q10) D_15, gr inSlot D_15, bx b1 [.slice Q3 Q5 Q4, .string aD.journal.text, .int .i64 aD.journal.sure] 26] _ := At.frame S17.at' [] rfl m25
   obtain ⟨Q43, Q53, Q63⟩ := At.ownInv S25.at' ET_31.hk 0 rfl
   clear m25
   refine l_op (f_alloc F26 S25.at' ZI_34 rfl rfl rfl rfl rfl fun b27 _ w27 F28 S27 => ?_)
   refine l_op (s_store S27.at' 0 TI_34 rfl rfl rfl rfl rfl (F28.ev 6 rfl) (F28.ev 26 rfl) rfl rfl rfl rfl rfl fun w29 S29 => ?_)
   have T30 : Mv _ _ [bx b27 [.slice Q0 Q2 Q1, .string aD.journal.text, .int .i64 aD.journal.sure] 34, ow 81 3 encSlot okSlot (.slice Q0 Q2 Q1) D_25, gr inSlot D_25, ow 91 2 encC okC (.slice Q6 Q8 Q7) (recC (aD.slots.map SlotH.d) aD.journal), ow 81 3 encSlot okSlot (.slice Q9 Q11 Q10) D_15, gr inSlot D_15, bx b1 [.slice Q3 Q5 Q4, .string aD.journal.text, .int .i64 aD.journal.sure] 26] _ := S29
   refine s_end (x_normal (wp_seq (wp_region_lit (l_op (f_val (v := .agg #[.slice Q0 Q2 Q1, .string aD.journal.text, .int .i64 aD.journal.sure]) F28 rfl rfl (r_loadB T30.at' 0 TI_34 rfl rfl (F28.ev 6 rfl) rfl rfl (fun h => nomatch h) rfl) rfl fun _ F31 => ?_)))))
   refine l_op (f_call F31 CF_9 rfl rfl rfl rfl (lc (F31.ev 28 rfl) rfl) (impl_Recovered_c (H := fun _ => True) (L := (aD.slots.map SlotH.d)) (d := (⟨D_25, aD.journal⟩ : DiskH)) (At.rd T30.at' ET_31.hk 1 rfl) (At.nrd T30.at' 2 rfl) Q24 (by first | assumption | exact ⟨by omega, by omega⟩ | (unfold i64ok at *; omega) | (simp only [i64ok]; omega)) (Tb.top (Tb.mv V_tab0 (S1.trans (S7.trans (S15.trans (S17.trans (S25.trans (S27.trans T30)))))))) (Tb.top (Tb.mv V_tab1 (S1.trans (S7.trans (S15.trans (S17.trans (S25.trans (S27.trans T30)))))))) (Tb.top (Tb.mv V_tab2 (S1.trans (S7.trans (S15.trans (S17.trans (S25.trans (S27.trans T30)))))))) ‹_› (by exact hfit)) ?_)
   rintro _ w32 ⟨Q12, Q14, Q13, rfl, m32⟩
   refine ⟨_, rfl, fun _ F33 => ?_⟩
   have S32 : Mv _ _ [ow 91 2 encC okC (.slice Q12 Q14 Q13) (recC (aD.slots.map SlotH.d) aD.journal), bx b27 [.slice Q0 Q2 Q1, .string aD.journal.text, .int .i64 aD.journal.sure] 34, ow 81 3 encSlot okSlot (.slice Q0 Q2 Q1) D_25, gr inSlot D_25, ow 91 2 encC okC (.slice Q6 Q8 Q7) (recC (aD.slots.map SlotH.d) aD.journal), ow 81 3 encSlot okSlot (.slice Q9 Q11 Q10) D_15, gr inSlot D_15, bx b1 [.slice Q3 Q5 Q4, .string aD.journal.text, .int .i64 aD.journal.sure] 26] _ := At.frame T30.at' [] rfl m32
   obtain ⟨Q44, Q54, Q64⟩ := At.ownInv S32.at' ET_28.hk 0 rfl
   clear m32
   refine l_op (f_mv F33 rfl rfl rfl rfl rfl fun _ F34 => ?_)
   refine l_op (f_val (v := .slice Q12 Q14 Q13) F34 rfl rfl (r_extract rfl (F34.ev 27 rfl) rfl) rfl fun _ F35 => ?_)
   refine l_op (f_val (v := .int .i64 (recQ (aD.slots.map SlotH.d) aD.journal)) F35 rfl rfl (r_extract rfl (F35.ev 27 rfl) rfl) rfl fun _ F36 => ?_)
   refine l_op (f_as F36 rfl rfl rfl rfl rfl fun _ F37 => ?_)
   refine l_op (f_as F37 rfl rfl rfl rfl rfl fun _ F38 => ?_)
   refine s_end (x_normal (wp_seq (wp_seq (wp_region_lit (l_op (f_mv F38 rfl rfl rfl rfl rfl fun _ F39 => ?_))))))
   refine l_op (f_mv F39 rfl rfl rfl rfl rfl fun _ F40 => ?_)
   refine l_op (f_call F40 CF_10 rfl rfl rfl rfl (lc (F40.ev 32 rfl) (lc (F40.ev 33 rfl) rfl)) (laws_eqCellS_c (H := fun _ => True) (a := recC (aD.slots.map SlotH.d) aD.journal) (b := recC (aD.slots.map SlotH.d) aD.journal) (At.rd S32.at' ET_28.hk 0 rfl) (At.rd S32.at' ET_28.hk 4 rfl) (by rfl)) ?_)
   rintro _ w41 ⟨rfl, m41⟩
   refine ⟨_, rfl, fun _ F42 => ?_⟩
   have S41 := At.frame0 S32.at' m41
   clear m41
   refine l_op (f_val F42 rfl rfl (r_not rfl (F42.ev 34 rfl)) rfl fun _ F43 => ?_)
   refine l_op (f_mv F43 rfl rfl rfl rfl rfl fun _ F44 => ?_)
   refine l_op (f_mv F44 (wanted_g F44 rfl rfl rfl rfl) rfl rfl rfl rfl fun _ F45 => ?_)
   refine l_op (f_mv F45 (wanted_g F45 rfl rfl rfl rfl) rfl rfl rfl rfl fun _ F46 => ?_)
   refine l_op (f_val F46 (wanted_g F46 rfl rfl rfl rfl) rfl (r_cmp (b := false) (.inr (.inl rfl)) rfl (F46.ev 37 rfl) (F46.ev 38 rfl) (cmp_nes _)) rfl fun _ F47 => ?_)
   refine l_op (f_val F47 rfl rfl (r_pick (b := false) rfl (F47.ev 36 rfl) (F47.ev 39 rfl)) rfl fun _ F48 => ?_)
   refine s_end (x_normal (wp_cond_false (F48.ev 40 rfl) (wp_skip (x_normal (wp_seq (wp_seq ?_))))))
   refine x_draw (fun aZ wZ => ∃ (D_53 : List SlotH), ∃ (Q15 : Option Addr), ∃ (Q17 : Nat), ∃ (Q16 : Nat), Fr 96 [(1, .pointer (some ⟨b1, 0, none⟩)), (4, .slice Q6 Q8 Q7), (5, .int .i64 (recQ (aD.slots.map SlotH.d) aD.journal)), (6, .pointer (some ⟨b27, 0, none⟩)), (7, .slice Q12 Q14 Q13), (8, .int .i64 (recQ (aD.slots.map SlotH.d) aD.journal)), (45, .bool false)] aZ ∧ Mv [ow 91 2 encC okC (.slice Q12 Q14 Q13) (recC (aD.slots.map SlotH.d) aD.journal), bx b27 [.slice Q0 Q2 Q1, .string aD.journal.text, .int .i64 aD.journal.sure] 34, ow 81 3 encSlot okSlot (.slice Q0 Q2 Q1) D_25, gr inSlot D_25, ow 91 2 encC okC (.slice Q6 Q8 Q7) (recC (aD.slots.map SlotH.d) aD.journal), ow 81 3 encSlot okSlot (.slice Q9 Q11 Q10) D_15, gr inSlot D_15, bx b1 [.slice Q3 Q5 Q4, .string aD.journal.text, .int .i64 aD.journal.sure] 26] w41 [ow 91 2 encC okC (.slice Q12 Q14 Q13) (recC (aD.slots.map SlotH.d) aD.journal), bx b27 [.slice Q0 Q2 Q1, .string aD.journal.text, .int .i64 aD.journal.sure] 34, ow 81 3 encSlot okSlot (.slice Q0 Q2 Q1) D_25, gr inSlot D_25, ow 91 2 encC okC (.slice Q6 Q8 Q7) (recC (aD.slots.map SlotH.d) aD.journal), ow 81 3 encSlot okSlot (.slice Q9 Q11 Q10) D_15, gr inSlot D_15, bx b1 [.slice Q3 Q5 Q4, .string aD.journal.text, .int .i64 aD.journal.sure] 26, ow 81 3 encSlot okSlot (.slice Q15 Q17 Q16) D_53, gr inSlot D_53] wZ ∧ okS aD.journal.text ∧ (D_53.map SlotH.d = aD.slots.map SlotH.d) ∧ (D_53.length = aD.slots.length) ∧ (i64ok aD.journal.sure)) [bx b27 [.slice Q0 Q2 Q1, .string aD.journal.text, .int .i64 aD.journal.sure] 34, bx b1 [.slice Q3 Q5 Q4, .string aD.journal.text, .int .i64 aD.journal.sure] 26] mixed S41.at' (listed := #[false, false, false, false, false]) rfl (fun w50 S50 => ?_) [1, 7] rfl ?_
   · skip
     refine g_take (v := .agg #[.slice Q0 Q2 Q1, .string aD.journal.text, .int .i64 aD.journal.sure]) F48 rfl (i := 0) (listed' := #[true, false, false, false, false]) rfl (by kernel_rfl) (by kernel_rfl) (by kernel_rfl) (fun _ _ _ h => h) (Sd.of (Mv.refl S50.at') [1, 7] rfl) rfl rfl rfl rfl (fun _ hz => (r_loadX (hz.bx 0 rfl) TI_34 rfl (F48.ev 6 rfl) rfl rfl (fun h => nomatch h) rfl)) fun _ F51 => ?_
     refine g_take (v := .agg #[.slice Q3 Q5 Q4, .string aD.journal.text, .int .i64 aD.journal.sure]) F51 rfl (i := 1) (listed' := #[true, true, false, false, false]) rfl (by kernel_rfl) (by kernel_rfl) (by kernel_rfl) (fun _ _ _ h => h) (Sd.of (Mv.refl S50.at') [1, 7] rfl) rfl rfl rfl rfl (fun _ hz => (r_loadX (hz.bx 1 rfl) TI_26 rfl (F51.ev 1 rfl) rfl rfl (fun h => nomatch h) rfl)) fun _ F52 => ?_
     refine d_one (i := 2) (listed' := #[true, true, true, false, false]) rfl (by kernel_rfl) rfl rfl ?_
     refine f_call F52 CF_8 rfl rfl rfl rfl (lc (F52.ev 42 rfl) rfl) (laws_toDisk_c (a := aD) (RdA.mv (Nat.succ_pos _) Q19 (S1.trans (S7.trans (S15.trans (S17.trans (S25.trans (S27.trans (T30.trans (S32.trans (S41.trans S50)))))))))) (NRa.mv Q18 (S1.trans (S7.trans (S15.trans (S17.trans (S25.trans (S27.trans (T30.trans (S32.trans (S41.trans S50)))))))))) Q20 (by first | assumption | exact ⟨by omega, by omega⟩ | (unfold i64ok at *; omega) | (simp only [i64ok]; omega)) (by exact hfit)) ?_
     rintro _ w53 ⟨D_53, Q15, Q17, Q16, rfl, m53, Q32, q53_0, q53_1, q53_2⟩
     refine ⟨_, rfl, fun _ F54 => ?_⟩
     have S53 : Mv _ _ [ow 81 3 encSlot okSlot (.slice Q15 Q17 Q16) D_53, gr inSlot D_53, ow 91 2 encC okC (.slice Q12 Q14 Q13) (recC (aD.slots.map SlotH.d) aD.journal), bx b27 [.slice Q0 Q2 Q1, .string aD.journal.text, .int .i64 aD.journal.sure] 34, ow 81 3 encSlot okSlot (.slice Q0 Q2 Q1) D_25, gr inSlot D_25, ow 91 2 encC okC (.slice Q6 Q8 Q7) (recC (aD.slots.map SlotH.d) aD.journal), ow 81 3 encSlot okSlot (.slice Q9 Q11 Q10) D_15, gr inSlot D_15, bx b1 [.slice Q3 Q5 Q4, .string aD.journal.text, .int .i64 aD.journal.sure] 26] _ := At.frame S50.at' [] rfl m53
     obtain ⟨Q45, Q55, Q65⟩ := At.ownInv S53.at' ET_31.hk 0 rfl
     clear m53
     refine ⟨Sd.of S53 [3, 9] rfl, ?_⟩
     refine d_one (i := 3) (listed' := #[true, true, true, true, false]) rfl (by kernel_rfl) rfl rfl ?_
     refine f_call F54 CF_11 rfl rfl rfl rfl (lc (F54.ev 41 rfl) (lc (F54.ev 43 rfl) rfl)) (laws_eqDisk_c (H := fun _ => True) (a := (⟨D_25, aD.journal⟩ : DiskH)) (b := (⟨D_53, aD.journal⟩ : DiskH)) (At.rd S53.at' ET_31.hk 4 rfl) (At.nrd S53.at' 5 rfl) Q24 (by first | assumption | exact ⟨by omega, by omega⟩ | (unfold i64ok at *; omega) | (simp only [i64ok]; omega)) (At.rd S53.at' ET_31.hk 0 rfl) (At.nrd S53.at' 1 rfl) Q32 (by first | assumption | exact ⟨by omega, by omega⟩ | (unfold i64ok at *; omega) | (simp only [i64ok]; omega)) (by exact (same2 ‹_› ‹_›)) (by rfl)) ?_
     rintro _ w55 ⟨rfl, m55⟩
     refine ⟨_, rfl, fun _ F56 => ?_⟩
     have S55 := At.frame0 S53.at' m55
     clear m55
     refine ⟨Sd.of (S53.trans S55) [3, 9] rfl, ?_⟩
     refine g_take F56 rfl (i := 4) (listed' := #[true, true, true, true, true]) rfl (by kernel_rfl) (by kernel_rfl) (by kernel_rfl) (fun _ _ _ h => h) (Sd.of (S53.trans S55) [3, 9] rfl) rfl rfl rfl rfl (fun _ hz => (r_not rfl (F56.ev 44 rfl))) fun _ F57 => ?_
     refine wpAnyH_done (by kernel_rfl) (x_normal ?_) _
     exact ⟨D_53, Q15, Q17, Q16, F57.cut rfl, ((S50.trans (S53.trans S55)).pick [2, 3, 4, 5, 6, 7, 8, 9, 0, 1] rfl), Q24, q53_0, q53_1, q53_2⟩
   · rintro a58 w58 ⟨D_53, Q15, Q17, Q16, F58, S58, Q28, Q35, Q36, Q37⟩
     obtain ⟨Q46, Q56, Q66⟩ := At.ownInv S58.at' ET_31.hk 8 rfl
     refine x_normal (wp_cond_false (F58.ev 45 rfl) (wp_skip (x_normal (wp_seq (wp_region_lit (l_op (f_val F58 rfl rfl (r_assign rfl rfl) rfl fun _ F59 => ?_)))))))
     refine s_end (x_normal (wp_seq (wp_region_lit (l_op (f_val (v := .agg #[.slice Q0 Q2 Q1, .string aD.journal.text, .int .i64 aD.journal.sure]) F59 rfl rfl (r_loadB S58.at' 1 TI_34 rfl rfl (F59.ev 6 rfl) rfl rfl (fun h => nomatch h) rfl) rfl fun _ F60 => ?_)))))
     refine l_op (f_mv F60 rfl rfl rfl rfl rfl fun _ F61 => ?_)
     refine l_op (f_call F61 CF_12 rfl rfl rfl rfl (lc (F61.ev 46 rfl) (lc (F61.ev 47 rfl) rfl)) (laws_markDisk_c (H := fun _ => True) (L := (aD.slots.map SlotH.d)) (a := (⟨D_25, aD.journal⟩ : DiskH)) (k := 1) Q28 (by first | assumption | exact ⟨by omega, by omega⟩ | (unfold i64ok at *; omega) | (simp only [i64ok]; omega)) ⟨by omega, by first | omega | (unfold i64ok at *; omega)⟩ ‹_› (by first | assumption | omega | (simp <;> omega)) (by first | assumption | omega | (simp <;> omega)) (At.pick (is := [2, 3]) S58.at' rfl)) ?_)
     rintro _ w62 ⟨D_62, rfl, m62, q62_0⟩
     refine ⟨_, rfl, fun _ F63 => ?_⟩
     have S62 : Mv _ _ [ow 81 3 encSlot okSlot (.slice Q0 Q2 Q1) D_62, gr inSlot D_62, ow 91 2 encC okC (.slice Q12 Q14 Q13) (recC (aD.slots.map SlotH.d) aD.journal), bx b27 [.slice Q0 Q2 Q1, .string aD.journal.text, .int .i64 aD.journal.sure] 34, ow 91 2 encC okC (.slice Q6 Q8 Q7) (recC (aD.slots.map SlotH.d) aD.journal), ow 81 3 encSlot okSlot (.slice Q9 Q11 Q10) D_15, gr inSlot D_15, bx b1 [.slice Q3 Q5 Q4, .string aD.journal.text, .int .i64 aD.journal.sure] 26, ow 81 3 encSlot okSlot (.slice Q15 Q17 Q16) D_53, gr inSlot D_53] _ := At.frame S58.at' [2, 3] rfl m62
     obtain ⟨Q47, Q57, Q67⟩ := At.ownInv S62.at' ET_31.hk 0 rfl
     clear m62
     refine l_op (f_as F63 rfl rfl rfl rfl rfl fun _ F64 => ?_)
     refine s_end (x_normal (wp_seq (wp_seq (wp_region_lit (l_op (f_mv F64 rfl rfl rfl rfl rfl fun _ F65 => ?_))))))
     refine l_op (f_val F65 rfl rfl (r_cmp (b := false) (.inr (.inr (.inl rfl))) rfl (F65.ev 49 rfl) rfl (cmp_lt0 _ _ (by omega))) rfl fun _ F66 => ?_)
     refine l_op (f_mv F66 rfl rfl rfl rfl rfl fun _ F67 => ?_)
     refine l_op (f_mv F67 (wanted_g F67 rfl rfl rfl rfl) rfl rfl rfl rfl fun _ F68 => ?_)
     refine l_op (f_mv F68 (wanted_g F68 rfl rfl rfl rfl) rfl rfl rfl rfl fun _ F69 => ?_)
     refine l_op (f_call F69 CF_10 (wanted_g F69 rfl rfl rfl rfl) rfl rfl rfl (lc (F69.ev 52 rfl) (lc (F69.ev 53 rfl) rfl)) (laws_eqCellS_c (H := fun _ => True) (a := recC (aD.slots.map SlotH.d) aD.journal) (b := recC (aD.slots.map SlotH.d) aD.journal) (At.rd S62.at' ET_28.hk 2 rfl) (At.rd S62.at' ET_28.hk 4 rfl) (by rfl)) ?_)
     rintro _ w70 ⟨rfl, m70⟩
     refine ⟨_, rfl, fun _ F71 => ?_⟩
     have S70 := At.frame0 S62.at' m70
     clear m70
     refine l_op (f_val F71 (wanted_g F71 rfl rfl rfl rfl) rfl (r_not rfl (F71.ev 54 rfl)) rfl fun _ F72 => ?_)
     refine l_op (f_val F72 rfl rfl (r_pick (b := false) rfl (F72.ev 51 rfl) (F72.ev 55 rfl)) rfl fun _ F73 => ?_)
     refine l_op (f_mv F73 rfl rfl rfl rfl rfl fun _ F74 => ?_)
     refine l_op (f_mv F74 (wanted_g F74 rfl rfl rfl rfl) rfl rfl rfl rfl fun _ F75 => ?_)
     refine l_op (f_mv F75 (wanted_g F75 rfl rfl rfl rfl) rfl rfl rfl rfl fun _ F76 => ?_)
     refine l_op (f_val F76 (wanted_g F76 rfl rfl rfl rfl) rfl (r_cmp (b := false) (.inr (.inl rfl)) rfl (F76.ev 58 rfl) (F76.ev 59 rfl) (cmp_nes _)) rfl fun _ F77 => ?_)
     refine l_op (f_val F77 rfl rfl (r_pick (b := false) rfl (F77.ev 57 rfl) (F77.ev 60 rfl)) rfl fun _ F78 => ?_)
     have T79 : Mv _ _ [ow 81 3 encSlot okSlot (.slice Q0 Q2 Q1) D_62, gr inSlot D_62, ow 91 2 encC okC (.slice Q12 Q14 Q13) (recC (aD.slots.map SlotH.d) aD.journal), bx b27 [.slice Q0 Q2 Q1, .string aD.journal.text, .int .i64 aD.journal.sure] 34, ow 91 2 encC okC (.slice Q6 Q8 Q7) (recC (aD.slots.map SlotH.d) aD.journal), ow 81 3 encSlot okSlot (.slice Q9 Q11 Q10) D_15, gr inSlot D_15, bx b1 [.slice Q3 Q5 Q4, .string aD.journal.text, .int .i64 aD.journal.sure] 26, ow 81 3 encSlot okSlot (.slice Q15 Q17 Q16) D_53, gr inSlot D_53] _ := S70
     refine s_end (x_normal (wp_cond_false (F78.ev 61 rfl) (wp_skip (x_normal (wp_seq (wp_region_lit (l_op (f_val F78 rfl rfl (r_assign rfl rfl) rfl fun _ F80 => ?_))))))))
     refine s_end (x_normal (wp_seq (wp_region_lit (l_op (f_mv F80 rfl rfl rfl rfl rfl fun _ F81 => ?_)))))
     refine l_op (f_mv F81 rfl rfl rfl rfl rfl fun _ F82 => ?_)
     refine l_op (f_call F82 CF_13 rfl rfl rfl rfl (lc (F82.ev 62 rfl) (lc (F82.ev 63 rfl) rfl)) (laws_markCellS_c (H := fun _ => True) (a := recC (aD.slots.map SlotH.d) aD.journal) (k := 1) ⟨by omega, by first | omega | (unfold i64ok at *; omega)⟩ (by have := recC_len (j := aD.journal) hfit; omega) (At.pick (is := [2]) T79.at' rfl)) ?_)
     rintro _ w83 ⟨rfl, m83⟩
     refine ⟨_, rfl, fun _ F84 => ?_⟩
     have S83 : Mv _ _ [ow 91 2 encC okC (.slice Q12 Q14 Q13) (marksC 1 (recC (aD.slots.map SlotH.d) aD.journal).length), ow 81 3 encSlot okSlot (.slice Q0 Q2 Q1) D_62, gr inSlot D_62, bx b27 [.slice Q0 Q2 Q1, .string aD.journal.text, .int .i64 aD.journal.sure] 34, ow 91 2 encC okC (.slice Q6 Q8 Q7) (recC (aD.slots.map SlotH.d) aD.journal), ow 81 3 encSlot okSlot (.slice Q9 Q11 Q10) D_15, gr inSlot D_15, bx b1 [.slice Q3 Q5 Q4, .string aD.journal.text, .int .i64 aD.journal.sure] 26, ow 81 3 encSlot okSlot (.slice Q15 Q17 Q16) D_53, gr inSlot D_53] _ := At.frame T79.at' [2] rfl m83
     obtain ⟨Q48, Q58, Q68⟩ := At.ownInv S83.at' ET_28.hk 0 rfl
     clear m83
     refine l_op (f_as F84 rfl rfl rfl rfl rfl fun _ F85 => ?_)
     refine s_end (x_normal (wp_seq (wp_region_lit (l_op (f_val F85 rfl rfl (r_assign rfl rfl) rfl fun _ F86 => ?_)))))
     refine s_end (x_normal (wp_seq (wp_region_lit (l_op (f_mv F86 rfl rfl rfl rfl rfl fun _ F87 => ?_)))))
     refine l_op (f_mv F87 rfl rfl rfl rfl rfl fun _ F88 => ?_)
     refine l_op (f_call F88 CF_14 rfl rfl rfl rfl (lc (F88.ev 65 rfl) (lc (F88.ev 66 rfl) rfl)) (laws_heldCellS_c (H := fun _ => True) (n := (recC (aD.slots.map SlotH.d) aD.journal).length) (a := marksC 1 (recC (aD.slots.map SlotH.d) aD.journal).length) (k := 1) (At.rd S83.at' ET_28.hk 0 rfl) ⟨by omega, by first | omega | (unfold i64ok at *; omega)⟩ (by rfl) (by have := recC_len (j := aD.journal) hfit; omega)) ?_)
     rintro _ w89 ⟨rfl, m89⟩
     refine ⟨_, rfl, fun _ F90 => ?_⟩
     have S89 := At.frame0 S83.at' m89
     clear m89
     refine l_op (f_as F90 rfl rfl rfl rfl rfl fun _ F91 => ?_)
     refine s_end (x_normal (wp_seq (wp_seq (wp_region_lit (l_op (f_mv F91 rfl rfl rfl rfl rfl fun _ F92 => ?_))))))
     refine l_op (f_val F92 rfl rfl (r_cmp (b := false) (.inr (.inr (.inl rfl))) rfl (F92.ev 68 rfl) rfl (cmp_lt0 _ _ (by omega))) rfl fun _ F93 => ?_)
     refine s_end (x_normal (wp_cond_false (F93.ev 69 rfl) (wp_skip (x_normal (wp_seq (wp_seq (wp_region_lit (l_op (f_mv F93 rfl rfl rfl rfl rfl fun _ F94 => ?_)))))))))
     refine l_op (f_mv F94 rfl rfl rfl rfl rfl fun _ F95 => ?_)
     refine l_op (f_val F95 rfl rfl (r_cmp (b := false) (.inr (.inl rfl)) rfl (F95.ev 70 rfl) (F95.ev 71 rfl) (cmp_nes _)) rfl fun _ F96 => ?_)
     refine s_end (x_normal (wp_cond_false (F96.ev 72 rfl) (wp_skip (x_normal (wp_seq (wp_region_lit (l_op (f_val (v := .agg #[.slice Q3 Q5 Q4, .string aD.journal.text, .int .i64 aD.journal.sure]) F96 rfl rfl (r_loadB S89.at' 7 TI_26 rfl rfl (F96.ev 1 rfl) rfl rfl (fun h => nomatch h) rfl) rfl fun _ F97 => ?_))))))))
     refine l_op (f_call F97 CF_8 rfl rfl rfl rfl (lc (F97.ev 74 rfl) rfl) (laws_toDisk_c (a := aD) (RdA.mv (Nat.succ_pos _) Q19 (S1.trans (S7.trans (S15.trans (S17.trans (S25.trans (S27.trans (T30.trans (S32.trans (S41.trans (S58.trans (S62.trans (T79.trans (S83.trans S89)))))))))))))) (NRa.mv Q18 (S1.trans (S7.trans (S15.trans (S17.trans (S25.trans (S27.trans (T30.trans (S32.trans (S41.trans (S58.trans (S62.trans (T79.trans (S83.trans S89)))))))))))))) Q28 (by first | assumption | exact ⟨by omega, by omega⟩ | (unfold i64ok at *; omega) | (simp only [i64ok]; omega)) (by exact hfit)) ?_)
     rintro _ w98 ⟨D_98, Q25, Q27, Q26, rfl, m98, Q33, q98_0, q98_1, q98_2⟩
     refine ⟨_, rfl, fun _ F99 => ?_⟩
     have S98 : Mv _ _ [ow 81 3 encSlot okSlot (.slice Q25 Q27 Q26) D_98, gr inSlot D_98, ow 91 2 encC okC (.slice Q12 Q14 Q13) (marksC 1 (recC (aD.slots.map SlotH.d) aD.journal).length), ow 81 3 encSlot okSlot (.slice Q0 Q2 Q1) D_62, gr inSlot D_62, bx b27 [.slice Q0 Q2 Q1, .string aD.journal.text, .int .i64 aD.journal.sure] 34, ow 91 2 encC okC (.slice Q6 Q8 Q7) (recC (aD.slots.map SlotH.d) aD.journal), ow 81 3 encSlot okSlot (.slice Q9 Q11 Q10) D_15, gr inSlot D_15, bx b1 [.slice Q3 Q5 Q4, .string aD.journal.text, .int .i64 aD.journal.sure] 26, ow 81 3 encSlot okSlot (.slice Q15 Q17 Q16) D_53, gr inSlot D_53] _ := At.frame S89.at' [] rfl m98
     obtain ⟨Q49, Q59, Q69⟩ := At.ownInv S98.at' ET_31.hk 0 rfl
     clear m98
     refine l_op (f_call F99 CF_9 rfl rfl rfl rfl (lc (F99.ev 75 rfl) rfl) (impl_Recovered_c (H := fun _ => True) (L := (aD.slots.map SlotH.d)) (d := (⟨D_98, aD.journal⟩ : DiskH)) (At.rd S98.at' ET_31.hk 0 rfl) (At.nrd S98.at' 1 rfl) Q33 (by first | assumption | exact ⟨by omega, by omega⟩ | (unfold i64ok at *; omega) | (simp only [i64ok]; omega)) (Tb.top (Tb.mv V_tab0 (S1.trans (S7.trans (S15.trans (S17.trans (S25.trans (S27.trans (T30.trans (S32.trans (S41.trans (S58.trans (S62.trans (T79.trans (S83.trans (S89.trans S98)))))))))))))))) (Tb.top (Tb.mv V_tab1 (S1.trans (S7.trans (S15.trans (S17.trans (S25.trans (S27.trans (T30.trans (S32.trans (S41.trans (S58.trans (S62.trans (T79.trans (S83.trans (S89.trans S98)))))))))))))))) (Tb.top (Tb.mv V_tab2 (S1.trans (S7.trans (S15.trans (S17.trans (S25.trans (S27.trans (T30.trans (S32.trans (S41.trans (S58.trans (S62.trans (T79.trans (S83.trans (S89.trans S98)))))))))))))))) ‹_› (by exact hfit)) ?_)
     rintro _ w100 ⟨Q21, Q23, Q22, rfl, m100⟩
     refine ⟨_, rfl, fun _ F101 => ?_⟩
     have S100 : Mv _ _ [ow 91 2 encC okC (.slice Q21 Q23 Q22) (recC (aD.slots.map SlotH.d) aD.journal), ow 81 3 encSlot okSlot (.slice Q25 Q27 Q26) D_98, gr inSlot D_98, ow 91 2 encC okC (.slice Q12 Q14 Q13) (marksC 1 (recC (aD.slots.map SlotH.d) aD.journal).length), ow 81 3 encSlot okSlot (.slice Q0 Q2 Q1) D_62, gr inSlot D_62, bx b27 [.slice Q0 Q2 Q1, .string aD.journal.text, .int .i64 aD.journal.sure] 34, ow 91 2 encC okC (.slice Q6 Q8 Q7) (recC (aD.slots.map SlotH.d) aD.journal), ow 81 3 encSlot okSlot (.slice Q9 Q11 Q10) D_15, gr inSlot D_15, bx b1 [.slice Q3 Q5 Q4, .string aD.journal.text, .int .i64 aD.journal.sure] 26, ow 81 3 encSlot okSlot (.slice Q15 Q17 Q16) D_53, gr inSlot D_53] _ := At.frame S98.at' [] rfl m100
     obtain ⟨Q40, Q50, Q60⟩ := At.ownInv S100.at' ET_28.hk 0 rfl
     clear m100
     refine l_op (f_mv F101 rfl rfl rfl rfl rfl fun _ F102 => ?_)
     refine l_op (f_val (v := .slice Q21 Q23 Q22) F102 rfl rfl (r_extract rfl (F102.ev 73 rfl) rfl) rfl fun _ F103 => ?_)
     refine l_op (f_val (v := .int .i64 (recQ (aD.slots.map SlotH.d) aD.journal)) F103 rfl rfl (r_extract rfl (F103.ev 73 rfl) rfl) rfl fun _ F104 => ?_)
     refine l_op (f_as F104 rfl rfl rfl rfl rfl fun _ F105 => ?_)
     refine l_op (f_as F105 rfl rfl rfl rfl rfl fun _ F106 => ?_)
     have F107 : Fr 96 [(13, .int .i64 (recQ (aD.slots.map SlotH.d) aD.journal)), (12, .slice Q21 Q23 Q22), (10, .int .i64 ((1 + 2 * (recC (aD.slots.map SlotH.d) aD.journal).length : Nat) : Int)), (4, .slice Q6 Q8 Q7), (5, .int .i64 (recQ (aD.slots.map SlotH.d) aD.journal)), (7, .slice Q12 Q14 Q13)] _ := F106.cut rfl
     clear F58 F59 F60 F61 F63 F64 F65 F66 F67 F68 F69 F71 F72 F73 F74 F75 F76 F77 F78 F80 F81 F82 F84 F85 F86 F87 F88 F90 F91 F92 F93 F94 F95 F96 F97 F99 F101 F102 F103 F104 F105 F106
     refine s_end (x_normal (wp_seq (wp_seq (wp_region_lit (l_op (f_mv F107 rfl rfl rfl rfl rfl fun _ F108 => ?_))))))
     refine l_op (f_mv F108 rfl rfl rfl rfl rfl fun _ F109 => ?_)
     refine l_op (f_call F109 CF_10 rfl rfl rfl rfl (lc (F109.ev 79 rfl) (lc (F109.ev 80 rfl) rfl)) (laws_eqCellS_c (H := fun _ => True) (a := recC (aD.slots.map SlotH.d) aD.journal) (b := recC (aD.slots.map SlotH.d) aD.journal) (At.rd S100.at' ET_28.hk 0 rfl) (At.rd S100.at' ET_28.hk 7 rfl) (by rfl)) ?_)
     rintro _ w110 ⟨rfl, m110⟩
     refine ⟨_, rfl, fun _ F111 => ?_⟩
     have S110 := At.frame0 S100.at' m110
     clear m110
     refine l_op (f_val F111 rfl rfl (r_not rfl (F111.ev 81 rfl)) rfl fun _ F112 => ?_)
     refine l_op (f_mv F112 rfl rfl rfl rfl rfl fun _ F113 => ?_)
     refine l_op (f_mv F113 (wanted_g F113 rfl rfl rfl rfl) rfl rfl rfl rfl fun _ F114 => ?_)
     refine l_op (f_mv F114 (wanted_g F114 rfl rfl rfl rfl) rfl rfl rfl rfl fun _ F115 => ?_)
     refine l_op (f_val F115 (wanted_g F115 rfl rfl rfl rfl) rfl (r_cmp (b := false) (.inr (.inl rfl)) rfl (F115.ev 84 rfl) (F115.ev 85 rfl) (cmp_nes _)) rfl fun _ F116 => ?_)
     refine l_op (f_val F116 rfl rfl (r_pick (b := false) rfl (F116.ev 83 rfl) (F116.ev 86 rfl)) rfl fun _ F117 => ?_)
     have T118 : Mv _ _ [ow 91 2 encC okC (.slice Q21 Q23 Q22) (recC (aD.slots.map SlotH.d) aD.journal), ow 81 3 encSlot okSlot (.slice Q25 Q27 Q26) D_98, gr inSlot D_98, ow 91 2 encC okC (.slice Q12 Q14 Q13) (marksC 1 (recC (aD.slots.map SlotH.d) aD.journal).length), ow 81 3 encSlot okSlot (.slice Q0 Q2 Q1) D_62, gr inSlot D_62, bx b27 [.slice Q0 Q2 Q1, .string aD.journal.text, .int .i64 aD.journal.sure] 34, ow 91 2 encC okC (.slice Q6 Q8 Q7) (recC (aD.slots.map SlotH.d) aD.journal), ow 81 3 encSlot okSlot (.slice Q9 Q11 Q10) D_15, gr inSlot D_15, bx b1 [.slice Q3 Q5 Q4, .string aD.journal.text, .int .i64 aD.journal.sure] 26, ow 81 3 encSlot okSlot (.slice Q15 Q17 Q16) D_53, gr inSlot D_53] _ := S110
     refine s_end (x_normal (wp_cond_false (F117.ev 87 rfl) (wp_skip (x_normal (wp_seq (wp_region_lit (l_op (f_val F117 rfl rfl (r_assign rfl rfl) rfl fun _ F119 => ?_))))))))
     refine s_end (x_normal (wp_seq (wp_region_lit (l_op (f_mv F119 rfl rfl rfl rfl rfl fun _ F120 => ?_)))))
     refine l_op (f_mv F120 rfl rfl rfl rfl rfl fun _ F121 => ?_)
     refine l_op (f_call F121 CF_14 rfl rfl rfl rfl (lc (F121.ev 88 rfl) (lc (F121.ev 89 rfl) rfl)) (laws_heldCellS_c (H := fun _ => True) (n := (recC (aD.slots.map SlotH.d) aD.journal).length) (a := marksC 1 (recC (aD.slots.map SlotH.d) aD.journal).length) (k := 1) (At.rd T118.at' ET_28.hk 3 rfl) ⟨by omega, by first | omega | (unfold i64ok at *; omega)⟩ (by rfl) (by have := recC_len (j := aD.journal) hfit; omega)) ?_)
     rintro _ w122 ⟨rfl, m122⟩
     refine ⟨_, rfl, fun _ F123 => ?_⟩
     have S122 := At.frame0 T118.at' m122
     clear m122
     refine l_op (f_as F123 rfl rfl rfl rfl rfl fun _ F124 => ?_)
     refine s_end (x_normal (wp_seq (wp_seq (wp_region_lit (l_op (f_mv F124 rfl rfl rfl rfl rfl fun _ F125 => ?_))))))
     refine l_op (f_val F125 rfl rfl (r_cmp (b := false) (.inr (.inr (.inl rfl))) rfl (F125.ev 91 rfl) rfl (cmp_lt0 _ _ (by omega))) rfl fun _ F126 => ?_)
     refine s_end (x_normal (wp_cond_false (F126.ev 92 rfl) (wp_skip (x_normal (wp_seq (wp_seq (wp_region_lit (l_op (f_mv F126 rfl rfl rfl rfl rfl fun _ F127 => ?_)))))))))
     refine l_op (f_mv F127 rfl rfl rfl rfl rfl fun _ F128 => ?_)
     refine l_op (f_val F128 rfl rfl (r_cmp (b := false) (.inr (.inl rfl)) rfl (F128.ev 93 rfl) (F128.ev 94 rfl) (cmp_nes _)) rfl fun _ F129 => ?_)
     refine s_end (x_normal (wp_cond_false (F129.ev 95 rfl) (wp_skip (x_normal (wp_seq (wp_region_lit (l_op (f_val F129 rfl rfl (r_assign rfl rfl) rfl fun _ F130 => ?_))))))))
     refine s_end (x_normal (wp_ret ?_))
     refine x_done (v := .bool true) F130 (results_1 Tryz.results3 (.tmp (F130.ev 2 rfl))) ?_
     exact ⟨rfl, (Mv.pick (S1.trans (S7.trans (S15.trans (S17.trans (S25.trans (S27.trans (T30.trans (S32.trans (S41.trans (S58.trans (S62.trans (T79.trans (S83.trans (S89.trans (S98.trans (S100.trans (T118.trans S122))))))))))))))))) [] rfl)⟩
end Go.Proofs.YtipdbeklopjbmaaGreatDoor
namespace Go.Proofs.YtipdbeklopjbmaaGreatDoor.recovered
open Go.ChangeShapes Go.WideShapes Go.ChangeAt Go.RowKit
set_option maxRecDepth 100000
theorem cells_3 : Tryz.prog.cellsOf 3 = 1 := by kernel_rfl
theorem cells_4 : Tryz.prog.cellsOf 4 = 1 := by kernel_rfl
theorem cells_9 : Tryz.prog.cellsOf 9 = 1 := by kernel_rfl
theorem cells_22 : Tryz.prog.cellsOf 22 = 1 := by kernel_rfl
theorem cells_24 : Tryz.prog.cellsOf 24 = 2 := by kernel_rfl
theorem cells_26 : Tryz.prog.cellsOf 26 = 3 := by kernel_rfl
theorem cells_41 : Tryz.prog.cellsOf 41 = 1 := by kernel_rfl
theorem cells_99 : Tryz.prog.cellsOf 99 = 2 := by kernel_rfl
theorem cells_126 : Tryz.prog.cellsOf 126 = 3 := by kernel_rfl
theorem starE : "*" ++ "errors.errorString" = "*errors.errorString" := by decide
theorem rowE (u : TypeId) (h : Tryz.prog.typeName? 3 u = some "*errors.errorString") : u = 363 :=
  typeName_ptr_named (nm := "errors.errorString") (by rw [starE]; kernel_rfl) (by kernel_rfl) (by decide) u (by rw [starE]; exact h)
theorem cellsE : Tryz.prog.cellsOf 365 = 1 := by kernel_rfl
theorem ground0 {W : World} (h : laidMet Tryz.prog [("math/bits.deBruijn32tab", Rows.laid_math_bits_deBruijn32tab), ("math/bits.deBruijn64tab", Rows.laid_math_bits_deBruijn64tab), ("internal/strconv.uint64pow10", Rows.laid_internal_strconv_uint64pow10), ("unicode/utf8.acceptRanges", Rows.laid_unicode_utf8_acceptRanges), ("strconv.ErrRange", Rows.laid_strconv_ErrRange), ("strconv.ErrSyntax", Rows.laid_strconv_ErrSyntax), ("encoding/hex.ErrLength", Rows.laid_encoding_hex_ErrLength), ("unicode/utf8.first", Rows.laid_unicode_utf8_first)] W) : Tb 0 (fun _ => True) W := by
  have e : (Rows.laid_internal_strconv_uint64pow10 : DataW Unit) = Lib.tabData .u64 Lib.pow10Tab := by kernel_rfl
  have h2 : laidMet Tryz.prog (("internal/strconv.uint64pow10", Lib.tabData .u64 Lib.pow10Tab) :: [("unicode/utf8.acceptRanges", Rows.laid_unicode_utf8_acceptRanges), ("strconv.ErrRange", Rows.laid_strconv_ErrRange), ("strconv.ErrSyntax", Rows.laid_strconv_ErrSyntax), ("encoding/hex.ErrLength", Rows.laid_encoding_hex_ErrLength), ("unicode/utf8.first", Rows.laid_unicode_utf8_first)]) W := by rw [← e]; exact h.tail.tail
  have h3 : Lib.TabIs Tryz.prog W "internal/strconv.uint64pow10" .u64 Lib.pow10Tab := Lib.tabIs_of_head laysItoa.m17 (t := 367) (e := 331) (n := 20) (by kernel_rfl) Tryz.underlying367 Tryz.underlying331 (by kernel_rfl) (by kernel_rfl) h2
  exact ⟨h3, fun g hg => by rw [List.mem_singleton.1 hg]; exact ⟨trivial, Lib.lt_of_cell (h3.cell laysItoa.m17 0 (by decide))⟩⟩
theorem ground1 {W : World} (h : laidMet Tryz.prog [("math/bits.deBruijn32tab", Rows.laid_math_bits_deBruijn32tab), ("math/bits.deBruijn64tab", Rows.laid_math_bits_deBruijn64tab), ("internal/strconv.uint64pow10", Rows.laid_internal_strconv_uint64pow10), ("unicode/utf8.acceptRanges", Rows.laid_unicode_utf8_acceptRanges), ("strconv.ErrRange", Rows.laid_strconv_ErrRange), ("strconv.ErrSyntax", Rows.laid_strconv_ErrSyntax), ("encoding/hex.ErrLength", Rows.laid_encoding_hex_ErrLength), ("unicode/utf8.first", Rows.laid_unicode_utf8_first)] W) : Tb 1 (fun _ => True) W := by
  have gS : Tryz.prog.globalNamed "strconv.ErrSyntax" = some (laysAtoi_ren.g 15) := by kernel_rfl
  obtain ⟨aS, sS, vS, -, -, -⟩ := laid_sentinel (h.tail.tail.tail.tail.tail) gS (ti := 197) (by kernel_rfl) Tryz.underlying197 rowE Tryz.underlying363 Tryz.underlying365 rfl rfl Tryz.underlying9 cellsE cells_9
  have cS := var_cell gS vS
  have gR : Tryz.prog.globalNamed "strconv.ErrRange" = some (laysAtoi_ren.g 16) := by kernel_rfl
  obtain ⟨aR, sR, vR, -, -, -⟩ := laid_sentinel (h.tail.tail.tail.tail) gR (ti := 197) (by kernel_rfl) Tryz.underlying197 rowE Tryz.underlying363 Tryz.underlying365 rfl rfl Tryz.underlying9 cellsE cells_9
  have cR := var_cell gR vR
  exact ⟨⟨⟨_, cS, .inr ⟨_, _, rfl⟩⟩, ⟨_, cR, .inr ⟨_, _, rfl⟩⟩⟩, fun g hg => by
    rcases List.mem_cons.1 hg with e | hg
    · rw [e]; exact ⟨trivial, Lib.lt_of_cell cS⟩
    · rw [List.mem_singleton.1 hg]; exact ⟨trivial, Lib.lt_of_cell cR⟩⟩
theorem ground2 {W : World} (h : laidMet Tryz.prog [("math/bits.deBruijn32tab", Rows.laid_math_bits_deBruijn32tab), ("math/bits.deBruijn64tab", Rows.laid_math_bits_deBruijn64tab), ("internal/strconv.uint64pow10", Rows.laid_internal_strconv_uint64pow10), ("unicode/utf8.acceptRanges", Rows.laid_unicode_utf8_acceptRanges), ("strconv.ErrRange", Rows.laid_strconv_ErrRange), ("strconv.ErrSyntax", Rows.laid_strconv_ErrSyntax), ("encoding/hex.ErrLength", Rows.laid_encoding_hex_ErrLength), ("unicode/utf8.first", Rows.laid_unicode_utf8_first)] W) : Tb 2 (fun _ => True) W := by
  have gH : Tryz.prog.globalNamed "encoding/hex.ErrLength" = some (laysUnhex_ren.g 0) := by kernel_rfl
  obtain ⟨aH, sH, vH, -, -, -⟩ := laid_sentinel (h.tail.tail.tail.tail.tail.tail) gH (ti := 197) (by kernel_rfl) Tryz.underlying197 rowE Tryz.underlying363 Tryz.underlying365 rfl rfl Tryz.underlying9 cellsE cells_9
  have cH := var_cell gH vH
  exact ⟨⟨_, cH, .inr ⟨_, _, rfl⟩⟩, fun g hg => by rw [List.mem_singleton.1 hg]; exact ⟨trivial, Lib.lt_of_cell cH⟩⟩
theorem called (W : World) (args : Array Value) (h : ArgsRead Tryz.prog W Tryz.f3.params.toList args.toList) (t0 : Tb 0 (fun _ => True) W) (t1 : Tb 1 (fun _ => True) W) (t2 : Tb 2 (fun _ => True) W) : Calls Tryz.prog 3 args W fun e W' => e = .returned (.bool true) ∧ Bl W W' := by
  obtain ⟨hl, h⟩ := h
  rw [Tryz.params3] at hl h
  obtain ⟨v0, rfl⟩ : ∃ v0, args = #[v0] := by
    obtain ⟨l⟩ := args
    match l, hl with
    | [v0], _ => exact ⟨v0, rfl⟩
  obtain ⟨r0, o0⟩ := h 0 _ v0 rfl rfl
  obtain ⟨cs0, rfl, hcs0⟩ := agg_of_okWide Tryz.underlying26 o0
  rw [hcs0] at r0
  have hlen0 := (r0.struct Tryz.underlying26).1
  rw [cells_26] at hlen0
  obtain ⟨c0_0, c0_1, c0_2, rfl⟩ : ∃ c0_0 c0_1 c0_2, cs0 = [c0_0, c0_1, c0_2] := by
    match cs0, hlen0 with
    | [c0_0, c0_1, c0_2], _ => exact ⟨c0_0, c0_1, c0_2, rfl⟩
  obtain ⟨_, hf_0⟩ := r0.struct Tryz.underlying26
  have f_0_0 : Reads Tryz.prog W 22 [c0_0] := by simpa [cells_22] using hf_0 0 _ rfl
  have row_0_0 : ∀ row, row.length = 3 → Reads Tryz.prog W 126 row → ∃ x, row = encSlot x ∧ okSlot x ∧ ∀ I ∈ inSlot x, I.ra (fun _ => True) W := by
    intro row hl hr_0_0
    match row, hl with
    | [q_0_0_0, q_0_0_1, q_0_0_2], _ =>
      obtain ⟨_, hf_0_0e⟩ := hr_0_0.struct Tryz.underlying126
      have f_0_0e_0 : Reads Tryz.prog W 3 [q_0_0_0] := by simpa [cells_3] using hf_0_0e 0 _ rfl
      obtain ⟨i_0_0e_0, e_0_0e_0, h_0_0e_0, g_0_0e_0⟩ := f_0_0e_0.i64 Tryz.underlying3
      cases e_0_0e_0
      have f_0_0e_1 : Reads Tryz.prog W 41 [q_0_0_1] := by simpa [cells_41] using hf_0_0e 1 _ rfl
      obtain ⟨a_0_0e_1, n_0_0e_1, c_0_0e_1, l_0_0e_1, e_0_0e_1, v_0_0e_1⟩ := rdA_of Tryz.underlying41 cells_99 (by decide) (cell_row Tryz.underlying99 rfl rfl rfl rfl cells_9 cells_9 Tryz.underlying9 Tryz.underlying9) f_0_0e_1
      cases e_0_0e_1
      have f_0_0e_2 : Reads Tryz.prog W 4 [q_0_0_2] := by simpa [cells_4] using hf_0_0e 2 _ rfl
      obtain ⟨b_0_0e_2, e_0_0e_2⟩ := f_0_0e_2.bool Tryz.underlying4
      cases e_0_0e_2
      refine ⟨(⟨(⟨i_0_0e_0, l_0_0e_1, b_0_0e_2⟩ : SlotD), a_0_0e_1, n_0_0e_1, c_0_0e_1⟩ : SlotH), rfl, ⟨h_0_0e_0, g_0_0e_0⟩, fun I hI => ?_⟩
      simp only [inSlot, List.mem_cons, List.not_mem_nil, or_false] at hI
      rcases hI with rfl
      · exact v_0_0e_1
  obtain ⟨a_0_0, n_0_0, c_0_0, l_0_0, e_0_0, v_0_0, u_0_0⟩ := rdN_of (inns := inSlot) Tryz.underlying22 cells_126 (by decide) row_0_0 f_0_0
  cases e_0_0
  have f_0_1 : Reads Tryz.prog W 24 [c0_1, c0_2] := by simpa [cells_24] using hf_0 1 _ rfl
  obtain ⟨_, hf_0_1⟩ := f_0_1.struct Tryz.underlying24
  have f_0_1_0 : Reads Tryz.prog W 9 [c0_1] := by simpa [cells_9] using hf_0_1 0 _ rfl
  obtain ⟨s_0_1_0, e_0_1_0, h_0_1_0⟩ := f_0_1_0.string Tryz.underlying9
  cases e_0_1_0
  have f_0_1_1 : Reads Tryz.prog W 3 [c0_2] := by simpa [cells_3] using hf_0_1 1 _ rfl
  obtain ⟨i_0_1_1, e_0_1_1, h_0_1_1, g_0_1_1⟩ := f_0_1_1.i64 Tryz.underlying3
  cases e_0_1_1
  exact (laws_FnExactRecovered_c (w := W) (H := fun _ => True) (aD := (⟨l_0_0, (⟨s_0_1_0, i_0_1_1⟩ : JouD)⟩ : DiskH)) v_0_0 u_0_0 (maxLen_le h_0_1_0) ⟨h_0_1_1, g_0_1_1⟩ t0 t1 t2).mono fun e W' ⟨h1, h2⟩ => ⟨h1, h2.bl⟩
theorem own : ownKnob Tryz.prog.godebug = none := by kernel_rfl
theorem laidOut : laidOutB Tryz.prog = true := by kernel_rfl
theorem readable : ∀ t ∈ Tryz.f3.params.toList, Tryz.prog.readableRec t = true ∧ t < Tryz.prog.types.size := of_decide_eq_true (by kernel_rfl)
theorem lifted (os : Os) (started : os.Started) (H : Type) (enc : TypeId × Value → H) :
    ReturnsInHanded {} Tryz.checked os 3 .any (fun w args => (Rows.fnExactRecoveredSpec.pre enc Tryz.prog Tryz.f3 [] false w args ∧ laidMetH Tryz.prog [("math/bits.deBruijn32tab", Rows.laid_math_bits_deBruijn32tab), ("math/bits.deBruijn64tab", Rows.laid_math_bits_deBruijn64tab), ("internal/strconv.uint64pow10", Rows.laid_internal_strconv_uint64pow10), ("unicode/utf8.acceptRanges", Rows.laid_unicode_utf8_acceptRanges), ("strconv.ErrRange", Rows.laid_strconv_ErrRange), ("strconv.ErrSyntax", Rows.laid_strconv_ErrSyntax), ("encoding/hex.ErrLength", Rows.laid_encoding_hex_ErrLength), ("unicode/utf8.first", Rows.laid_unicode_utf8_first)] w) ∧ sizedMet enc Tryz.prog Tryz.f3 (OpenSpec.ofChange Rows.fnExactRecoveredSpec) false w args)
      (Rows.fnExactRecoveredSpec.post enc Tryz.prog Tryz.f3 false true false false) := by
  refine returnsInHanded_of_change_and (C := Tryz.checked) (X := fun w _ => laidMetH Tryz.prog [("math/bits.deBruijn32tab", Rows.laid_math_bits_deBruijn32tab), ("math/bits.deBruijn64tab", Rows.laid_math_bits_deBruijn64tab), ("internal/strconv.uint64pow10", Rows.laid_internal_strconv_uint64pow10), ("unicode/utf8.acceptRanges", Rows.laid_unicode_utf8_acceptRanges), ("strconv.ErrRange", Rows.laid_strconv_ErrRange), ("strconv.ErrSyntax", Rows.laid_strconv_ErrSyntax), ("encoding/hex.ErrLength", Rows.laid_encoding_hex_ErrLength), ("unicode/utf8.first", Rows.laid_unicode_utf8_first)] w) (fun _ _ _ hh h => h.of_heap hh) own started (by kernel_rfl) Tryz.func3
    (ChangeSpec.witness_shaped (enc := enc) (C := Tryz.checked) (os := os) (X := fun w _ => laidMetH Tryz.prog [("math/bits.deBruijn32tab", Rows.laid_math_bits_deBruijn32tab), ("math/bits.deBruijn64tab", Rows.laid_math_bits_deBruijn64tab), ("internal/strconv.uint64pow10", Rows.laid_internal_strconv_uint64pow10), ("unicode/utf8.acceptRanges", Rows.laid_unicode_utf8_acceptRanges), ("strconv.ErrRange", Rows.laid_strconv_ErrRange), ("strconv.ErrSyntax", Rows.laid_strconv_ErrSyntax), ("encoding/hex.ErrLength", Rows.laid_encoding_hex_ErrLength), ("unicode/utf8.first", Rows.laid_unicode_utf8_first)] w) false (World.laidAll Tryz.prog os [("math/bits.deBruijn32tab", Rows.laid_math_bits_deBruijn32tab), ("math/bits.deBruijn64tab", Rows.laid_math_bits_deBruijn64tab), ("internal/strconv.uint64pow10", Rows.laid_internal_strconv_uint64pow10), ("unicode/utf8.acceptRanges", Rows.laid_unicode_utf8_acceptRanges), ("strconv.ErrRange", Rows.laid_strconv_ErrRange), ("strconv.ErrSyntax", Rows.laid_strconv_ErrSyntax), ("encoding/hex.ErrLength", Rows.laid_encoding_hex_ErrLength), ("unicode/utf8.first", Rows.laid_unicode_utf8_first)]) #[.agg #[.slice none 0 0, .string (⟨#[]⟩ : ByteArray), .int .i64 0]] 8 (World.laidAll_os _ _ _) (World.shaped_of_ZipB (by kernel_rfl) (by kernel_rfl)) (by kernel_rfl) (by kernel_rfl) (by kernel_rfl) (by rw [MakeChecks.laidMetH_plain _ _ _ (by kernel_rfl)]; exact laidMet_laidAll _ (by kernel_rfl) (by kernel_rfl))) ?_
  intro W base args ds gs before hval0 hW _ _ hL _
  have hval : ∀ (j : Nat) t v, Tryz.f3.params[j]? = some t → args[j]? = some v → Value.okWide Tryz.prog W .any 0 t v := hval0
  have hM : laidMet Tryz.prog [("math/bits.deBruijn32tab", Rows.laid_math_bits_deBruijn32tab), ("math/bits.deBruijn64tab", Rows.laid_math_bits_deBruijn64tab), ("internal/strconv.uint64pow10", Rows.laid_internal_strconv_uint64pow10), ("unicode/utf8.acceptRanges", Rows.laid_unicode_utf8_acceptRanges), ("strconv.ErrRange", Rows.laid_strconv_ErrRange), ("strconv.ErrSyntax", Rows.laid_strconv_ErrSyntax), ("encoding/hex.ErrLength", Rows.laid_encoding_hex_ErrLength), ("unicode/utf8.first", Rows.laid_unicode_utf8_first)] W := by
    have h := hL
    rw [MakeChecks.laidMetH_plain _ _ _ (by kernel_rfl)] at h
    exact h
  refine law_contractW laidOut readable Tryz.underlying4 rfl rfl ?_ H enc false true false false W args ds gs before (fun h => called W args h (ground0 hM) (ground1 hM) (ground2 hM)) hval hW
  intro H ds hd
  match ds, hd with
  | [a], _ => rfl
end Go.Proofs.YtipdbeklopjbmaaGreatDoor.recovered
