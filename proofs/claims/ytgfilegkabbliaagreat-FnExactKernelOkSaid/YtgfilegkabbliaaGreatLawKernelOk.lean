/-
  PROVED HERE: whatever the input, the statement laws.FnExactKernelOk returns true: the program's KernelOk and the reference's give equal results and alter nothing of their arguments. No condition.
-/
import Derived.Test.YtgfilegkabbliaaGreatGenKn
import Derived.Test.YtgfilegkabbliaaGreatGenKo
import Derived.Test.YtgfilegkabbliaaGreatLawN
namespace Go.Proofs.YtgfilegkabbliaaGreat
open Go.ChangeShapes Go.WideShapes Go.ChangeAt Go.RowKit
set_option maxRecDepth 100000
set_option maxHeartbeats 1000000
theorem laws_FnExactKernelOk_c {w : World} {H : Nat → Prop} {aK : KernH} {Q0 : Option Addr} {Q2 Q1 : Nat} {Q12 : Option Addr} {Q14 Q13 : Nat} {Q3 : Option Addr} {Q5 Q4 : Nat} {Q6 : Option Addr} {Q8 Q7 : Nat} {Q9 : Option Addr} {Q11 Q10 : Nat} (Q73 : RdA 2 encC okC H w (.slice Q0 Q2 Q1) aK.store) (Q74 : RdA 10 encTx okTx H w (.slice Q12 Q14 Q13) aK.txs) (Q83 : NRa inTx H w aK.txs) (Q70 : RdA 3 encSlot okSlot H w (.slice Q3 Q5 Q4) aK.disk.slots) (Q81 : NRa inSlot H w aK.disk.slots) (Q68 : okS aK.disk.journal.text) (Q75 : i64ok aK.disk.journal.sure) (Q77 : i64ok aK.seq) (Q76 : i64ok aK.next) (Q78 : i64ok aK.time) (Q71 : RdA 8 encEntry okEntry H w (.slice Q6 Q8 Q7) aK.history) (Q82 : NRa inEntry H w aK.history) (Q72 : RdA 1 encS okS H w (.slice Q9 Q11 Q10) aK.seen) :
    Calls Tryz.prog 3 #[.agg #[.slice Q0 Q2 Q1, .slice Q12 Q14 Q13, .slice Q3 Q5 Q4, .string aK.disk.journal.text, .int .i64 aK.disk.journal.sure, .int .i64 aK.seq, .int .i64 aK.next, .int .i64 aK.time, .slice Q6 Q8 Q7, .slice Q9 Q11 Q10, .bool aK.room]] w fun e w' => e = .returned (.bool true) ∧ Mv [] w [] w' := by
 have uU : True := (fun _ _ _ _ => trivial) Q75 Q77 Q76 Q78
 clear uU
 have Q66 : RdA 2 encC okC (V H w []) w (.slice Q0 Q2 Q1) aK.store := RdA.start Q73 (fun _ _ => fps_nil _)
 obtain ⟨Q100, Q95, Q165, Q170⟩ := RdA.inv Q73
 have Q67 : RdA 10 encTx okTx (V H w []) w (.slice Q12 Q14 Q13) aK.txs := RdA.start Q74 (fun _ _ => fps_nil _)
 obtain ⟨Q101, Q96, Q166, Q171⟩ := RdA.inv Q74
 have Q63 : RdA 3 encSlot okSlot (V H w []) w (.slice Q3 Q5 Q4) aK.disk.slots := RdA.start Q70 (fun _ _ => fps_nil _)
 obtain ⟨Q97, Q92, Q162, Q167⟩ := RdA.inv Q70
 have Q64 : RdA 8 encEntry okEntry (V H w []) w (.slice Q6 Q8 Q7) aK.history := RdA.start Q71 (fun _ _ => fps_nil _)
 obtain ⟨Q98, Q93, Q163, Q168⟩ := RdA.inv Q71
 have Q65 : RdA 1 encS okS (V H w []) w (.slice Q9 Q11 Q10) aK.seen := RdA.start Q72 (fun _ _ => fps_nil _)
 obtain ⟨Q99, Q94, Q164, Q169⟩ := RdA.inv Q72
 have Q62 : NRa inTx (V H w []) w aK.txs := NRa.start Q83 (fun _ _ => fps_nil _)
 have Q60 : NRa inSlot (V H w []) w aK.disk.slots := NRa.start Q81 (fun _ _ => fps_nil _)
 have Q61 : NRa inEntry (V H w []) w aK.history := NRa.start Q82 (fun _ _ => fps_nil _)
 refine calls_enter 27 Tryz.func3 rfl Tryz.ntmps3 (Nat.le_of_ble_eq_true rfl) (fun _ F0i => ?_)
 have F0 : Fr 27 [(0, .agg #[.slice Q0 Q2 Q1, .slice Q12 Q14 Q13, .slice Q3 Q5 Q4, .string aK.disk.journal.text, .int .i64 aK.disk.journal.sure, .int .i64 aK.seq, .int .i64 aK.next, .int .i64 aK.time, .slice Q6 Q8 Q7, .slice Q9 Q11 Q10, .bool aK.room])] _ := F0i
 clear F0i
 refine wp_seq (wp_region_lit (l_op (f_box F0 (At.nil w) rfl rfl rfl (F0.ev 0 rfl) rfl rfl fun b1 _ w1 F2 S1 => ?_)))
 refine l_op (f_val F2 rfl rfl (r_assign rfl rfl) rfl fun _ F3 => ?_)
 refine s_end (x_normal (wp_seq (wp_region_lit (l_op (f_val F3 rfl rfl (r_assign rfl rfl) rfl fun _ F4 => ?_)))))
 refine s_end (x_normal (wp_seq (wp_region_lit (l_op (f_val (v := .agg #[.slice Q0 Q2 Q1, .slice Q12 Q14 Q13, .slice Q3 Q5 Q4, .string aK.disk.journal.text, .int .i64 aK.disk.journal.sure, .int .i64 aK.seq, .int .i64 aK.next, .int .i64 aK.time, .slice Q6 Q8 Q7, .slice Q9 Q11 Q10, .bool aK.room]) F4 rfl rfl (r_loadB S1.at' 0 TI_32 rfl rfl (F4.ev 1 rfl) rfl rfl (fun h => nomatch h) rfl) rfl fun _ F5 => ?_)))))
 refine l_op (f_mv F5 rfl rfl rfl rfl rfl fun _ F6 => ?_)
 refine l_op (f_call F6 CF_4 rfl rfl rfl rfl (lc (F6.ev 7 rfl) (lc (F6.ev 8 rfl) rfl)) (laws_szKernel_c (a := aK) (left := 1048576) (RdA.mv (Nat.succ_pos _) Q66 S1) (RdA.mv (Nat.succ_pos _) Q67 S1) (NRa.mv Q62 S1) (RdA.mv (Nat.succ_pos _) Q63 S1) (NRa.mv Q60 S1) Q68 (by first | assumption | exact ⟨by omega, by omega⟩ | (unfold i64ok at *; omega) | (simp only [i64ok]; omega)) (by first | assumption | exact ⟨by omega, by omega⟩ | (unfold i64ok at *; omega) | (simp only [i64ok]; omega)) (by first | assumption | exact ⟨by omega, by omega⟩ | (unfold i64ok at *; omega) | (simp only [i64ok]; omega)) (by first | assumption | exact ⟨by omega, by omega⟩ | (unfold i64ok at *; omega) | (simp only [i64ok]; omega)) (RdA.mv (Nat.succ_pos _) Q64 S1) (NRa.mv Q61 S1) (RdA.mv (Nat.succ_pos _) Q65 S1) (by first | assumption | exact ⟨by omega, by omega⟩ | (unfold i64ok at *; omega)) (by first | assumption | omega | (simp <;> omega)) (by first | assumption | omega | (simp <;> omega))) ?_)
 rintro _ w7 ⟨rfl, m7, q7_0⟩
 refine ⟨_, rfl, fun _ F8 => ?_⟩
 have S7 := At.frame0 S1.at' m7
 clear m7
 refine l_op (f_as F8 rfl rfl rfl rfl rfl fun _ F9 => ?_)
 have T10 : Mv _ _ [bx b1 [.slice Q0 Q2 Q1, .slice Q12 Q14 Q13, .slice Q3 Q5 Q4, .string aK.disk.journal.text, .int .i64 aK.disk.journal.sure, .int .i64 aK.seq, .int .i64 aK.next, .int .i64 aK.time, .slice Q6 Q8 Q7, .slice Q9 Q11 Q10, .bool aK.room] 32] _ := S7
 refine s_end (x_normal (wp_seq (wp_seq (wp_region_lit (l_op (f_mv F9 rfl rfl rfl rfl rfl fun _ F11 => ?_))))))
 refine l_op (f_val F11 rfl rfl (r_cmp (b := decide ((subOr 1048576 (szKernelH aK)) < 0)) (.inr (.inr (.inl rfl))) rfl (F11.ev 10 rfl) rfl (dec_of (by omega))) rfl fun _ F12 => ?_)
 have F13 : Fr 27 [(11, .bool (decide ((subOr 1048576 (szKernelH aK)) < 0))), (1, .pointer (some ⟨b1, 0, none⟩))] _ := F12.cut rfl
 clear F0 F2 F3 F4 F5 F6 F8 F9 F11 F12
 refine s_end (x_normal (x_cond (p := (subOr 1048576 (szKernelH aK)) < 0) (F13.ev 11 rfl) (fun h14 => ?_) (fun h14 => ?_)))
 · skip
   refine wp_seq (wp_region_lit (l_op (f_val F13 rfl rfl (r_assign rfl rfl) rfl fun _ F15 => ?_)))
   refine s_end (x_normal (wp_ret (x_then_ret ?_)))
   refine x_done (v := .bool true) F15 (results_1 Tryz.results3 (.tmp (F15.ev 2 rfl))) ?_
   exact ⟨rfl, (Mv.pick (S1.trans T10) [] rfl)⟩
 · skip
   refine wp_skip (x_normal (wp_seq ?_))
   obtain ⟨f1, f2, f3, f4, f5, f6⟩ := kernFits (k := aK) (n := 1048576) (z := 1048576) (by decide) (by assumption)
   refine wp_region_lit (l_op (f_val (v := .agg #[.slice Q0 Q2 Q1, .slice Q12 Q14 Q13, .slice Q3 Q5 Q4, .string aK.disk.journal.text, .int .i64 aK.disk.journal.sure, .int .i64 aK.seq, .int .i64 aK.next, .int .i64 aK.time, .slice Q6 Q8 Q7, .slice Q9 Q11 Q10, .bool aK.room]) F13 rfl rfl (r_loadB T10.at' 0 TI_32 rfl rfl (F13.ev 1 rfl) rfl rfl (fun h => nomatch h) rfl) rfl fun _ F16 => ?_))
   refine l_op (f_call F16 CF_6 rfl rfl rfl rfl (lc (F16.ev 12 rfl) rfl) (laws_toKernel_c (a := aK) (RdA.mv (Nat.succ_pos _) Q66 (S1.trans T10)) (RdA.mv (Nat.succ_pos _) Q67 (S1.trans T10)) (NRa.mv Q62 (S1.trans T10)) (RdA.mv (Nat.succ_pos _) Q63 (S1.trans T10)) (NRa.mv Q60 (S1.trans T10)) Q68 (by first | assumption | exact ⟨by omega, by omega⟩ | (unfold i64ok at *; omega) | (simp only [i64ok]; omega)) (by first | assumption | exact ⟨by omega, by omega⟩ | (unfold i64ok at *; omega) | (simp only [i64ok]; omega)) (by first | assumption | exact ⟨by omega, by omega⟩ | (unfold i64ok at *; omega) | (simp only [i64ok]; omega)) (by first | assumption | exact ⟨by omega, by omega⟩ | (unfold i64ok at *; omega) | (simp only [i64ok]; omega)) (RdA.mv (Nat.succ_pos _) Q64 (S1.trans T10)) (NRa.mv Q61 (S1.trans T10)) (RdA.mv (Nat.succ_pos _) Q65 (S1.trans T10)) (by exact f1) (by exact f2) (by exact f3) (by exact f5) (by exact f6)) ?_)
   rintro _ w17 ⟨DT_17, DS_17, DE_17, Q30, Q32, Q31, Q42, Q44, Q43, Q33, Q35, Q34, Q36, Q38, Q37, Q39, Q41, Q40, rfl, m17, Q79, q17_0, q17_1, q17_2, q17_3, q17_4, q17_5, q17_6⟩
   refine ⟨_, rfl, fun _ F18 => ?_⟩
   have S17 : Mv _ _ [ow 90 2 encC okC (.slice Q30 Q32 Q31) aK.store, ow 58 10 encTx okTx (.slice Q42 Q44 Q43) DT_17, gr inTx DT_17, ow 92 3 encSlot okSlot (.slice Q33 Q35 Q34) DS_17, gr inSlot DS_17, ow 102 8 encEntry okEntry (.slice Q36 Q38 Q37) DE_17, gr inEntry DE_17, ow 9 1 encS okS (.slice Q39 Q41 Q40) aK.seen, bx b1 [.slice Q0 Q2 Q1, .slice Q12 Q14 Q13, .slice Q3 Q5 Q4, .string aK.disk.journal.text, .int .i64 aK.disk.journal.sure, .int .i64 aK.seq, .int .i64 aK.next, .int .i64 aK.time, .slice Q6 Q8 Q7, .slice Q9 Q11 Q10, .bool aK.room] 32] _ := At.frame T10.at' [] rfl m17
   obtain ⟨Q102, Q122, Q142⟩ := At.ownInv S17.at' ET_35.hk 0 rfl
   obtain ⟨Q103, Q123, Q143⟩ := At.ownInv S17.at' ET_36.hk 1 rfl
   obtain ⟨Q104, Q124, Q144⟩ := At.ownInv S17.at' ET_37.hk 3 rfl
   obtain ⟨Q105, Q125, Q145⟩ := At.ownInv S17.at' ET_41.hk 5 rfl
   obtain ⟨Q106, Q126, Q146⟩ := At.ownInv S17.at' ET_30.hk 7 rfl
   clear m17
   refine l_op (f_call F18 CF_5 rfl rfl rfl rfl (lc (F18.ev 13 rfl) rfl) (spec_KernelOk_c (H := fun _ => True) (k := (⟨aK.store, DT_17, (⟨DS_17, aK.disk.journal⟩ : DiskH), aK.seq, aK.next, aK.time, DE_17, aK.seen, aK.room⟩ : KernH)) (At.rd S17.at' ET_35.hk 0 rfl) (At.rd S17.at' ET_36.hk 1 rfl) (At.nrd S17.at' 2 rfl) (At.rd S17.at' ET_37.hk 3 rfl) (At.nrd S17.at' 4 rfl) Q79 (by first | assumption | exact ⟨by omega, by omega⟩ | (unfold i64ok at *; omega) | (simp only [i64ok]; omega)) (by first | assumption | exact ⟨by omega, by omega⟩ | (unfold i64ok at *; omega) | (simp only [i64ok]; omega)) (by first | assumption | exact ⟨by omega, by omega⟩ | (unfold i64ok at *; omega) | (simp only [i64ok]; omega)) (by first | assumption | exact ⟨by omega, by omega⟩ | (unfold i64ok at *; omega) | (simp only [i64ok]; omega)) (At.rd S17.at' ET_41.hk 5 rfl) (At.nrd S17.at' 6 rfl) (At.rd S17.at' ET_30.hk 7 rfl) (by exact txsFit.len (f2.eq (by assumption)))) ?_)
   rintro _ w19 ⟨rfl, m19⟩
   refine ⟨_, rfl, fun _ F20 => ?_⟩
   have S19 := At.frame0 S17.at' m19
   clear m19
   refine l_op (f_as F20 rfl rfl rfl rfl rfl fun _ F21 => ?_)
   have T22 : Mv _ _ [ow 90 2 encC okC (.slice Q30 Q32 Q31) aK.store, ow 58 10 encTx okTx (.slice Q42 Q44 Q43) DT_17, gr inTx DT_17, ow 92 3 encSlot okSlot (.slice Q33 Q35 Q34) DS_17, gr inSlot DS_17, ow 102 8 encEntry okEntry (.slice Q36 Q38 Q37) DE_17, gr inEntry DE_17, ow 9 1 encS okS (.slice Q39 Q41 Q40) aK.seen, bx b1 [.slice Q0 Q2 Q1, .slice Q12 Q14 Q13, .slice Q3 Q5 Q4, .string aK.disk.journal.text, .int .i64 aK.disk.journal.sure, .int .i64 aK.seq, .int .i64 aK.next, .int .i64 aK.time, .slice Q6 Q8 Q7, .slice Q9 Q11 Q10, .bool aK.room] 32] _ := S19
   refine s_end (x_normal (wp_seq (wp_region_lit (l_op (f_val (v := .agg #[.slice Q0 Q2 Q1, .slice Q12 Q14 Q13, .slice Q3 Q5 Q4, .string aK.disk.journal.text, .int .i64 aK.disk.journal.sure, .int .i64 aK.seq, .int .i64 aK.next, .int .i64 aK.time, .slice Q6 Q8 Q7, .slice Q9 Q11 Q10, .bool aK.room]) F21 rfl rfl (r_loadB T22.at' 8 TI_32 rfl rfl (F21.ev 1 rfl) rfl rfl (fun h => nomatch h) rfl) rfl fun _ F23 => ?_)))))
   refine l_op (f_call F23 CF_6 rfl rfl rfl rfl (lc (F23.ev 15 rfl) rfl) (laws_toKernel_c (a := aK) (RdA.mv (Nat.succ_pos _) Q66 (S1.trans (T10.trans (S17.trans T22)))) (RdA.mv (Nat.succ_pos _) Q67 (S1.trans (T10.trans (S17.trans T22)))) (NRa.mv Q62 (S1.trans (T10.trans (S17.trans T22)))) (RdA.mv (Nat.succ_pos _) Q63 (S1.trans (T10.trans (S17.trans T22)))) (NRa.mv Q60 (S1.trans (T10.trans (S17.trans T22)))) Q68 (by first | assumption | exact ⟨by omega, by omega⟩ | (unfold i64ok at *; omega) | (simp only [i64ok]; omega)) (by first | assumption | exact ⟨by omega, by omega⟩ | (unfold i64ok at *; omega) | (simp only [i64ok]; omega)) (by first | assumption | exact ⟨by omega, by omega⟩ | (unfold i64ok at *; omega) | (simp only [i64ok]; omega)) (by first | assumption | exact ⟨by omega, by omega⟩ | (unfold i64ok at *; omega) | (simp only [i64ok]; omega)) (RdA.mv (Nat.succ_pos _) Q64 (S1.trans (T10.trans (S17.trans T22)))) (NRa.mv Q61 (S1.trans (T10.trans (S17.trans T22)))) (RdA.mv (Nat.succ_pos _) Q65 (S1.trans (T10.trans (S17.trans T22)))) (by exact f1) (by exact f2) (by exact f3) (by exact f5) (by exact f6)) ?_)
   rintro _ w24 ⟨DT_24, DS_24, DE_24, Q15, Q17, Q16, Q27, Q29, Q28, Q18, Q20, Q19, Q21, Q23, Q22, Q24, Q26, Q25, rfl, m24, Q69, q24_0, q24_1, q24_2, q24_3, q24_4, q24_5, q24_6⟩
   refine ⟨_, rfl, fun _ F25 => ?_⟩
   have S24 : Mv _ _ [ow 90 2 encC okC (.slice Q15 Q17 Q16) aK.store, ow 58 10 encTx okTx (.slice Q27 Q29 Q28) DT_24, gr inTx DT_24, ow 92 3 encSlot okSlot (.slice Q18 Q20 Q19) DS_24, gr inSlot DS_24, ow 102 8 encEntry okEntry (.slice Q21 Q23 Q22) DE_24, gr inEntry DE_24, ow 9 1 encS okS (.slice Q24 Q26 Q25) aK.seen, ow 90 2 encC okC (.slice Q30 Q32 Q31) aK.store, ow 58 10 encTx okTx (.slice Q42 Q44 Q43) DT_17, gr inTx DT_17, ow 92 3 encSlot okSlot (.slice Q33 Q35 Q34) DS_17, gr inSlot DS_17, ow 102 8 encEntry okEntry (.slice Q36 Q38 Q37) DE_17, gr inEntry DE_17, ow 9 1 encS okS (.slice Q39 Q41 Q40) aK.seen, bx b1 [.slice Q0 Q2 Q1, .slice Q12 Q14 Q13, .slice Q3 Q5 Q4, .string aK.disk.journal.text, .int .i64 aK.disk.journal.sure, .int .i64 aK.seq, .int .i64 aK.next, .int .i64 aK.time, .slice Q6 Q8 Q7, .slice Q9 Q11 Q10, .bool aK.room] 32] _ := At.frame T22.at' [] rfl m24
   obtain ⟨Q107, Q127, Q147⟩ := At.ownInv S24.at' ET_35.hk 0 rfl
   obtain ⟨Q108, Q128, Q148⟩ := At.ownInv S24.at' ET_36.hk 1 rfl
   obtain ⟨Q109, Q129, Q149⟩ := At.ownInv S24.at' ET_37.hk 3 rfl
   obtain ⟨Q110, Q130, Q150⟩ := At.ownInv S24.at' ET_41.hk 5 rfl
   obtain ⟨Q111, Q131, Q151⟩ := At.ownInv S24.at' ET_30.hk 7 rfl
   clear m24
   refine l_op (f_alloc F25 S24.at' ZI_43 rfl rfl rfl rfl rfl fun b26 _ w26 F27 S26 => ?_)
   refine l_op (s_store S26.at' 0 TI_43 rfl rfl rfl rfl rfl (F27.ev 5 rfl) (F27.ev 16 rfl) rfl rfl rfl rfl rfl fun w28 S28 => ?_)
   have T29 : Mv _ _ [bx b26 [.slice Q15 Q17 Q16, .slice Q27 Q29 Q28, .slice Q18 Q20 Q19, .string aK.disk.journal.text, .int .i64 aK.disk.journal.sure, .int .i64 aK.seq, .int .i64 aK.next, .int .i64 aK.time, .slice Q21 Q23 Q22, .slice Q24 Q26 Q25, .bool aK.room] 43, ow 90 2 encC okC (.slice Q15 Q17 Q16) aK.store, ow 58 10 encTx okTx (.slice Q27 Q29 Q28) DT_24, gr inTx DT_24, ow 92 3 encSlot okSlot (.slice Q18 Q20 Q19) DS_24, gr inSlot DS_24, ow 102 8 encEntry okEntry (.slice Q21 Q23 Q22) DE_24, gr inEntry DE_24, ow 9 1 encS okS (.slice Q24 Q26 Q25) aK.seen, ow 90 2 encC okC (.slice Q30 Q32 Q31) aK.store, ow 58 10 encTx okTx (.slice Q42 Q44 Q43) DT_17, gr inTx DT_17, ow 92 3 encSlot okSlot (.slice Q33 Q35 Q34) DS_17, gr inSlot DS_17, ow 102 8 encEntry okEntry (.slice Q36 Q38 Q37) DE_17, gr inEntry DE_17, ow 9 1 encS okS (.slice Q39 Q41 Q40) aK.seen, bx b1 [.slice Q0 Q2 Q1, .slice Q12 Q14 Q13, .slice Q3 Q5 Q4, .string aK.disk.journal.text, .int .i64 aK.disk.journal.sure, .int .i64 aK.seq, .int .i64 aK.next, .int .i64 aK.time, .slice Q6 Q8 Q7, .slice Q9 Q11 Q10, .bool aK.room] 32] _ := S28
   refine s_end (x_normal (wp_seq (wp_region_lit (l_op (f_val (v := .agg #[.slice Q15 Q17 Q16, .slice Q27 Q29 Q28, .slice Q18 Q20 Q19, .string aK.disk.journal.text, .int .i64 aK.disk.journal.sure, .int .i64 aK.seq, .int .i64 aK.next, .int .i64 aK.time, .slice Q21 Q23 Q22, .slice Q24 Q26 Q25, .bool aK.room]) F27 rfl rfl (r_loadB T29.at' 0 TI_43 rfl rfl (F27.ev 5 rfl) rfl rfl (fun h => nomatch h) rfl) rfl fun _ F30 => ?_)))))
   refine l_op (f_call F30 CF_7 rfl rfl rfl rfl (lc (F30.ev 17 rfl) rfl) (impl_KernelOk_c (H := fun _ => True) (k := (⟨aK.store, DT_24, (⟨DS_24, aK.disk.journal⟩ : DiskH), aK.seq, aK.next, aK.time, DE_24, aK.seen, aK.room⟩ : KernH)) (At.rd T29.at' ET_35.hk 1 rfl) (At.rd T29.at' ET_36.hk 2 rfl) (At.nrd T29.at' 3 rfl) (At.rd T29.at' ET_37.hk 4 rfl) (At.nrd T29.at' 5 rfl) Q69 (by first | assumption | exact ⟨by omega, by omega⟩ | (unfold i64ok at *; omega) | (simp only [i64ok]; omega)) (by first | assumption | exact ⟨by omega, by omega⟩ | (unfold i64ok at *; omega) | (simp only [i64ok]; omega)) (by first | assumption | exact ⟨by omega, by omega⟩ | (unfold i64ok at *; omega) | (simp only [i64ok]; omega)) (by first | assumption | exact ⟨by omega, by omega⟩ | (unfold i64ok at *; omega) | (simp only [i64ok]; omega)) (At.rd T29.at' ET_41.hk 6 rfl) (At.nrd T29.at' 7 rfl) (At.rd T29.at' ET_30.hk 8 rfl) (by exact txsFit.len (f2.eq (by assumption)))) ?_)
   rintro _ w31 ⟨rfl, m31⟩
   refine ⟨_, rfl, fun _ F32 => ?_⟩
   have S31 := At.frame0 T29.at' m31
   clear m31
   refine l_op (f_as F32 rfl rfl rfl rfl rfl fun _ F33 => ?_)
   have F34 : Fr 27 [(6, .bool (kernOk aK.store (DT_24.map TxH.d) (DS_24.map SlotH.d) aK.disk.journal aK.seq aK.next)), (5, .pointer (some ⟨b26, 0, none⟩)), (4, .bool (kernOk aK.store (DT_17.map TxH.d) (DS_17.map SlotH.d) aK.disk.journal aK.seq aK.next)), (1, .pointer (some ⟨b1, 0, none⟩))] _ := F33.cut rfl
   clear F13 F16 F18 F20 F21 F23 F25 F27 F30 F32 F33
   refine s_end (x_normal (wp_seq (wp_seq (wp_region_lit (l_op (f_mv F34 rfl rfl rfl rfl rfl fun _ F35 => ?_))))))
   refine l_op (f_mv F35 rfl rfl rfl rfl rfl fun _ F36 => ?_)
   refine l_op (f_val F36 rfl rfl (r_cmpb (b := false) Tryz.underlying4 (.inr rfl) rfl (F36.ev 19 rfl) (F36.ev 20 rfl) (cmpb_ne (show (kernOk aK.store (DT_24.map TxH.d) (DS_24.map SlotH.d) aK.disk.journal aK.seq aK.next) = (kernOk aK.store (DT_17.map TxH.d) (DS_17.map SlotH.d) aK.disk.journal aK.seq aK.next) from kern_congr (same2 (by assumption) (by assumption)) (same2 (by assumption) (by assumption))))) rfl fun _ F37 => ?_)
   refine s_end (x_normal (wp_cond_false (F37.ev 21 rfl) (wp_skip (x_normal (wp_seq (wp_seq ?_))))))
   refine x_draw (fun aZ wZ => ∃ (DT_42 : List TxH), ∃ (DS_42 : List SlotH), ∃ (DE_42 : List EntryH), ∃ (Q45 : Option Addr), ∃ (Q47 : Nat), ∃ (Q46 : Nat), ∃ (Q57 : Option Addr), ∃ (Q59 : Nat), ∃ (Q58 : Nat), ∃ (Q48 : Option Addr), ∃ (Q50 : Nat), ∃ (Q49 : Nat), ∃ (Q51 : Option Addr), ∃ (Q53 : Nat), ∃ (Q52 : Nat), ∃ (Q54 : Option Addr), ∃ (Q56 : Nat), ∃ (Q55 : Nat), Fr 27 [(26, .bool false)] aZ ∧ Mv [bx b26 [.slice Q15 Q17 Q16, .slice Q27 Q29 Q28, .slice Q18 Q20 Q19, .string aK.disk.journal.text, .int .i64 aK.disk.journal.sure, .int .i64 aK.seq, .int .i64 aK.next, .int .i64 aK.time, .slice Q21 Q23 Q22, .slice Q24 Q26 Q25, .bool aK.room] 43, ow 90 2 encC okC (.slice Q15 Q17 Q16) aK.store, ow 58 10 encTx okTx (.slice Q27 Q29 Q28) DT_24, gr inTx DT_24, ow 92 3 encSlot okSlot (.slice Q18 Q20 Q19) DS_24, gr inSlot DS_24, ow 102 8 encEntry okEntry (.slice Q21 Q23 Q22) DE_24, gr inEntry DE_24, ow 9 1 encS okS (.slice Q24 Q26 Q25) aK.seen, ow 90 2 encC okC (.slice Q30 Q32 Q31) aK.store, ow 58 10 encTx okTx (.slice Q42 Q44 Q43) DT_17, gr inTx DT_17, ow 92 3 encSlot okSlot (.slice Q33 Q35 Q34) DS_17, gr inSlot DS_17, ow 102 8 encEntry okEntry (.slice Q36 Q38 Q37) DE_17, gr inEntry DE_17, ow 9 1 encS okS (.slice Q39 Q41 Q40) aK.seen, bx b1 [.slice Q0 Q2 Q1, .slice Q12 Q14 Q13, .slice Q3 Q5 Q4, .string aK.disk.journal.text, .int .i64 aK.disk.journal.sure, .int .i64 aK.seq, .int .i64 aK.next, .int .i64 aK.time, .slice Q6 Q8 Q7, .slice Q9 Q11 Q10, .bool aK.room] 32] w31 [bx b26 [.slice Q15 Q17 Q16, .slice Q27 Q29 Q28, .slice Q18 Q20 Q19, .string aK.disk.journal.text, .int .i64 aK.disk.journal.sure, .int .i64 aK.seq, .int .i64 aK.next, .int .i64 aK.time, .slice Q21 Q23 Q22, .slice Q24 Q26 Q25, .bool aK.room] 43, ow 90 2 encC okC (.slice Q15 Q17 Q16) aK.store, ow 58 10 encTx okTx (.slice Q27 Q29 Q28) DT_24, gr inTx DT_24, ow 92 3 encSlot okSlot (.slice Q18 Q20 Q19) DS_24, gr inSlot DS_24, ow 102 8 encEntry okEntry (.slice Q21 Q23 Q22) DE_24, gr inEntry DE_24, ow 9 1 encS okS (.slice Q24 Q26 Q25) aK.seen, ow 90 2 encC okC (.slice Q30 Q32 Q31) aK.store, ow 58 10 encTx okTx (.slice Q42 Q44 Q43) DT_17, gr inTx DT_17, ow 92 3 encSlot okSlot (.slice Q33 Q35 Q34) DS_17, gr inSlot DS_17, ow 102 8 encEntry okEntry (.slice Q36 Q38 Q37) DE_17, gr inEntry DE_17, ow 9 1 encS okS (.slice Q39 Q41 Q40) aK.seen, bx b1 [.slice Q0 Q2 Q1, .slice Q12 Q14 Q13, .slice Q3 Q5 Q4, .string aK.disk.journal.text, .int .i64 aK.disk.journal.sure, .int .i64 aK.seq, .int .i64 aK.next, .int .i64 aK.time, .slice Q6 Q8 Q7, .slice Q9 Q11 Q10, .bool aK.room] 32, ow 90 2 encC okC (.slice Q45 Q47 Q46) aK.store, ow 58 10 encTx okTx (.slice Q57 Q59 Q58) DT_42, gr inTx DT_42, ow 92 3 encSlot okSlot (.slice Q48 Q50 Q49) DS_42, gr inSlot DS_42, ow 102 8 encEntry okEntry (.slice Q51 Q53 Q52) DE_42, gr inEntry DE_42, ow 9 1 encS okS (.slice Q54 Q56 Q55) aK.seen] wZ ∧ okS aK.disk.journal.text ∧ (DT_42.map TxH.d = aK.txs.map TxH.d) ∧ (DS_42.map SlotH.d = aK.disk.slots.map SlotH.d) ∧ (DE_42.map EntryH.d = aK.history.map EntryH.d) ∧ (i64ok aK.disk.journal.sure) ∧ (i64ok aK.seq) ∧ (i64ok aK.next) ∧ (i64ok aK.time)) [bx b26 [.slice Q15 Q17 Q16, .slice Q27 Q29 Q28, .slice Q18 Q20 Q19, .string aK.disk.journal.text, .int .i64 aK.disk.journal.sure, .int .i64 aK.seq, .int .i64 aK.next, .int .i64 aK.time, .slice Q21 Q23 Q22, .slice Q24 Q26 Q25, .bool aK.room] 43, bx b1 [.slice Q0 Q2 Q1, .slice Q12 Q14 Q13, .slice Q3 Q5 Q4, .string aK.disk.journal.text, .int .i64 aK.disk.journal.sure, .int .i64 aK.seq, .int .i64 aK.next, .int .i64 aK.time, .slice Q6 Q8 Q7, .slice Q9 Q11 Q10, .bool aK.room] 32] mixed S31.at' (listed := #[false, false, false, false, false]) rfl (fun w39 S39 => ?_) [0, 17] rfl ?_
   · skip
     refine g_take (v := .agg #[.slice Q15 Q17 Q16, .slice Q27 Q29 Q28, .slice Q18 Q20 Q19, .string aK.disk.journal.text, .int .i64 aK.disk.journal.sure, .int .i64 aK.seq, .int .i64 aK.next, .int .i64 aK.time, .slice Q21 Q23 Q22, .slice Q24 Q26 Q25, .bool aK.room]) F37 rfl (i := 0) (listed' := #[true, false, false, false, false]) rfl (by kernel_rfl) (by kernel_rfl) (by kernel_rfl) (fun _ _ _ h => h) (Sd.of (Mv.refl S39.at') [0, 17] rfl) rfl rfl rfl rfl (fun _ hz => (r_loadX (hz.bx 0 rfl) TI_43 rfl (F37.ev 5 rfl) rfl rfl (fun h => nomatch h) rfl)) fun _ F40 => ?_
     refine g_take (v := .agg #[.slice Q0 Q2 Q1, .slice Q12 Q14 Q13, .slice Q3 Q5 Q4, .string aK.disk.journal.text, .int .i64 aK.disk.journal.sure, .int .i64 aK.seq, .int .i64 aK.next, .int .i64 aK.time, .slice Q6 Q8 Q7, .slice Q9 Q11 Q10, .bool aK.room]) F40 rfl (i := 1) (listed' := #[true, true, false, false, false]) rfl (by kernel_rfl) (by kernel_rfl) (by kernel_rfl) (fun _ _ _ h => h) (Sd.of (Mv.refl S39.at') [0, 17] rfl) rfl rfl rfl rfl (fun _ hz => (r_loadX (hz.bx 1 rfl) TI_32 rfl (F40.ev 1 rfl) rfl rfl (fun h => nomatch h) rfl)) fun _ F41 => ?_
     refine d_one (i := 2) (listed' := #[true, true, true, false, false]) rfl (by kernel_rfl) rfl rfl ?_
     refine f_call F41 CF_6 rfl rfl rfl rfl (lc (F41.ev 23 rfl) rfl) (laws_toKernel_c (a := aK) (RdA.mv (Nat.succ_pos _) Q66 (S1.trans (T10.trans (S17.trans (T22.trans (S24.trans (S26.trans (T29.trans (S31.trans S39))))))))) (RdA.mv (Nat.succ_pos _) Q67 (S1.trans (T10.trans (S17.trans (T22.trans (S24.trans (S26.trans (T29.trans (S31.trans S39))))))))) (NRa.mv Q62 (S1.trans (T10.trans (S17.trans (T22.trans (S24.trans (S26.trans (T29.trans (S31.trans S39))))))))) (RdA.mv (Nat.succ_pos _) Q63 (S1.trans (T10.trans (S17.trans (T22.trans (S24.trans (S26.trans (T29.trans (S31.trans S39))))))))) (NRa.mv Q60 (S1.trans (T10.trans (S17.trans (T22.trans (S24.trans (S26.trans (T29.trans (S31.trans S39))))))))) Q68 (by first | assumption | exact ⟨by omega, by omega⟩ | (unfold i64ok at *; omega) | (simp only [i64ok]; omega)) (by first | assumption | exact ⟨by omega, by omega⟩ | (unfold i64ok at *; omega) | (simp only [i64ok]; omega)) (by first | assumption | exact ⟨by omega, by omega⟩ | (unfold i64ok at *; omega) | (simp only [i64ok]; omega)) (by first | assumption | exact ⟨by omega, by omega⟩ | (unfold i64ok at *; omega) | (simp only [i64ok]; omega)) (RdA.mv (Nat.succ_pos _) Q64 (S1.trans (T10.trans (S17.trans (T22.trans (S24.trans (S26.trans (T29.trans (S31.trans S39))))))))) (NRa.mv Q61 (S1.trans (T10.trans (S17.trans (T22.trans (S24.trans (S26.trans (T29.trans (S31.trans S39))))))))) (RdA.mv (Nat.succ_pos _) Q65 (S1.trans (T10.trans (S17.trans (T22.trans (S24.trans (S26.trans (T29.trans (S31.trans S39))))))))) (by exact f1) (by exact f2) (by exact f3) (by exact f5) (by exact f6)) ?_
     rintro _ w42 ⟨DT_42, DS_42, DE_42, Q45, Q47, Q46, Q57, Q59, Q58, Q48, Q50, Q49, Q51, Q53, Q52, Q54, Q56, Q55, rfl, m42, Q80, q42_0, q42_1, q42_2, q42_3, q42_4, q42_5, q42_6⟩
     refine ⟨_, rfl, fun _ F43 => ?_⟩
     have S42 : Mv _ _ [ow 90 2 encC okC (.slice Q45 Q47 Q46) aK.store, ow 58 10 encTx okTx (.slice Q57 Q59 Q58) DT_42, gr inTx DT_42, ow 92 3 encSlot okSlot (.slice Q48 Q50 Q49) DS_42, gr inSlot DS_42, ow 102 8 encEntry okEntry (.slice Q51 Q53 Q52) DE_42, gr inEntry DE_42, ow 9 1 encS okS (.slice Q54 Q56 Q55) aK.seen, bx b26 [.slice Q15 Q17 Q16, .slice Q27 Q29 Q28, .slice Q18 Q20 Q19, .string aK.disk.journal.text, .int .i64 aK.disk.journal.sure, .int .i64 aK.seq, .int .i64 aK.next, .int .i64 aK.time, .slice Q21 Q23 Q22, .slice Q24 Q26 Q25, .bool aK.room] 43, ow 90 2 encC okC (.slice Q15 Q17 Q16) aK.store, ow 58 10 encTx okTx (.slice Q27 Q29 Q28) DT_24, gr inTx DT_24, ow 92 3 encSlot okSlot (.slice Q18 Q20 Q19) DS_24, gr inSlot DS_24, ow 102 8 encEntry okEntry (.slice Q21 Q23 Q22) DE_24, gr inEntry DE_24, ow 9 1 encS okS (.slice Q24 Q26 Q25) aK.seen, ow 90 2 encC okC (.slice Q30 Q32 Q31) aK.store, ow 58 10 encTx okTx (.slice Q42 Q44 Q43) DT_17, gr inTx DT_17, ow 92 3 encSlot okSlot (.slice Q33 Q35 Q34) DS_17, gr inSlot DS_17, ow 102 8 encEntry okEntry (.slice Q36 Q38 Q37) DE_17, gr inEntry DE_17, ow 9 1 encS okS (.slice Q39 Q41 Q40) aK.seen, bx b1 [.slice Q0 Q2 Q1, .slice Q12 Q14 Q13, .slice Q3 Q5 Q4, .string aK.disk.journal.text, .int .i64 aK.disk.journal.sure, .int .i64 aK.seq, .int .i64 aK.next, .int .i64 aK.time, .slice Q6 Q8 Q7, .slice Q9 Q11 Q10, .bool aK.room] 32] _ := At.frame S39.at' [] rfl m42
     obtain ⟨Q112, Q132, Q152⟩ := At.ownInv S42.at' ET_35.hk 0 rfl
     obtain ⟨Q113, Q133, Q153⟩ := At.ownInv S42.at' ET_36.hk 1 rfl
     obtain ⟨Q114, Q134, Q154⟩ := At.ownInv S42.at' ET_37.hk 3 rfl
     obtain ⟨Q115, Q135, Q155⟩ := At.ownInv S42.at' ET_41.hk 5 rfl
     obtain ⟨Q116, Q136, Q156⟩ := At.ownInv S42.at' ET_30.hk 7 rfl
     clear m42
     refine ⟨Sd.of S42 [8, 25] rfl, ?_⟩
     refine d_one (i := 3) (listed' := #[true, true, true, true, false]) rfl (by kernel_rfl) rfl rfl ?_
     refine f_call F43 CF_8 rfl rfl rfl rfl (lc (F43.ev 22 rfl) (lc (F43.ev 24 rfl) rfl)) (laws_eqKernel_c (H := fun _ => True) (a := (⟨aK.store, DT_24, (⟨DS_24, aK.disk.journal⟩ : DiskH), aK.seq, aK.next, aK.time, DE_24, aK.seen, aK.room⟩ : KernH)) (b := (⟨aK.store, DT_42, (⟨DS_42, aK.disk.journal⟩ : DiskH), aK.seq, aK.next, aK.time, DE_42, aK.seen, aK.room⟩ : KernH)) (At.rd S42.at' ET_35.hk 9 rfl) (At.rd S42.at' ET_36.hk 10 rfl) (At.nrd S42.at' 11 rfl) (At.rd S42.at' ET_37.hk 12 rfl) (At.nrd S42.at' 13 rfl) Q69 (by first | assumption | exact ⟨by omega, by omega⟩ | (unfold i64ok at *; omega) | (simp only [i64ok]; omega)) (by first | assumption | exact ⟨by omega, by omega⟩ | (unfold i64ok at *; omega) | (simp only [i64ok]; omega)) (by first | assumption | exact ⟨by omega, by omega⟩ | (unfold i64ok at *; omega) | (simp only [i64ok]; omega)) (by first | assumption | exact ⟨by omega, by omega⟩ | (unfold i64ok at *; omega) | (simp only [i64ok]; omega)) (At.rd S42.at' ET_41.hk 14 rfl) (At.nrd S42.at' 15 rfl) (At.rd S42.at' ET_30.hk 16 rfl) (At.rd S42.at' ET_35.hk 0 rfl) (At.rd S42.at' ET_36.hk 1 rfl) (At.nrd S42.at' 2 rfl) (At.rd S42.at' ET_37.hk 3 rfl) (At.nrd S42.at' 4 rfl) Q80 (by first | assumption | exact ⟨by omega, by omega⟩ | (unfold i64ok at *; omega) | (simp only [i64ok]; omega)) (by first | assumption | exact ⟨by omega, by omega⟩ | (unfold i64ok at *; omega) | (simp only [i64ok]; omega)) (by first | assumption | exact ⟨by omega, by omega⟩ | (unfold i64ok at *; omega) | (simp only [i64ok]; omega)) (by first | assumption | exact ⟨by omega, by omega⟩ | (unfold i64ok at *; omega) | (simp only [i64ok]; omega)) (At.rd S42.at' ET_41.hk 5 rfl) (At.nrd S42.at' 6 rfl) (At.rd S42.at' ET_30.hk 7 rfl) (by rfl) (by exact (same2 (by assumption) (by assumption))) (by exact (same2 (by assumption) (by assumption))) (by rfl) (by rfl) (by rfl) (by rfl) (by exact (same2 (by assumption) (by assumption))) (by rfl) (by rfl)) ?_
     rintro _ w44 ⟨rfl, m44⟩
     refine ⟨_, rfl, fun _ F45 => ?_⟩
     have S44 := At.frame0 S42.at' m44
     clear m44
     refine ⟨Sd.of (S42.trans S44) [8, 25] rfl, ?_⟩
     refine g_take F45 rfl (i := 4) (listed' := #[true, true, true, true, true]) rfl (by kernel_rfl) (by kernel_rfl) (by kernel_rfl) (fun _ _ _ h => h) (Sd.of (S42.trans S44) [8, 25] rfl) rfl rfl rfl rfl (fun _ hz => (r_not rfl (F45.ev 25 rfl))) fun _ F46 => ?_
     refine wpAnyH_done (by kernel_rfl) (x_normal ?_) _
     exact ⟨DT_42, DS_42, DE_42, Q45, Q47, Q46, Q57, Q59, Q58, Q48, Q50, Q49, Q51, Q53, Q52, Q54, Q56, Q55, F46.cut rfl, ((S39.trans (S42.trans S44)).pick [8, 9, 10, 11, 12, 13, 14, 15, 16, 17, 18, 19, 20, 21, 22, 23, 24, 25, 0, 1, 2, 3, 4, 5, 6, 7] rfl), Q69, q42_0, q42_1, q42_2, q42_3, q42_4, q42_5, q42_6⟩
   · rintro a47 w47 ⟨DT_42, DS_42, DE_42, Q45, Q47, Q46, Q57, Q59, Q58, Q48, Q50, Q49, Q51, Q53, Q52, Q54, Q56, Q55, F47, S47, Q84, Q85, Q86, Q87, Q88, Q89, Q90, Q91⟩
     obtain ⟨Q117, Q137, Q157⟩ := At.ownInv S47.at' ET_35.hk 18 rfl
     obtain ⟨Q118, Q138, Q158⟩ := At.ownInv S47.at' ET_36.hk 19 rfl
     obtain ⟨Q119, Q139, Q159⟩ := At.ownInv S47.at' ET_37.hk 21 rfl
     obtain ⟨Q120, Q140, Q160⟩ := At.ownInv S47.at' ET_41.hk 23 rfl
     obtain ⟨Q121, Q141, Q161⟩ := At.ownInv S47.at' ET_30.hk 25 rfl
     refine x_normal (wp_cond_false (F47.ev 26 rfl) (wp_skip (x_normal (wp_seq (wp_region_lit (l_op (f_val F47 rfl rfl (r_assign rfl rfl) rfl fun _ F48 => ?_)))))))
     refine s_end (x_normal (wp_ret ?_))
     refine x_done (v := .bool true) F48 (results_1 Tryz.results3 (.tmp (F48.ev 2 rfl))) ?_
     exact ⟨rfl, (Mv.pick (S1.trans (T10.trans (S17.trans (T22.trans (S24.trans (S26.trans (T29.trans (S31.trans S47)))))))) [] rfl)⟩
end Go.Proofs.YtgfilegkabbliaaGreat
namespace Go.Proofs.YtgfilegkabbliaaGreat.kernelok
open Go.ChangeShapes Go.WideShapes Go.ChangeAt Go.RowKit
set_option maxRecDepth 100000
theorem cells_3 : Tryz.prog.cellsOf 3 = 1 := by kernel_rfl
theorem cells_4 : Tryz.prog.cellsOf 4 = 1 := by kernel_rfl
theorem cells_9 : Tryz.prog.cellsOf 9 = 1 := by kernel_rfl
theorem cells_22 : Tryz.prog.cellsOf 22 = 1 := by kernel_rfl
theorem cells_23 : Tryz.prog.cellsOf 23 = 1 := by kernel_rfl
theorem cells_24 : Tryz.prog.cellsOf 24 = 1 := by kernel_rfl
theorem cells_26 : Tryz.prog.cellsOf 26 = 2 := by kernel_rfl
theorem cells_28 : Tryz.prog.cellsOf 28 = 3 := by kernel_rfl
theorem cells_29 : Tryz.prog.cellsOf 29 = 1 := by kernel_rfl
theorem cells_30 : Tryz.prog.cellsOf 30 = 1 := by kernel_rfl
theorem cells_32 : Tryz.prog.cellsOf 32 = 11 := by kernel_rfl
theorem cells_56 : Tryz.prog.cellsOf 56 = 1 := by kernel_rfl
theorem cells_76 : Tryz.prog.cellsOf 76 = 2 := by kernel_rfl
theorem cells_78 : Tryz.prog.cellsOf 78 = 1 := by kernel_rfl
theorem cells_79 : Tryz.prog.cellsOf 79 = 1 := by kernel_rfl
theorem cells_80 : Tryz.prog.cellsOf 80 = 2 := by kernel_rfl
theorem cells_82 : Tryz.prog.cellsOf 82 = 10 := by kernel_rfl
theorem cells_86 : Tryz.prog.cellsOf 86 = 1 := by kernel_rfl
theorem cells_88 : Tryz.prog.cellsOf 88 = 8 := by kernel_rfl
theorem cells_117 : Tryz.prog.cellsOf 117 = 3 := by kernel_rfl
theorem cells_132 : Tryz.prog.cellsOf 132 = 6 := by kernel_rfl
theorem cells_135 : Tryz.prog.cellsOf 135 = 3 := by kernel_rfl
theorem cells_138 : Tryz.prog.cellsOf 138 = 7 := by kernel_rfl
theorem called (W : World) (args : Array Value) (h : ArgsRead Tryz.prog W Tryz.f3.params.toList args.toList) : Calls Tryz.prog 3 args W fun e W' => e = .returned (.bool true) ∧ Bl W W' := by
  obtain ⟨hl, h⟩ := h
  rw [Tryz.params3] at hl h
  obtain ⟨v0, rfl⟩ : ∃ v0, args = #[v0] := by
    obtain ⟨l⟩ := args
    match l, hl with
    | [v0], _ => exact ⟨v0, rfl⟩
  obtain ⟨r0, o0⟩ := h 0 _ v0 rfl rfl
  obtain ⟨cs0, rfl, hcs0⟩ := agg_of_okWide Tryz.underlying32 o0
  rw [hcs0] at r0
  have hlen0 := (r0.struct Tryz.underlying32).1
  rw [cells_32] at hlen0
  obtain ⟨c0_0, c0_1, c0_2, c0_3, c0_4, c0_5, c0_6, c0_7, c0_8, c0_9, c0_10, rfl⟩ : ∃ c0_0 c0_1 c0_2 c0_3 c0_4 c0_5 c0_6 c0_7 c0_8 c0_9 c0_10, cs0 = [c0_0, c0_1, c0_2, c0_3, c0_4, c0_5, c0_6, c0_7, c0_8, c0_9, c0_10] := by
    match cs0, hlen0 with
    | [c0_0, c0_1, c0_2, c0_3, c0_4, c0_5, c0_6, c0_7, c0_8, c0_9, c0_10], _ => exact ⟨c0_0, c0_1, c0_2, c0_3, c0_4, c0_5, c0_6, c0_7, c0_8, c0_9, c0_10, rfl⟩
  obtain ⟨_, hf_0⟩ := r0.struct Tryz.underlying32
  have f_0_0 : Reads Tryz.prog W 22 [c0_0] := by simpa [cells_22] using hf_0 0 _ rfl
  obtain ⟨a_0_0, n_0_0, c_0_0, l_0_0, e_0_0, v_0_0⟩ := rdA_of Tryz.underlying22 cells_76 (by decide) (cell_row Tryz.underlying76 rfl rfl rfl rfl cells_9 cells_9 Tryz.underlying9 Tryz.underlying9) f_0_0
  cases e_0_0
  have f_0_1 : Reads Tryz.prog W 23 [c0_1] := by simpa [cells_23] using hf_0 1 _ rfl
  have row_0_1 : ∀ row, row.length = 10 → Reads Tryz.prog W 82 row → ∃ x, row = encTx x ∧ okTx x ∧ ∀ I ∈ inTx x, I.ra (fun _ => True) W := by
    intro row hl hr_0_1
    match row, hl with
    | [q_0_1_0, q_0_1_1, q_0_1_2, q_0_1_3, q_0_1_4, q_0_1_5, q_0_1_6, q_0_1_7, q_0_1_8, q_0_1_9], _ =>
      obtain ⟨_, hf_0_1e⟩ := hr_0_1.struct Tryz.underlying82
      have f_0_1e_0 : Reads Tryz.prog W 3 [q_0_1_0] := by simpa [cells_3] using hf_0_1e 0 _ rfl
      obtain ⟨i_0_1e_0, e_0_1e_0, h_0_1e_0, g_0_1e_0⟩ := f_0_1e_0.i64 Tryz.underlying3
      cases e_0_1e_0
      have f_0_1e_1 : Reads Tryz.prog W 3 [q_0_1_1] := by simpa [cells_3] using hf_0_1e 1 _ rfl
      obtain ⟨i_0_1e_1, e_0_1e_1, h_0_1e_1, g_0_1e_1⟩ := f_0_1e_1.i64 Tryz.underlying3
      cases e_0_1e_1
      have f_0_1e_2 : Reads Tryz.prog W 3 [q_0_1_2] := by simpa [cells_3] using hf_0_1e 2 _ rfl
      obtain ⟨i_0_1e_2, e_0_1e_2, h_0_1e_2, g_0_1e_2⟩ := f_0_1e_2.i64 Tryz.underlying3
      cases e_0_1e_2
      have f_0_1e_3 : Reads Tryz.prog W 3 [q_0_1_3] := by simpa [cells_3] using hf_0_1e 3 _ rfl
      obtain ⟨i_0_1e_3, e_0_1e_3, h_0_1e_3, g_0_1e_3⟩ := f_0_1e_3.i64 Tryz.underlying3
      cases e_0_1e_3
      have f_0_1e_4 : Reads Tryz.prog W 78 [q_0_1_4] := by simpa [cells_78] using hf_0_1e 4 _ rfl
      obtain ⟨a_0_1e_4, n_0_1e_4, c_0_1e_4, l_0_1e_4, e_0_1e_4, v_0_1e_4⟩ := rdA_of Tryz.underlying78 cells_132 (by decide) (call_row Tryz.underlying132 rfl rfl rfl rfl rfl rfl rfl rfl rfl rfl rfl rfl cells_3 cells_9 cells_9 cells_3 cells_3 cells_9 Tryz.underlying3 Tryz.underlying9 Tryz.underlying9 Tryz.underlying3 Tryz.underlying3 Tryz.underlying9) f_0_1e_4
      cases e_0_1e_4
      have f_0_1e_5 : Reads Tryz.prog W 79 [q_0_1_5] := by simpa [cells_79] using hf_0_1e 5 _ rfl
      obtain ⟨a_0_1e_5, n_0_1e_5, c_0_1e_5, l_0_1e_5, e_0_1e_5, v_0_1e_5⟩ := rdA_of Tryz.underlying79 cells_135 (by decide) (ans_row Tryz.underlying135 rfl rfl rfl rfl rfl rfl cells_3 cells_3 cells_9 Tryz.underlying3 Tryz.underlying3 Tryz.underlying9) f_0_1e_5
      cases e_0_1e_5
      have f_0_1e_6 : Reads Tryz.prog W 80 [q_0_1_6, q_0_1_7] := by simpa [cells_80] using hf_0_1e 6 _ rfl
      obtain ⟨_, hf_0_1e_6⟩ := f_0_1e_6.struct Tryz.underlying80
      have f_0_1e_6_0 : Reads Tryz.prog W 30 [q_0_1_6] := by simpa [cells_30] using hf_0_1e_6 0 _ rfl
      obtain ⟨a_0_1e_6_0, n_0_1e_6_0, c_0_1e_6_0, l_0_1e_6_0, e_0_1e_6_0, v_0_1e_6_0⟩ := rdA_of Tryz.underlying30 cells_9 (by decide) (str_row Tryz.underlying9) f_0_1e_6_0
      cases e_0_1e_6_0
      have f_0_1e_6_1 : Reads Tryz.prog W 30 [q_0_1_7] := by simpa [cells_30] using hf_0_1e_6 1 _ rfl
      obtain ⟨a_0_1e_6_1, n_0_1e_6_1, c_0_1e_6_1, l_0_1e_6_1, e_0_1e_6_1, v_0_1e_6_1⟩ := rdA_of Tryz.underlying30 cells_9 (by decide) (str_row Tryz.underlying9) f_0_1e_6_1
      cases e_0_1e_6_1
      have f_0_1e_7 : Reads Tryz.prog W 56 [q_0_1_8] := by simpa [cells_56] using hf_0_1e 7 _ rfl
      obtain ⟨a_0_1e_7, n_0_1e_7, c_0_1e_7, l_0_1e_7, e_0_1e_7, v_0_1e_7⟩ := rdA_of Tryz.underlying56 cells_3 (by decide) (int_row Tryz.underlying3) f_0_1e_7
      cases e_0_1e_7
      have f_0_1e_8 : Reads Tryz.prog W 3 [q_0_1_9] := by simpa [cells_3] using hf_0_1e 8 _ rfl
      obtain ⟨i_0_1e_8, e_0_1e_8, h_0_1e_8, g_0_1e_8⟩ := f_0_1e_8.i64 Tryz.underlying3
      cases e_0_1e_8
      refine ⟨(⟨(⟨i_0_1e_0, i_0_1e_1, i_0_1e_2, i_0_1e_3, l_0_1e_4, l_0_1e_5, (⟨l_0_1e_6_0, l_0_1e_6_1⟩ : TouchD), l_0_1e_7, i_0_1e_8⟩ : TxD), a_0_1e_4, n_0_1e_4, c_0_1e_4, a_0_1e_5, n_0_1e_5, c_0_1e_5, a_0_1e_6_0, n_0_1e_6_0, c_0_1e_6_0, a_0_1e_6_1, n_0_1e_6_1, c_0_1e_6_1, a_0_1e_7, n_0_1e_7, c_0_1e_7⟩ : TxH), rfl, ⟨⟨h_0_1e_0, g_0_1e_0⟩, ⟨h_0_1e_1, g_0_1e_1⟩, ⟨h_0_1e_2, g_0_1e_2⟩, ⟨h_0_1e_3, g_0_1e_3⟩, ⟨h_0_1e_8, g_0_1e_8⟩⟩, fun I hI => ?_⟩
      simp only [inTx, List.mem_cons, List.not_mem_nil, or_false] at hI
      rcases hI with rfl | rfl | rfl | rfl | rfl
      · exact v_0_1e_4
      · exact v_0_1e_5
      · exact v_0_1e_6_0
      · exact v_0_1e_6_1
      · exact v_0_1e_7
  obtain ⟨a_0_1, n_0_1, c_0_1, l_0_1, e_0_1, v_0_1, u_0_1⟩ := rdN_of (inns := inTx) Tryz.underlying23 cells_82 (by decide) row_0_1 f_0_1
  cases e_0_1
  have f_0_2 : Reads Tryz.prog W 28 [c0_2, c0_3, c0_4] := by simpa [cells_28] using hf_0 2 _ rfl
  obtain ⟨_, hf_0_2⟩ := f_0_2.struct Tryz.underlying28
  have f_0_2_0 : Reads Tryz.prog W 24 [c0_2] := by simpa [cells_24] using hf_0_2 0 _ rfl
  have row_0_2_0 : ∀ row, row.length = 3 → Reads Tryz.prog W 117 row → ∃ x, row = encSlot x ∧ okSlot x ∧ ∀ I ∈ inSlot x, I.ra (fun _ => True) W := by
    intro row hl hr_0_2_0
    match row, hl with
    | [q_0_2_0_0, q_0_2_0_1, q_0_2_0_2], _ =>
      obtain ⟨_, hf_0_2_0e⟩ := hr_0_2_0.struct Tryz.underlying117
      have f_0_2_0e_0 : Reads Tryz.prog W 3 [q_0_2_0_0] := by simpa [cells_3] using hf_0_2_0e 0 _ rfl
      obtain ⟨i_0_2_0e_0, e_0_2_0e_0, h_0_2_0e_0, g_0_2_0e_0⟩ := f_0_2_0e_0.i64 Tryz.underlying3
      cases e_0_2_0e_0
      have f_0_2_0e_1 : Reads Tryz.prog W 22 [q_0_2_0_1] := by simpa [cells_22] using hf_0_2_0e 1 _ rfl
      obtain ⟨a_0_2_0e_1, n_0_2_0e_1, c_0_2_0e_1, l_0_2_0e_1, e_0_2_0e_1, v_0_2_0e_1⟩ := rdA_of Tryz.underlying22 cells_76 (by decide) (cell_row Tryz.underlying76 rfl rfl rfl rfl cells_9 cells_9 Tryz.underlying9 Tryz.underlying9) f_0_2_0e_1
      cases e_0_2_0e_1
      have f_0_2_0e_2 : Reads Tryz.prog W 4 [q_0_2_0_2] := by simpa [cells_4] using hf_0_2_0e 2 _ rfl
      obtain ⟨b_0_2_0e_2, e_0_2_0e_2⟩ := f_0_2_0e_2.bool Tryz.underlying4
      cases e_0_2_0e_2
      refine ⟨(⟨(⟨i_0_2_0e_0, l_0_2_0e_1, b_0_2_0e_2⟩ : SlotD), a_0_2_0e_1, n_0_2_0e_1, c_0_2_0e_1⟩ : SlotH), rfl, ⟨h_0_2_0e_0, g_0_2_0e_0⟩, fun I hI => ?_⟩
      simp only [inSlot, List.mem_cons, List.not_mem_nil, or_false] at hI
      rcases hI with rfl
      · exact v_0_2_0e_1
  obtain ⟨a_0_2_0, n_0_2_0, c_0_2_0, l_0_2_0, e_0_2_0, v_0_2_0, u_0_2_0⟩ := rdN_of (inns := inSlot) Tryz.underlying24 cells_117 (by decide) row_0_2_0 f_0_2_0
  cases e_0_2_0
  have f_0_2_1 : Reads Tryz.prog W 26 [c0_3, c0_4] := by simpa [cells_26] using hf_0_2 1 _ rfl
  obtain ⟨_, hf_0_2_1⟩ := f_0_2_1.struct Tryz.underlying26
  have f_0_2_1_0 : Reads Tryz.prog W 9 [c0_3] := by simpa [cells_9] using hf_0_2_1 0 _ rfl
  obtain ⟨s_0_2_1_0, e_0_2_1_0, h_0_2_1_0⟩ := f_0_2_1_0.string Tryz.underlying9
  cases e_0_2_1_0
  have f_0_2_1_1 : Reads Tryz.prog W 3 [c0_4] := by simpa [cells_3] using hf_0_2_1 1 _ rfl
  obtain ⟨i_0_2_1_1, e_0_2_1_1, h_0_2_1_1, g_0_2_1_1⟩ := f_0_2_1_1.i64 Tryz.underlying3
  cases e_0_2_1_1
  have f_0_3 : Reads Tryz.prog W 3 [c0_5] := by simpa [cells_3] using hf_0 3 _ rfl
  obtain ⟨i_0_3, e_0_3, h_0_3, g_0_3⟩ := f_0_3.i64 Tryz.underlying3
  cases e_0_3
  have f_0_4 : Reads Tryz.prog W 3 [c0_6] := by simpa [cells_3] using hf_0 4 _ rfl
  obtain ⟨i_0_4, e_0_4, h_0_4, g_0_4⟩ := f_0_4.i64 Tryz.underlying3
  cases e_0_4
  have f_0_5 : Reads Tryz.prog W 3 [c0_7] := by simpa [cells_3] using hf_0 5 _ rfl
  obtain ⟨i_0_5, e_0_5, h_0_5, g_0_5⟩ := f_0_5.i64 Tryz.underlying3
  cases e_0_5
  have f_0_6 : Reads Tryz.prog W 29 [c0_8] := by simpa [cells_29] using hf_0 6 _ rfl
  have row_0_6 : ∀ row, row.length = 8 → Reads Tryz.prog W 88 row → ∃ x, row = encEntry x ∧ okEntry x ∧ ∀ I ∈ inEntry x, I.ra (fun _ => True) W := by
    intro row hl hr_0_6
    match row, hl with
    | [q_0_6_0, q_0_6_1, q_0_6_2, q_0_6_3, q_0_6_4, q_0_6_5, q_0_6_6, q_0_6_7], _ =>
      obtain ⟨_, hf_0_6e⟩ := hr_0_6.struct Tryz.underlying88
      have f_0_6e_0 : Reads Tryz.prog W 3 [q_0_6_0] := by simpa [cells_3] using hf_0_6e 0 _ rfl
      obtain ⟨i_0_6e_0, e_0_6e_0, h_0_6e_0, g_0_6e_0⟩ := f_0_6e_0.i64 Tryz.underlying3
      cases e_0_6e_0
      have f_0_6e_1 : Reads Tryz.prog W 3 [q_0_6_1] := by simpa [cells_3] using hf_0_6e 1 _ rfl
      obtain ⟨i_0_6e_1, e_0_6e_1, h_0_6e_1, g_0_6e_1⟩ := f_0_6e_1.i64 Tryz.underlying3
      cases e_0_6e_1
      have f_0_6e_2 : Reads Tryz.prog W 3 [q_0_6_2] := by simpa [cells_3] using hf_0_6e 2 _ rfl
      obtain ⟨i_0_6e_2, e_0_6e_2, h_0_6e_2, g_0_6e_2⟩ := f_0_6e_2.i64 Tryz.underlying3
      cases e_0_6e_2
      have f_0_6e_3 : Reads Tryz.prog W 86 [q_0_6_3] := by simpa [cells_86] using hf_0_6e 3 _ rfl
      have row_0_6e_3 : ∀ row, row.length = 7 → Reads Tryz.prog W 138 row → ∃ x, row = encStep x ∧ okStep x := by
        intro row hl hr_0_6e_3
        match row, hl with
        | [q_0_6e_3_0, q_0_6e_3_1, q_0_6e_3_2, q_0_6e_3_3, q_0_6e_3_4, q_0_6e_3_5, q_0_6e_3_6], _ =>
          obtain ⟨_, hf_0_6e_3e⟩ := hr_0_6e_3.struct Tryz.underlying138
          have f_0_6e_3e_0 : Reads Tryz.prog W 3 [q_0_6e_3_0] := by simpa [cells_3] using hf_0_6e_3e 0 _ rfl
          obtain ⟨i_0_6e_3e_0, e_0_6e_3e_0, h_0_6e_3e_0, g_0_6e_3e_0⟩ := f_0_6e_3e_0.i64 Tryz.underlying3
          cases e_0_6e_3e_0
          have f_0_6e_3e_1 : Reads Tryz.prog W 132 [q_0_6e_3_1, q_0_6e_3_2, q_0_6e_3_3, q_0_6e_3_4, q_0_6e_3_5, q_0_6e_3_6] := by simpa [cells_132] using hf_0_6e_3e 1 _ rfl
          obtain ⟨_, hf_0_6e_3e_1⟩ := f_0_6e_3e_1.struct Tryz.underlying132
          have f_0_6e_3e_1_0 : Reads Tryz.prog W 3 [q_0_6e_3_1] := by simpa [cells_3] using hf_0_6e_3e_1 0 _ rfl
          obtain ⟨i_0_6e_3e_1_0, e_0_6e_3e_1_0, h_0_6e_3e_1_0, g_0_6e_3e_1_0⟩ := f_0_6e_3e_1_0.i64 Tryz.underlying3
          cases e_0_6e_3e_1_0
          have f_0_6e_3e_1_1 : Reads Tryz.prog W 9 [q_0_6e_3_2] := by simpa [cells_9] using hf_0_6e_3e_1 1 _ rfl
          obtain ⟨s_0_6e_3e_1_1, e_0_6e_3e_1_1, h_0_6e_3e_1_1⟩ := f_0_6e_3e_1_1.string Tryz.underlying9
          cases e_0_6e_3e_1_1
          have f_0_6e_3e_1_2 : Reads Tryz.prog W 9 [q_0_6e_3_3] := by simpa [cells_9] using hf_0_6e_3e_1 2 _ rfl
          obtain ⟨s_0_6e_3e_1_2, e_0_6e_3e_1_2, h_0_6e_3e_1_2⟩ := f_0_6e_3e_1_2.string Tryz.underlying9
          cases e_0_6e_3e_1_2
          have f_0_6e_3e_1_3 : Reads Tryz.prog W 3 [q_0_6e_3_4] := by simpa [cells_3] using hf_0_6e_3e_1 3 _ rfl
          obtain ⟨i_0_6e_3e_1_3, e_0_6e_3e_1_3, h_0_6e_3e_1_3, g_0_6e_3e_1_3⟩ := f_0_6e_3e_1_3.i64 Tryz.underlying3
          cases e_0_6e_3e_1_3
          have f_0_6e_3e_1_4 : Reads Tryz.prog W 3 [q_0_6e_3_5] := by simpa [cells_3] using hf_0_6e_3e_1 4 _ rfl
          obtain ⟨i_0_6e_3e_1_4, e_0_6e_3e_1_4, h_0_6e_3e_1_4, g_0_6e_3e_1_4⟩ := f_0_6e_3e_1_4.i64 Tryz.underlying3
          cases e_0_6e_3e_1_4
          have f_0_6e_3e_1_5 : Reads Tryz.prog W 9 [q_0_6e_3_6] := by simpa [cells_9] using hf_0_6e_3e_1 5 _ rfl
          obtain ⟨s_0_6e_3e_1_5, e_0_6e_3e_1_5, h_0_6e_3e_1_5⟩ := f_0_6e_3e_1_5.string Tryz.underlying9
          cases e_0_6e_3e_1_5
          exact ⟨(⟨i_0_6e_3e_0, (⟨i_0_6e_3e_1_0, s_0_6e_3e_1_1, s_0_6e_3e_1_2, i_0_6e_3e_1_3, i_0_6e_3e_1_4, s_0_6e_3e_1_5⟩ : CallD)⟩ : StepD), rfl, ⟨⟨h_0_6e_3e_0, g_0_6e_3e_0⟩, ⟨h_0_6e_3e_1_0, g_0_6e_3e_1_0⟩, (maxLen_le h_0_6e_3e_1_1), (maxLen_le h_0_6e_3e_1_2), ⟨h_0_6e_3e_1_3, g_0_6e_3e_1_3⟩, ⟨h_0_6e_3e_1_4, g_0_6e_3e_1_4⟩, (maxLen_le h_0_6e_3e_1_5)⟩⟩
      obtain ⟨a_0_6e_3, n_0_6e_3, c_0_6e_3, l_0_6e_3, e_0_6e_3, v_0_6e_3⟩ := rdA_of Tryz.underlying86 cells_138 (by decide) row_0_6e_3 f_0_6e_3
      cases e_0_6e_3
      have f_0_6e_4 : Reads Tryz.prog W 79 [q_0_6_4] := by simpa [cells_79] using hf_0_6e 4 _ rfl
      obtain ⟨a_0_6e_4, n_0_6e_4, c_0_6e_4, l_0_6e_4, e_0_6e_4, v_0_6e_4⟩ := rdA_of Tryz.underlying79 cells_135 (by decide) (ans_row Tryz.underlying135 rfl rfl rfl rfl rfl rfl cells_3 cells_3 cells_9 Tryz.underlying3 Tryz.underlying3 Tryz.underlying9) f_0_6e_4
      cases e_0_6e_4
      have f_0_6e_5 : Reads Tryz.prog W 3 [q_0_6_5] := by simpa [cells_3] using hf_0_6e 5 _ rfl
      obtain ⟨i_0_6e_5, e_0_6e_5, h_0_6e_5, g_0_6e_5⟩ := f_0_6e_5.i64 Tryz.underlying3
      cases e_0_6e_5
      have f_0_6e_6 : Reads Tryz.prog W 3 [q_0_6_6] := by simpa [cells_3] using hf_0_6e 6 _ rfl
      obtain ⟨i_0_6e_6, e_0_6e_6, h_0_6e_6, g_0_6e_6⟩ := f_0_6e_6.i64 Tryz.underlying3
      cases e_0_6e_6
      have f_0_6e_7 : Reads Tryz.prog W 4 [q_0_6_7] := by simpa [cells_4] using hf_0_6e 7 _ rfl
      obtain ⟨b_0_6e_7, e_0_6e_7⟩ := f_0_6e_7.bool Tryz.underlying4
      cases e_0_6e_7
      refine ⟨(⟨(⟨i_0_6e_0, i_0_6e_1, i_0_6e_2, l_0_6e_3, l_0_6e_4, i_0_6e_5, i_0_6e_6, b_0_6e_7⟩ : EntryD), a_0_6e_3, n_0_6e_3, c_0_6e_3, a_0_6e_4, n_0_6e_4, c_0_6e_4⟩ : EntryH), rfl, ⟨⟨h_0_6e_0, g_0_6e_0⟩, ⟨h_0_6e_1, g_0_6e_1⟩, ⟨h_0_6e_2, g_0_6e_2⟩, ⟨h_0_6e_5, g_0_6e_5⟩, ⟨h_0_6e_6, g_0_6e_6⟩⟩, fun I hI => ?_⟩
      simp only [inEntry, List.mem_cons, List.not_mem_nil, or_false] at hI
      rcases hI with rfl | rfl
      · exact v_0_6e_3
      · exact v_0_6e_4
  obtain ⟨a_0_6, n_0_6, c_0_6, l_0_6, e_0_6, v_0_6, u_0_6⟩ := rdN_of (inns := inEntry) Tryz.underlying29 cells_88 (by decide) row_0_6 f_0_6
  cases e_0_6
  have f_0_7 : Reads Tryz.prog W 30 [c0_9] := by simpa [cells_30] using hf_0 7 _ rfl
  obtain ⟨a_0_7, n_0_7, c_0_7, l_0_7, e_0_7, v_0_7⟩ := rdA_of Tryz.underlying30 cells_9 (by decide) (str_row Tryz.underlying9) f_0_7
  cases e_0_7
  have f_0_8 : Reads Tryz.prog W 4 [c0_10] := by simpa [cells_4] using hf_0 8 _ rfl
  obtain ⟨b_0_8, e_0_8⟩ := f_0_8.bool Tryz.underlying4
  cases e_0_8
  exact (laws_FnExactKernelOk_c (w := W) (H := fun _ => True) (aK := (⟨l_0_0, l_0_1, (⟨l_0_2_0, (⟨s_0_2_1_0, i_0_2_1_1⟩ : JouD)⟩ : DiskH), i_0_3, i_0_4, i_0_5, l_0_6, l_0_7, b_0_8⟩ : KernH)) v_0_0 v_0_1 u_0_1 v_0_2_0 u_0_2_0 (maxLen_le h_0_2_1_0) ⟨h_0_2_1_1, g_0_2_1_1⟩ ⟨h_0_3, g_0_3⟩ ⟨h_0_4, g_0_4⟩ ⟨h_0_5, g_0_5⟩ v_0_6 u_0_6 v_0_7).mono fun e W' ⟨h1, h2⟩ => ⟨h1, h2.bl⟩
theorem own : ownKnob Tryz.prog.godebug = none := by kernel_rfl
theorem laidOut : laidOutB Tryz.prog = true := by kernel_rfl
theorem readable : ∀ t ∈ Tryz.f3.params.toList, Tryz.prog.readableRec t = true ∧ t < Tryz.prog.types.size := of_decide_eq_true (by kernel_rfl)
theorem lifted (os : Os) (started : os.Started) (H : Type) (enc : TypeId × Value → H) :
    ReturnsInHanded {} Tryz.checked os 3 .any (Rows.fnExactKernelOkSpec.pre6 enc Tryz.prog Tryz.f3 Rows.fnExactKernelOkRow.domain false) (Rows.fnExactKernelOkSpec.post enc Tryz.prog Tryz.f3 false true false false) := by
  refine returnsInHanded_of_change (C := Tryz.checked) own started (by kernel_rfl) Tryz.func3
    (ChangeSpec.witness6 (enc := enc) (C := Tryz.checked) false ⟨#[], #[.agg #[.slice none 0 0, .slice none 0 0, .slice none 0 0, .string (⟨#[]⟩ : ByteArray), .int .i64 0, .int .i64 0, .int .i64 0, .int .i64 0, .slice none 0 0, .slice none 0 0, .bool false]], []⟩ 8 (by kernel_rfl) (by kernel_rfl) (by kernel_rfl) (by kernel_rfl)) ?_
  intro W base args ds gs before hval hW _ _
  refine law_contract laidOut readable Tryz.underlying4 rfl rfl ?_ called H enc false true false false W args ds gs before hval hW
  intro H ds hd
  match ds, hd with
  | [a], _ => rfl
theorem proved : Rows.FnExactKernelOkSaid :=
  OpenClaim.holds_of_wide 3 Tryz.f3 rfl rfl rfl rfl rfl rfl rfl ⟨rfl, rfl, rfl, rfl, rfl⟩ rfl rfl rfl rfl rfl (by kernel_rfl) Tryz.func3 (by kernel_rfl)
    (of_decide_eq_true (by kernel_rfl)) (by unfold Func.isWrapper; first | (rw [if_pos (by decide +kernel)]; kernel_rfl) | (rw [if_neg (by decide +kernel)]; exact ⟨rfl, rfl⟩))
    (fun os started H enc _ => lifted os started H enc)
end Go.Proofs.YtgfilegkabbliaaGreat.kernelok
