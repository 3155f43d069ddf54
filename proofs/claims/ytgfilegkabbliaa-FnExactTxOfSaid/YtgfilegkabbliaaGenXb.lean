/-
  Walks: transactions in the laws' hands.
-/
import Derived.Test.YtgfilegkabbliaaGenXa
namespace Go.Proofs.Ytgfilegkabbliaa
open Go.ChangeShapes Go.WideShapes Go.ChangeAt Go.RowKit
set_option maxRecDepth 100000
set_option maxHeartbeats 1000000
theorem laws_szTx_c {w : World} {H : Nat → Prop} {a : TxD} {Q3 : Option Addr} {Q5 Q4 : Nat} {Q0 : Option Addr} {Q2 Q1 : Nat} {a_Ra : Option Addr} {a_Rn a_Rc : Nat} {a_Wa : Option Addr} {a_Wn a_Wc : Nat} {Q6 : Option Addr} {Q8 Q7 : Nat} {left : Int} (Q21 : i64ok a.id) (Q19 : i64ok a.age) (Q22 : i64ok a.proc) (Q20 : i64ok a.began) (Q10 : RdA 6 encK okK H w (.slice Q3 Q5 Q4) a.calls) (Q9 : RdA 3 encR okR H w (.slice Q0 Q2 Q1) a.answers) (Q12 : RdA 1 encS okS H w (.slice a_Ra a_Rn a_Rc) a.touch.reads) (Q13 : RdA 1 encS okS H w (.slice a_Wa a_Wn a_Wc) a.touch.writes) (Q11 : RdA 1 encI okI H w (.slice Q6 Q8 Q7) a.marks) (Q23 : i64ok a.state) (Q24 : i64ok left) (p0 : 0 ≤ left) (p1 : left ≤ 1048576) :
    Calls Try.prog 53 #[.agg #[.int .i64 a.id, .int .i64 a.age, .int .i64 a.proc, .int .i64 a.began, .slice Q3 Q5 Q4, .slice Q0 Q2 Q1, .slice a_Ra a_Rn a_Rc, .slice a_Wa a_Wn a_Wc, .slice Q6 Q8 Q7, .int .i64 a.state], .int .i64 left] w fun e w' => e = .returned (.int .i64 (subOr left (szTxD a))) ∧ Mv [] w [] w' ∧ i64ok (subOr left (szTxD a)) := by
 have uU : True := (fun _ _ _ _ _ => trivial) Q21 Q19 Q22 Q20 Q23
 clear uU
 have Q15 : RdA 6 encK okK (V H w []) w (.slice Q3 Q5 Q4) a.calls := RdA.start Q10 (fun _ _ => fps_nil _)
 obtain ⟨Q31, Q26, Q36, Q41⟩ := RdA.inv Q10
 have Q14 : RdA 3 encR okR (V H w []) w (.slice Q0 Q2 Q1) a.answers := RdA.start Q9 (fun _ _ => fps_nil _)
 obtain ⟨Q30, Q25, Q35, Q40⟩ := RdA.inv Q9
 have Q17 : RdA 1 encS okS (V H w []) w (.slice a_Ra a_Rn a_Rc) a.touch.reads := RdA.start Q12 (fun _ _ => fps_nil _)
 obtain ⟨Q33, Q28, Q38, Q43⟩ := RdA.inv Q12
 have Q18 : RdA 1 encS okS (V H w []) w (.slice a_Wa a_Wn a_Wc) a.touch.writes := RdA.start Q13 (fun _ _ => fps_nil _)
 obtain ⟨Q34, Q29, Q39, Q44⟩ := RdA.inv Q13
 have Q16 : RdA 1 encI okI (V H w []) w (.slice Q6 Q8 Q7) a.marks := RdA.start Q11 (fun _ _ => fps_nil _)
 obtain ⟨Q32, Q27, Q37, Q42⟩ := RdA.inv Q11
 refine calls_enter 30 Try.func53 rfl Try.ntmps53 (Nat.le_of_ble_eq_true rfl) (fun _ F0i => ?_)
 have F0 : Fr 30 [(0, .agg #[.int .i64 a.id, .int .i64 a.age, .int .i64 a.proc, .int .i64 a.began, .slice Q3 Q5 Q4, .slice Q0 Q2 Q1, .slice a_Ra a_Rn a_Rc, .slice a_Wa a_Wn a_Wc, .slice Q6 Q8 Q7, .int .i64 a.state]), (1, .int .i64 left)] _ := F0i
 clear F0i
 refine wp_seq (wp_region_lit (l_op (f_box F0 (At.nil w) rfl rfl rfl (F0.ev 0 rfl) rfl rfl fun b1 _ w1 F2 S1 => ?_)))
 refine l_op (f_val F2 rfl rfl (r_assign rfl rfl) rfl fun _ F3 => ?_)
 refine s_end (x_normal (wp_seq (wp_region_lit (l_op (f_val F3 rfl rfl (r_field FI_93_4 rfl (F3.ev 2 rfl) rfl) rfl fun _ F4 => ?_)))))
 refine l_op (f_val (v := .slice Q3 Q5 Q4) F4 rfl rfl (r_loadB S1.at' 0 TI_89 rfl rfl (F4.ev 5 rfl) rfl rfl (fun _ => rfl) rfl) rfl fun _ F5 => ?_)
 refine l_op (f_mv F5 rfl rfl rfl rfl rfl fun _ F6 => ?_)
 refine l_op (f_call F6 CF_109 rfl rfl rfl rfl (lc (F6.ev 6 rfl) (lc (F6.ev 7 rfl) rfl)) (laws_szCallS_c (a := a.calls) (left := left) (RdA.mv (Nat.succ_pos _) Q15 S1) Q24 (by first | assumption | omega | (simp <;> omega)) (by first | assumption | omega | (simp <;> omega))) ?_)
 rintro _ w7 ⟨rfl, m7, q7_0⟩
 refine ⟨_, rfl, fun _ F8 => ?_⟩
 have S7 := At.frame0 S1.at' m7
 clear m7
 refine l_op (f_as F8 rfl rfl rfl rfl rfl fun _ F9 => ?_)
 refine s_end (x_normal (wp_seq (wp_seq (wp_region_lit (l_op (f_mv F9 rfl rfl rfl rfl rfl fun _ F10 => ?_))))))
 refine l_op (f_val F10 rfl rfl (r_cmp (b := decide ((subOr left (szCalls a.calls)) < 0)) (.inr (.inr (.inl rfl))) rfl (F10.ev 9 rfl) rfl (dec_of (by omega))) rfl fun _ F11 => ?_)
 refine s_end (x_normal (x_cond (p := (subOr left (szCalls a.calls)) < 0) (F11.ev 10 rfl) (fun h12 => ?_) (fun h12 => ?_)))
 · skip
   refine wp_seq (wp_region_lit (l_op (f_val F11 rfl rfl (r_assign rfl rfl) rfl fun _ F13 => ?_)))
   refine s_end (x_normal (wp_ret (x_then_ret ?_)))
   refine x_done (v := .int .i64 (-1)) F13 (results_1 Try.results53 (.tmp (F13.ev 4 rfl))) ?_
   exact ⟨(by rw [(show (-1) = (subOr left (szTxD a)) from by unfold szTxD; first | exact sz4_a (by assumption) | exact sz4_b (by assumption) (by assumption) | exact sz4_c (by assumption) (by assumption) (by assumption) | exact sz4_d (by assumption) (by assumption) (by assumption) | (rw [← sz4_d (by assumption) (by assumption) (by assumption)]; exact subOr_neg1 (by assumption)))]), (Mv.pick (S1.trans S7) [] rfl), subOr_i64 p0 p1⟩
 · skip
   refine wp_skip (x_normal (wp_seq (wp_region_lit (l_op (f_val F11 rfl rfl (r_field FI_93_5 rfl (F11.ev 2 rfl) rfl) rfl fun _ F14 => ?_)))))
   refine l_op (f_val (v := .slice Q0 Q2 Q1) F14 rfl rfl (r_loadB S7.at' 0 TI_90 rfl rfl (F14.ev 11 rfl) rfl rfl (fun _ => rfl) rfl) rfl fun _ F15 => ?_)
   refine l_op (f_mv F15 rfl rfl rfl rfl rfl fun _ F16 => ?_)
   refine l_op (f_call F16 CF_110 rfl rfl rfl rfl (lc (F16.ev 12 rfl) (lc (F16.ev 13 rfl) rfl)) (laws_szAnswerS_c (a := a.answers) (left := (subOr left (szCalls a.calls))) (RdA.mv (Nat.succ_pos _) Q14 (S1.trans S7)) (by first | assumption | exact ⟨by omega, by omega⟩ | (unfold i64ok at *; omega)) (by first | assumption | omega | (simp <;> omega)) (by have q1 := subOr_bd left (szCalls a.calls) p0; omega)) ?_)
   rintro _ w17 ⟨rfl, m17, q17_0⟩
   refine ⟨_, rfl, fun _ F18 => ?_⟩
   have S17 := At.frame0 S7.at' m17
   clear m17
   refine l_op (f_as F18 rfl rfl rfl rfl rfl fun _ F19 => ?_)
   refine s_end (x_normal (wp_seq (wp_seq (wp_region_lit (l_op (f_mv F19 rfl rfl rfl rfl rfl fun _ F20 => ?_))))))
   refine l_op (f_val F20 rfl rfl (r_cmp (b := decide ((subOr (subOr left (szCalls a.calls)) (szAnss a.answers)) < 0)) (.inr (.inr (.inl rfl))) rfl (F20.ev 15 rfl) rfl (dec_of (by omega))) rfl fun _ F21 => ?_)
   refine s_end (x_normal (x_cond (p := (subOr (subOr left (szCalls a.calls)) (szAnss a.answers)) < 0) (F21.ev 16 rfl) (fun h22 => ?_) (fun h22 => ?_)))
   · skip
     refine wp_seq (wp_region_lit (l_op (f_val F21 rfl rfl (r_assign rfl rfl) rfl fun _ F23 => ?_)))
     refine s_end (x_normal (wp_ret (x_then_ret ?_)))
     refine x_done (v := .int .i64 (-1)) F23 (results_1 Try.results53 (.tmp (F23.ev 4 rfl))) ?_
     exact ⟨(by rw [(show (-1) = (subOr left (szTxD a)) from by unfold szTxD; first | exact sz4_a (by assumption) | exact sz4_b (by assumption) (by assumption) | exact sz4_c (by assumption) (by assumption) (by assumption) | exact sz4_d (by assumption) (by assumption) (by assumption) | (rw [← sz4_d (by assumption) (by assumption) (by assumption)]; exact subOr_neg1 (by assumption)))]), (Mv.pick (S1.trans (S7.trans S17)) [] rfl), subOr_i64 p0 p1⟩
   · skip
     refine wp_skip (x_normal (wp_seq (wp_region_lit (l_op (f_val F21 rfl rfl (r_field FI_93_6 rfl (F21.ev 2 rfl) rfl) rfl fun _ F24 => ?_)))))
     refine l_op (f_val (v := .agg #[.slice a_Ra a_Rn a_Rc, .slice a_Wa a_Wn a_Wc]) F24 rfl rfl (r_loadB S17.at' 0 TI_91 rfl rfl (F24.ev 17 rfl) rfl rfl (fun h => nomatch h) rfl) rfl fun _ F25 => ?_)
     refine l_op (f_mv F25 rfl rfl rfl rfl rfl fun _ F26 => ?_)
     refine l_op (f_call F26 CF_111 rfl rfl rfl rfl (lc (F26.ev 18 rfl) (lc (F26.ev 19 rfl) rfl)) (laws_szTouch_c (a := a.touch) (left := (subOr (subOr left (szCalls a.calls)) (szAnss a.answers))) (RdA.mv (Nat.succ_pos _) Q17 (S1.trans (S7.trans S17))) (RdA.mv (Nat.succ_pos _) Q18 (S1.trans (S7.trans S17))) (by first | assumption | exact ⟨by omega, by omega⟩ | (unfold i64ok at *; omega)) (by first | assumption | omega | (simp <;> omega)) (by have q1 := subOr_bd left (szCalls a.calls) p0; have q2 := subOr_bd (subOr left (szCalls a.calls)) (szAnss a.answers) (by omega); omega)) ?_)
     rintro _ w27 ⟨rfl, m27, q27_0⟩
     refine ⟨_, rfl, fun _ F28 => ?_⟩
     have S27 := At.frame0 S17.at' m27
     clear m27
     refine l_op (f_as F28 rfl rfl rfl rfl rfl fun _ F29 => ?_)
     have T30 : Mv _ _ [bx b1 [.int .i64 a.id, .int .i64 a.age, .int .i64 a.proc, .int .i64 a.began, .slice Q3 Q5 Q4, .slice Q0 Q2 Q1, .slice a_Ra a_Rn a_Rc, .slice a_Wa a_Wn a_Wc, .slice Q6 Q8 Q7, .int .i64 a.state] 93] _ := S27
     refine s_end (x_normal (wp_seq (wp_seq (wp_region_lit (l_op (f_mv F29 rfl rfl rfl rfl rfl fun _ F31 => ?_))))))
     refine l_op (f_val F31 rfl rfl (r_cmp (b := decide ((subOr (subOr (subOr left (szCalls a.calls)) (szAnss a.answers)) (szTouchD a.touch)) < 0)) (.inr (.inr (.inl rfl))) rfl (F31.ev 21 rfl) rfl (dec_of (by omega))) rfl fun _ F32 => ?_)
     refine s_end (x_normal (x_cond (p := (subOr (subOr (subOr left (szCalls a.calls)) (szAnss a.answers)) (szTouchD a.touch)) < 0) (F32.ev 22 rfl) (fun h33 => ?_) (fun h33 => ?_)))
     · skip
       refine wp_seq (wp_region_lit (l_op (f_val F32 rfl rfl (r_assign rfl rfl) rfl fun _ F34 => ?_)))
       refine s_end (x_normal (wp_ret (x_then_ret ?_)))
       refine x_done (v := .int .i64 (-1)) F34 (results_1 Try.results53 (.tmp (F34.ev 4 rfl))) ?_
       exact ⟨(by rw [(show (-1) = (subOr left (szTxD a)) from by unfold szTxD; first | exact sz4_a (by assumption) | exact sz4_b (by assumption) (by assumption) | exact sz4_c (by assumption) (by assumption) (by assumption) | exact sz4_d (by assumption) (by assumption) (by assumption) | (rw [← sz4_d (by assumption) (by assumption) (by assumption)]; exact subOr_neg1 (by assumption)))]), (Mv.pick (S1.trans (S7.trans (S17.trans T30))) [] rfl), subOr_i64 p0 p1⟩
     · skip
       refine wp_skip (x_normal (wp_seq (wp_region_lit (l_op (f_val F32 rfl rfl (r_field FI_93_7 rfl (F32.ev 2 rfl) rfl) rfl fun _ F35 => ?_)))))
       refine l_op (f_val (v := .slice Q6 Q8 Q7) F35 rfl rfl (r_loadB T30.at' 0 TI_53 rfl rfl (F35.ev 23 rfl) rfl rfl (fun _ => rfl) rfl) rfl fun _ F36 => ?_)
       refine l_op (f_mv F36 rfl rfl rfl rfl rfl fun _ F37 => ?_)
       refine l_op (f_call F37 CF_112 rfl rfl rfl rfl (lc (F37.ev 24 rfl) (lc (F37.ev 25 rfl) rfl)) (laws_szIntS_c (a := a.marks) (left := (subOr (subOr (subOr left (szCalls a.calls)) (szAnss a.answers)) (szTouchD a.touch))) (RdA.mv (Nat.succ_pos _) Q16 (S1.trans (S7.trans (S17.trans T30)))) (by first | assumption | exact ⟨by omega, by omega⟩ | (unfold i64ok at *; omega)) (by first | assumption | omega | (simp <;> omega)) (by have q1 := subOr_bd left (szCalls a.calls) p0; have q2 := subOr_bd (subOr left (szCalls a.calls)) (szAnss a.answers) (by omega); have q3 := subOr_bd (subOr (subOr left (szCalls a.calls)) (szAnss a.answers)) (szTouchD a.touch) (by omega); omega)) ?_)
       rintro _ w38 ⟨rfl, m38, q38_0⟩
       refine ⟨_, rfl, fun _ F39 => ?_⟩
       have S38 := At.frame0 T30.at' m38
       clear m38
       refine l_op (f_as F39 rfl rfl rfl rfl rfl fun _ F40 => ?_)
       refine s_end (x_normal (wp_seq (wp_seq (wp_region_lit (l_op (f_mv F40 rfl rfl rfl rfl rfl fun _ F41 => ?_))))))
       refine l_op (f_val F41 rfl rfl (r_cmp (b := decide ((subOr (subOr (subOr (subOr left (szCalls a.calls)) (szAnss a.answers)) (szTouchD a.touch)) a.marks.length) < 0)) (.inr (.inr (.inl rfl))) rfl (F41.ev 27 rfl) rfl (dec_of (by omega))) rfl fun _ F42 => ?_)
       refine s_end (x_normal (x_cond (p := (subOr (subOr (subOr (subOr left (szCalls a.calls)) (szAnss a.answers)) (szTouchD a.touch)) a.marks.length) < 0) (F42.ev 28 rfl) (fun h43 => ?_) (fun h43 => ?_)))
       · skip
         refine wp_seq (wp_region_lit (l_op (f_val F42 rfl rfl (r_assign rfl rfl) rfl fun _ F44 => ?_)))
         refine s_end (x_normal (wp_ret (x_then_ret ?_)))
         refine x_done (v := .int .i64 (-1)) F44 (results_1 Try.results53 (.tmp (F44.ev 4 rfl))) ?_
         exact ⟨(by rw [(show (-1) = (subOr left (szTxD a)) from by unfold szTxD; first | exact sz4_a (by assumption) | exact sz4_b (by assumption) (by assumption) | exact sz4_c (by assumption) (by assumption) (by assumption) | exact sz4_d (by assumption) (by assumption) (by assumption) | (rw [← sz4_d (by assumption) (by assumption) (by assumption)]; exact subOr_neg1 (by assumption)))]), (Mv.pick (S1.trans (S7.trans (S17.trans (T30.trans S38)))) [] rfl), subOr_i64 p0 p1⟩
       · skip
         refine wp_skip (x_normal (wp_seq (wp_region_lit (l_op (f_mv F42 rfl rfl rfl rfl rfl fun _ F45 => ?_)))))
         refine l_op (f_as F45 rfl rfl rfl rfl rfl fun _ F46 => ?_)
         refine s_end (x_normal (wp_ret ?_))
         refine x_done (v := .int .i64 (subOr (subOr (subOr (subOr left (szCalls a.calls)) (szAnss a.answers)) (szTouchD a.touch)) a.marks.length)) F46 (results_1 Try.results53 (.tmp (F46.ev 4 rfl))) ?_
         exact ⟨(by rw [(show (subOr (subOr (subOr (subOr left (szCalls a.calls)) (szAnss a.answers)) (szTouchD a.touch)) a.marks.length) = (subOr left (szTxD a)) from by unfold szTxD; first | exact sz4_a (by assumption) | exact sz4_b (by assumption) (by assumption) | exact sz4_c (by assumption) (by assumption) (by assumption) | exact sz4_d (by assumption) (by assumption) (by assumption) | (rw [← sz4_d (by assumption) (by assumption) (by assumption)]; exact subOr_neg1 (by assumption)))]), (Mv.pick (S1.trans (S7.trans (S17.trans (T30.trans S38)))) [] rfl), subOr_i64 p0 p1⟩
theorem laws_toTx_c {w : World} {H : Nat → Prop} {a : TxD} {Q9 : Option Addr} {Q11 Q10 : Nat} {Q6 : Option Addr} {Q8 Q7 : Nat} {a_Ra : Option Addr} {a_Rn a_Rc : Nat} {a_Wa : Option Addr} {a_Wn a_Wc : Nat} {Q12 : Option Addr} {Q14 Q13 : Nat} (Q51 : i64ok a.id) (Q49 : i64ok a.age) (Q52 : i64ok a.proc) (Q50 : i64ok a.began) (Q40 : RdA 6 encK okK H w (.slice Q9 Q11 Q10) a.calls) (Q39 : RdA 3 encR okR H w (.slice Q6 Q8 Q7) a.answers) (Q42 : RdA 1 encS okS H w (.slice a_Ra a_Rn a_Rc) a.touch.reads) (Q43 : RdA 1 encS okS H w (.slice a_Wa a_Wn a_Wc) a.touch.writes) (Q41 : RdA 1 encI okI H w (.slice Q12 Q14 Q13) a.marks) (Q53 : i64ok a.state) (p0 : a.calls.length ≤ 1048576) (p1 : a.answers.length ≤ 1048576) (p2 : a.touch.reads.length ≤ 1048576) (p3 : a.touch.writes.length ≤ 1048576) (p4 : a.marks.length ≤ 1048576) :
    Calls Try.prog 55 #[.agg #[.int .i64 a.id, .int .i64 a.age, .int .i64 a.proc, .int .i64 a.began, .slice Q9 Q11 Q10, .slice Q6 Q8 Q7, .slice a_Ra a_Rn a_Rc, .slice a_Wa a_Wn a_Wc, .slice Q12 Q14 Q13, .int .i64 a.state]] w fun e w' => ∃ (Q33 : Option Addr), ∃ (Q35 : Nat), ∃ (Q34 : Nat), ∃ (Q30 : Option Addr), ∃ (Q32 : Nat), ∃ (Q31 : Nat), ∃ (Q24 : Option Addr), ∃ (Q26 : Nat), ∃ (Q25 : Nat), ∃ (Q27 : Option Addr), ∃ (Q29 : Nat), ∃ (Q28 : Nat), ∃ (Q36 : Option Addr), ∃ (Q38 : Nat), ∃ (Q37 : Nat), e = .returned (.agg #[.int .i64 a.id, .int .i64 a.age, .int .i64 a.proc, .int .i64 a.began, .slice Q33 Q35 Q34, .slice Q30 Q32 Q31, .slice Q24 Q26 Q25, .slice Q27 Q29 Q28, .slice Q36 Q38 Q37, .int .i64 a.state]) ∧ Mv [] w [ow 148 6 encK okK (.slice Q33 Q35 Q34) a.calls, ow 151 3 encR okR (.slice Q30 Q32 Q31) a.answers, ow 9 1 encS okS (.slice Q24 Q26 Q25) a.touch.reads, ow 9 1 encS okS (.slice Q27 Q29 Q28) a.touch.writes, ow 3 1 encI okI (.slice Q36 Q38 Q37) a.marks] w' := by
 have uU : True := (fun _ _ _ _ _ _ _ _ _ _ => trivial) Q51 Q49 Q52 Q50 Q53 p0 p1 p2 p3 p4
 clear uU
 have Q45 : RdA 6 encK okK (V H w []) w (.slice Q9 Q11 Q10) a.calls := RdA.start Q40 (fun _ _ => fps_nil _)
 obtain ⟨Q60, Q55, Q80, Q85⟩ := RdA.inv Q40
 have Q44 : RdA 3 encR okR (V H w []) w (.slice Q6 Q8 Q7) a.answers := RdA.start Q39 (fun _ _ => fps_nil _)
 obtain ⟨Q59, Q54, Q79, Q84⟩ := RdA.inv Q39
 have Q47 : RdA 1 encS okS (V H w []) w (.slice a_Ra a_Rn a_Rc) a.touch.reads := RdA.start Q42 (fun _ _ => fps_nil _)
 obtain ⟨Q62, Q57, Q82, Q87⟩ := RdA.inv Q42
 have Q48 : RdA 1 encS okS (V H w []) w (.slice a_Wa a_Wn a_Wc) a.touch.writes := RdA.start Q43 (fun _ _ => fps_nil _)
 obtain ⟨Q63, Q58, Q83, Q88⟩ := RdA.inv Q43
 have Q46 : RdA 1 encI okI (V H w []) w (.slice Q12 Q14 Q13) a.marks := RdA.start Q41 (fun _ _ => fps_nil _)
 obtain ⟨Q61, Q56, Q81, Q86⟩ := RdA.inv Q41
 refine calls_enter 36 Try.func55 rfl Try.ntmps55 (Nat.le_of_ble_eq_true rfl) (fun _ F0i => ?_)
 have F0 : Fr 36 [(0, .agg #[.int .i64 a.id, .int .i64 a.age, .int .i64 a.proc, .int .i64 a.began, .slice Q9 Q11 Q10, .slice Q6 Q8 Q7, .slice a_Ra a_Rn a_Rc, .slice a_Wa a_Wn a_Wc, .slice Q12 Q14 Q13, .int .i64 a.state])] _ := F0i
 clear F0i
 refine wp_seq (wp_region_lit (l_op (f_box F0 (At.nil w) rfl rfl rfl (F0.ev 0 rfl) rfl rfl fun b1 _ w1 F2 S1 => ?_)))
 refine l_op (f_alloc F2 S1.at' ZI_71 rfl rfl rfl rfl rfl fun b3 _ w3 F4 S3 => ?_)
 refine s_end (x_normal (wp_seq (wp_region_lit (l_op (f_alloc F4 S3.at' ZI_71 rfl rfl rfl rfl rfl fun b5 _ w5 F6 S5 => ?_)))))
 refine s_end (x_normal (wp_seq (wp_region_lit (l_op (f_val F6 rfl rfl (r_field FI_93_0 rfl (F6.ev 1 rfl) rfl) rfl fun _ F7 => ?_)))))
 refine l_op (f_val (v := .int .i64 a.id) F7 rfl rfl (r_loadB S5.at' 2 TI_3 rfl rfl (F7.ev 4 rfl) rfl rfl (fun _ => rfl) rfl) rfl fun _ F8 => ?_)
 refine l_op (f_val F8 rfl rfl (r_field FI_71_0 rfl (F8.ev 3 rfl) rfl) rfl fun _ F9 => ?_)
 refine l_op (s_store S5.at' 0 TI_3 rfl rfl rfl rfl rfl (F9.ev 6 rfl) (F9.ev 5 rfl) rfl rfl rfl rfl rfl fun w10 S10 => ?_)
 have T11 : Mv _ _ [bx b5 [.int .i64 a.id, .int .i64 0, .int .i64 0, .int .i64 0, .slice none 0 0, .slice none 0 0, .slice none 0 0, .slice none 0 0, .slice none 0 0, .int .i64 0] 71, bx b3 [.int .i64 0, .int .i64 0, .int .i64 0, .int .i64 0, .slice none 0 0, .slice none 0 0, .slice none 0 0, .slice none 0 0, .slice none 0 0, .int .i64 0] 71, bx b1 [.int .i64 a.id, .int .i64 a.age, .int .i64 a.proc, .int .i64 a.began, .slice Q9 Q11 Q10, .slice Q6 Q8 Q7, .slice a_Ra a_Rn a_Rc, .slice a_Wa a_Wn a_Wc, .slice Q12 Q14 Q13, .int .i64 a.state] 93] _ := S10
 refine s_end (x_normal (wp_seq (wp_region_lit (l_op (f_val F9 rfl rfl (r_field FI_93_1 rfl (F9.ev 1 rfl) rfl) rfl fun _ F12 => ?_)))))
 refine l_op (f_val (v := .int .i64 a.age) F12 rfl rfl (r_loadB T11.at' 2 TI_3 rfl rfl (F12.ev 7 rfl) rfl rfl (fun _ => rfl) rfl) rfl fun _ F13 => ?_)
 refine l_op (f_val F13 rfl rfl (r_field FI_71_1 rfl (F13.ev 3 rfl) rfl) rfl fun _ F14 => ?_)
 refine l_op (s_store T11.at' 0 TI_3 rfl rfl rfl rfl rfl (F14.ev 9 rfl) (F14.ev 8 rfl) rfl rfl rfl rfl rfl fun w15 S15 => ?_)
 refine s_end (x_normal (wp_seq (wp_region_lit (l_op (f_val F14 rfl rfl (r_field FI_93_2 rfl (F14.ev 1 rfl) rfl) rfl fun _ F16 => ?_)))))
 refine l_op (f_val (v := .int .i64 a.proc) F16 rfl rfl (r_loadB S15.at' 2 TI_3 rfl rfl (F16.ev 10 rfl) rfl rfl (fun _ => rfl) rfl) rfl fun _ F17 => ?_)
 refine l_op (f_val F17 rfl rfl (r_field FI_71_2 rfl (F17.ev 3 rfl) rfl) rfl fun _ F18 => ?_)
 refine l_op (s_store S15.at' 0 TI_3 rfl rfl rfl rfl rfl (F18.ev 12 rfl) (F18.ev 11 rfl) rfl rfl rfl rfl rfl fun w19 S19 => ?_)
 refine s_end (x_normal (wp_seq (wp_region_lit (l_op (f_val F18 rfl rfl (r_field FI_93_3 rfl (F18.ev 1 rfl) rfl) rfl fun _ F20 => ?_)))))
 refine l_op (f_val (v := .int .i64 a.began) F20 rfl rfl (r_loadB S19.at' 2 TI_3 rfl rfl (F20.ev 13 rfl) rfl rfl (fun _ => rfl) rfl) rfl fun _ F21 => ?_)
 refine l_op (f_val F21 rfl rfl (r_field FI_71_3 rfl (F21.ev 3 rfl) rfl) rfl fun _ F22 => ?_)
 refine l_op (s_store S19.at' 0 TI_3 rfl rfl rfl rfl rfl (F22.ev 15 rfl) (F22.ev 14 rfl) rfl rfl rfl rfl rfl fun w23 S23 => ?_)
 refine s_end (x_normal (wp_seq (wp_region_lit (l_op (f_val F22 rfl rfl (r_field FI_93_4 rfl (F22.ev 1 rfl) rfl) rfl fun _ F24 => ?_)))))
 refine l_op (f_val (v := .slice Q9 Q11 Q10) F24 rfl rfl (r_loadB S23.at' 2 TI_89 rfl rfl (F24.ev 16 rfl) rfl rfl (fun _ => rfl) rfl) rfl fun _ F25 => ?_)
 refine l_op (f_call F25 CF_113 rfl rfl rfl rfl (lc (F25.ev 17 rfl) rfl) (laws_toCallS_c (a := a.calls) (RdA.mv (Nat.succ_pos _) Q45 (S1.trans (S3.trans (S5.trans (T11.trans (S15.trans (S19.trans S23))))))) (by first | assumption | omega | (simp <;> omega))) ?_)
 rintro _ w26 ⟨Q0, Q2, Q1, rfl, m26⟩
 refine ⟨_, rfl, fun _ F27 => ?_⟩
 have S26 : Mv _ _ [ow 148 6 encK okK (.slice Q0 Q2 Q1) a.calls, bx b5 [.int .i64 a.id, .int .i64 a.age, .int .i64 a.proc, .int .i64 a.began, .slice none 0 0, .slice none 0 0, .slice none 0 0, .slice none 0 0, .slice none 0 0, .int .i64 0] 71, bx b3 [.int .i64 0, .int .i64 0, .int .i64 0, .int .i64 0, .slice none 0 0, .slice none 0 0, .slice none 0 0, .slice none 0 0, .slice none 0 0, .int .i64 0] 71, bx b1 [.int .i64 a.id, .int .i64 a.age, .int .i64 a.proc, .int .i64 a.began, .slice Q9 Q11 Q10, .slice Q6 Q8 Q7, .slice a_Ra a_Rn a_Rc, .slice a_Wa a_Wn a_Wc, .slice Q12 Q14 Q13, .int .i64 a.state] 93] _ := At.frame S23.at' [] rfl m26
 obtain ⟨Q64, Q69, Q74⟩ := At.ownInv S26.at' ET_66.hk 0 rfl
 clear m26
 refine l_op (f_val F27 rfl rfl (r_field FI_71_4 rfl (F27.ev 3 rfl) rfl) rfl fun _ F28 => ?_)
 refine l_op (s_store S26.at' 1 TI_66 rfl rfl rfl rfl rfl (F28.ev 19 rfl) (F28.ev 18 rfl) rfl rfl rfl rfl rfl fun w29 S29 => ?_)
 have T30 : Mv _ _ [bx b5 [.int .i64 a.id, .int .i64 a.age, .int .i64 a.proc, .int .i64 a.began, .slice Q0 Q2 Q1, .slice none 0 0, .slice none 0 0, .slice none 0 0, .slice none 0 0, .int .i64 0] 71, ow 148 6 encK okK (.slice Q0 Q2 Q1) a.calls, bx b3 [.int .i64 0, .int .i64 0, .int .i64 0, .int .i64 0, .slice none 0 0, .slice none 0 0, .slice none 0 0, .slice none 0 0, .slice none 0 0, .int .i64 0] 71, bx b1 [.int .i64 a.id, .int .i64 a.age, .int .i64 a.proc, .int .i64 a.began, .slice Q9 Q11 Q10, .slice Q6 Q8 Q7, .slice a_Ra a_Rn a_Rc, .slice a_Wa a_Wn a_Wc, .slice Q12 Q14 Q13, .int .i64 a.state] 93] _ := S29
 refine s_end (x_normal (wp_seq (wp_region_lit (l_op (f_val F28 rfl rfl (r_field FI_93_5 rfl (F28.ev 1 rfl) rfl) rfl fun _ F31 => ?_)))))
 refine l_op (f_val (v := .slice Q6 Q8 Q7) F31 rfl rfl (r_loadB T30.at' 3 TI_90 rfl rfl (F31.ev 20 rfl) rfl rfl (fun _ => rfl) rfl) rfl fun _ F32 => ?_)
 refine l_op (f_call F32 CF_114 rfl rfl rfl rfl (lc (F32.ev 21 rfl) rfl) (laws_toAnswerS_c (a := a.answers) (RdA.mv (Nat.succ_pos _) Q44 (S1.trans (S3.trans (S5.trans (T11.trans (S15.trans (S19.trans (S23.trans (S26.trans T30))))))))) (by first | assumption | omega | (simp <;> omega))) ?_)
 rintro _ w33 ⟨Q3, Q5, Q4, rfl, m33⟩
 refine ⟨_, rfl, fun _ F34 => ?_⟩
 have S33 : Mv _ _ [ow 151 3 encR okR (.slice Q3 Q5 Q4) a.answers, bx b5 [.int .i64 a.id, .int .i64 a.age, .int .i64 a.proc, .int .i64 a.began, .slice Q0 Q2 Q1, .slice none 0 0, .slice none 0 0, .slice none 0 0, .slice none 0 0, .int .i64 0] 71, ow 148 6 encK okK (.slice Q0 Q2 Q1) a.calls, bx b3 [.int .i64 0, .int .i64 0, .int .i64 0, .int .i64 0, .slice none 0 0, .slice none 0 0, .slice none 0 0, .slice none 0 0, .slice none 0 0, .int .i64 0] 71, bx b1 [.int .i64 a.id, .int .i64 a.age, .int .i64 a.proc, .int .i64 a.began, .slice Q9 Q11 Q10, .slice Q6 Q8 Q7, .slice a_Ra a_Rn a_Rc, .slice a_Wa a_Wn a_Wc, .slice Q12 Q14 Q13, .int .i64 a.state] 93] _ := At.frame T30.at' [] rfl m33
 obtain ⟨Q65, Q70, Q75⟩ := At.ownInv S33.at' ET_67.hk 0 rfl
 clear m33
 refine l_op (f_val F34 rfl rfl (r_field FI_71_5 rfl (F34.ev 3 rfl) rfl) rfl fun _ F35 => ?_)
 refine l_op (s_store S33.at' 1 TI_67 rfl rfl rfl rfl rfl (F35.ev 23 rfl) (F35.ev 22 rfl) rfl rfl rfl rfl rfl fun w36 S36 => ?_)
 refine s_end (x_normal (wp_seq (wp_region_lit (l_op (f_val F35 rfl rfl (r_field FI_93_6 rfl (F35.ev 1 rfl) rfl) rfl fun _ F37 => ?_)))))
 refine l_op (f_val (v := .agg #[.slice a_Ra a_Rn a_Rc, .slice a_Wa a_Wn a_Wc]) F37 rfl rfl (r_loadB S36.at' 4 TI_91 rfl rfl (F37.ev 24 rfl) rfl rfl (fun h => nomatch h) rfl) rfl fun _ F38 => ?_)
 refine l_op (f_call F38 CF_115 rfl rfl rfl rfl (lc (F38.ev 25 rfl) rfl) (laws_toTouch_c (a := a.touch) (RdA.mv (Nat.succ_pos _) Q47 (S1.trans (S3.trans (S5.trans (T11.trans (S15.trans (S19.trans (S23.trans (S26.trans (T30.trans (S33.trans S36))))))))))) (RdA.mv (Nat.succ_pos _) Q48 (S1.trans (S3.trans (S5.trans (T11.trans (S15.trans (S19.trans (S23.trans (S26.trans (T30.trans (S33.trans S36))))))))))) (by first | assumption | omega | (simp <;> omega)) (by first | assumption | omega | (simp <;> omega))) ?_)
 rintro _ w39 ⟨Q15, Q17, Q16, Q18, Q20, Q19, rfl, m39⟩
 refine ⟨_, rfl, fun _ F40 => ?_⟩
 have S39 : Mv _ _ [ow 9 1 encS okS (.slice Q15 Q17 Q16) a.touch.reads, ow 9 1 encS okS (.slice Q18 Q20 Q19) a.touch.writes, bx b5 [.int .i64 a.id, .int .i64 a.age, .int .i64 a.proc, .int .i64 a.began, .slice Q0 Q2 Q1, .slice Q3 Q5 Q4, .slice none 0 0, .slice none 0 0, .slice none 0 0, .int .i64 0] 71, ow 151 3 encR okR (.slice Q3 Q5 Q4) a.answers, ow 148 6 encK okK (.slice Q0 Q2 Q1) a.calls, bx b3 [.int .i64 0, .int .i64 0, .int .i64 0, .int .i64 0, .slice none 0 0, .slice none 0 0, .slice none 0 0, .slice none 0 0, .slice none 0 0, .int .i64 0] 71, bx b1 [.int .i64 a.id, .int .i64 a.age, .int .i64 a.proc, .int .i64 a.began, .slice Q9 Q11 Q10, .slice Q6 Q8 Q7, .slice a_Ra a_Rn a_Rc, .slice a_Wa a_Wn a_Wc, .slice Q12 Q14 Q13, .int .i64 a.state] 93] _ := At.frame S36.at' [] rfl m39
 obtain ⟨Q66, Q71, Q76⟩ := At.ownInv S39.at' ET_62.hk 0 rfl
 obtain ⟨Q67, Q72, Q77⟩ := At.ownInv S39.at' ET_62.hk 1 rfl
 clear m39
 refine l_op (f_val F40 rfl rfl (r_field FI_71_6 rfl (F40.ev 3 rfl) rfl) rfl fun _ F41 => ?_)
 refine l_op (s_store S39.at' 2 TI_69 rfl rfl rfl rfl rfl (F41.ev 27 rfl) (F41.ev 26 rfl) rfl rfl rfl rfl rfl fun w42 S42 => ?_)
 have T43 : Mv _ _ [bx b5 [.int .i64 a.id, .int .i64 a.age, .int .i64 a.proc, .int .i64 a.began, .slice Q0 Q2 Q1, .slice Q3 Q5 Q4, .slice Q15 Q17 Q16, .slice Q18 Q20 Q19, .slice none 0 0, .int .i64 0] 71, ow 9 1 encS okS (.slice Q15 Q17 Q16) a.touch.reads, ow 9 1 encS okS (.slice Q18 Q20 Q19) a.touch.writes, ow 151 3 encR okR (.slice Q3 Q5 Q4) a.answers, ow 148 6 encK okK (.slice Q0 Q2 Q1) a.calls, bx b3 [.int .i64 0, .int .i64 0, .int .i64 0, .int .i64 0, .slice none 0 0, .slice none 0 0, .slice none 0 0, .slice none 0 0, .slice none 0 0, .int .i64 0] 71, bx b1 [.int .i64 a.id, .int .i64 a.age, .int .i64 a.proc, .int .i64 a.began, .slice Q9 Q11 Q10, .slice Q6 Q8 Q7, .slice a_Ra a_Rn a_Rc, .slice a_Wa a_Wn a_Wc, .slice Q12 Q14 Q13, .int .i64 a.state] 93] _ := S42
 refine s_end (x_normal (wp_seq (wp_region_lit (l_op (f_val F41 rfl rfl (r_field FI_93_7 rfl (F41.ev 1 rfl) rfl) rfl fun _ F44 => ?_)))))
 refine l_op (f_val (v := .slice Q12 Q14 Q13) F44 rfl rfl (r_loadB T43.at' 6 TI_53 rfl rfl (F44.ev 28 rfl) rfl rfl (fun _ => rfl) rfl) rfl fun _ F45 => ?_)
 refine l_op (f_call F45 CF_34 rfl rfl rfl rfl (lc (F45.ev 29 rfl) rfl) (laws_toIntS_c (a := a.marks) (RdA.mv (Nat.succ_pos _) Q46 (S1.trans (S3.trans (S5.trans (T11.trans (S15.trans (S19.trans (S23.trans (S26.trans (T30.trans (S33.trans (S36.trans (S39.trans T43))))))))))))) (by first | assumption | omega | (simp <;> omega))) ?_)
 rintro _ w46 ⟨Q21, Q23, Q22, rfl, m46⟩
 refine ⟨_, rfl, fun _ F47 => ?_⟩
 have S46 : Mv _ _ [ow 3 1 encI okI (.slice Q21 Q23 Q22) a.marks, bx b5 [.int .i64 a.id, .int .i64 a.age, .int .i64 a.proc, .int .i64 a.began, .slice Q0 Q2 Q1, .slice Q3 Q5 Q4, .slice Q15 Q17 Q16, .slice Q18 Q20 Q19, .slice none 0 0, .int .i64 0] 71, ow 9 1 encS okS (.slice Q15 Q17 Q16) a.touch.reads, ow 9 1 encS okS (.slice Q18 Q20 Q19) a.touch.writes, ow 151 3 encR okR (.slice Q3 Q5 Q4) a.answers, ow 148 6 encK okK (.slice Q0 Q2 Q1) a.calls, bx b3 [.int .i64 0, .int .i64 0, .int .i64 0, .int .i64 0, .slice none 0 0, .slice none 0 0, .slice none 0 0, .slice none 0 0, .slice none 0 0, .int .i64 0] 71, bx b1 [.int .i64 a.id, .int .i64 a.age, .int .i64 a.proc, .int .i64 a.began, .slice Q9 Q11 Q10, .slice Q6 Q8 Q7, .slice a_Ra a_Rn a_Rc, .slice a_Wa a_Wn a_Wc, .slice Q12 Q14 Q13, .int .i64 a.state] 93] _ := At.frame T43.at' [] rfl m46
 obtain ⟨Q68, Q73, Q78⟩ := At.ownInv S46.at' ET_53.hk 0 rfl
 clear m46
 refine l_op (f_val F47 rfl rfl (r_field FI_71_7 rfl (F47.ev 3 rfl) rfl) rfl fun _ F48 => ?_)
 refine l_op (s_store S46.at' 1 TI_53 rfl rfl rfl rfl rfl (F48.ev 31 rfl) (F48.ev 30 rfl) rfl rfl rfl rfl rfl fun w49 S49 => ?_)
 refine s_end (x_normal (wp_seq (wp_region_lit (l_op (f_val F48 rfl rfl (r_field FI_93_8 rfl (F48.ev 1 rfl) rfl) rfl fun _ F50 => ?_)))))
 refine l_op (f_val (v := .int .i64 a.state) F50 rfl rfl (r_loadB S49.at' 7 TI_3 rfl rfl (F50.ev 32 rfl) rfl rfl (fun _ => rfl) rfl) rfl fun _ F51 => ?_)
 refine l_op (f_val F51 rfl rfl (r_field FI_71_8 rfl (F51.ev 3 rfl) rfl) rfl fun _ F52 => ?_)
 refine l_op (s_store S49.at' 0 TI_3 rfl rfl rfl rfl rfl (F52.ev 34 rfl) (F52.ev 33 rfl) rfl rfl rfl rfl rfl fun w53 S53 => ?_)
 refine s_end (x_normal (wp_seq (wp_region_lit (l_op (f_val (v := .agg #[.int .i64 a.id, .int .i64 a.age, .int .i64 a.proc, .int .i64 a.began, .slice Q0 Q2 Q1, .slice Q3 Q5 Q4, .slice Q15 Q17 Q16, .slice Q18 Q20 Q19, .slice Q21 Q23 Q22, .int .i64 a.state]) F52 rfl rfl (r_loadB S53.at' 0 TI_71 rfl rfl (F52.ev 3 rfl) rfl rfl (fun h => nomatch h) rfl) rfl fun _ F54 => ?_)))))
 refine l_op (s_store S53.at' 6 TI_71 rfl rfl rfl rfl rfl (F54.ev 2 rfl) (F54.ev 35 rfl) rfl rfl rfl rfl rfl fun w55 S55 => ?_)
 have T56 : Mv _ _ [bx b3 [.int .i64 a.id, .int .i64 a.age, .int .i64 a.proc, .int .i64 a.began, .slice Q0 Q2 Q1, .slice Q3 Q5 Q4, .slice Q15 Q17 Q16, .slice Q18 Q20 Q19, .slice Q21 Q23 Q22, .int .i64 a.state] 71, bx b5 [.int .i64 a.id, .int .i64 a.age, .int .i64 a.proc, .int .i64 a.began, .slice Q0 Q2 Q1, .slice Q3 Q5 Q4, .slice Q15 Q17 Q16, .slice Q18 Q20 Q19, .slice Q21 Q23 Q22, .int .i64 a.state] 71, ow 3 1 encI okI (.slice Q21 Q23 Q22) a.marks, ow 9 1 encS okS (.slice Q15 Q17 Q16) a.touch.reads, ow 9 1 encS okS (.slice Q18 Q20 Q19) a.touch.writes, ow 151 3 encR okR (.slice Q3 Q5 Q4) a.answers, ow 148 6 encK okK (.slice Q0 Q2 Q1) a.calls, bx b1 [.int .i64 a.id, .int .i64 a.age, .int .i64 a.proc, .int .i64 a.began, .slice Q9 Q11 Q10, .slice Q6 Q8 Q7, .slice a_Ra a_Rn a_Rc, .slice a_Wa a_Wn a_Wc, .slice Q12 Q14 Q13, .int .i64 a.state] 93] _ := S55
 refine s_end (x_normal (wp_ret ?_))
 refine x_done (v := .agg #[.int .i64 a.id, .int .i64 a.age, .int .i64 a.proc, .int .i64 a.began, .slice Q0 Q2 Q1, .slice Q3 Q5 Q4, .slice Q15 Q17 Q16, .slice Q18 Q20 Q19, .slice Q21 Q23 Q22, .int .i64 a.state]) F54 (results_1 Try.results55 (.cell (F54.ev 2 rfl) (run_loadVar' TI_71 _ [.int .i64 a.id, .int .i64 a.age, .int .i64 a.proc, .int .i64 a.began, .slice Q0 Q2 Q1, .slice Q3 Q5 Q4, .slice Q15 Q17 Q16, .slice Q18 Q20 Q19, .slice Q21 Q23 Q22, .int .i64 a.state] rfl (fun h => nomatch h) (At.cells T56.at' 0 rfl 0 [.int .i64 a.id, .int .i64 a.age, .int .i64 a.proc, .int .i64 a.began, .slice Q0 Q2 Q1, .slice Q3 Q5 Q4, .slice Q15 Q17 Q16, .slice Q18 Q20 Q19, .slice Q21 Q23 Q22, .int .i64 a.state] rfl)))) ?_
 exact ⟨Q0, Q2, Q1, Q3, Q5, Q4, Q15, Q17, Q16, Q18, Q20, Q19, Q21, Q23, Q22, rfl, (Mv.pick (S1.trans (S3.trans (S5.trans (T11.trans (S15.trans (S19.trans (S23.trans (S26.trans (T30.trans (S33.trans (S36.trans (S39.trans (T43.trans (S46.trans (S49.trans (S53.trans T56)))))))))))))))) [6, 5, 3, 4, 2] rfl)⟩
theorem laws_eqTx_c {w : World} {H : Nat → Prop} {a : TxD} {Q3 : Option Addr} {Q5 Q4 : Nat} {Q0 : Option Addr} {Q2 Q1 : Nat} {a_Ra : Option Addr} {a_Rn a_Rc : Nat} {a_Wa : Option Addr} {a_Wn a_Wc : Nat} {Q6 : Option Addr} {Q8 Q7 : Nat} {b : TxD} {Q12 : Option Addr} {Q14 Q13 : Nat} {Q9 : Option Addr} {Q11 Q10 : Nat} {b_Ra : Option Addr} {b_Rn b_Rc : Nat} {b_Wa : Option Addr} {b_Wn b_Wc : Nat} {Q15 : Option Addr} {Q17 Q16 : Nat} (Q40 : i64ok a.id) (Q38 : i64ok a.age) (Q41 : i64ok a.proc) (Q39 : i64ok a.began) (Q19 : Rd 6 encK okK H w (.slice Q3 Q5 Q4) a.calls) (Q18 : Rd 3 encR okR H w (.slice Q0 Q2 Q1) a.answers) (Q21 : Rd 1 encS okS H w (.slice a_Ra a_Rn a_Rc) a.touch.reads) (Q22 : Rd 1 encS okS H w (.slice a_Wa a_Wn a_Wc) a.touch.writes) (Q20 : Rd 1 encI okI H w (.slice Q6 Q8 Q7) a.marks) (Q42 : i64ok a.state) (Q45 : i64ok b.id) (Q43 : i64ok b.age) (Q46 : i64ok b.proc) (Q44 : i64ok b.began) (Q24 : Rd 6 encK okK H w (.slice Q12 Q14 Q13) b.calls) (Q23 : Rd 3 encR okR H w (.slice Q9 Q11 Q10) b.answers) (Q26 : Rd 1 encS okS H w (.slice b_Ra b_Rn b_Rc) b.touch.reads) (Q27 : Rd 1 encS okS H w (.slice b_Wa b_Wn b_Wc) b.touch.writes) (Q25 : Rd 1 encI okI H w (.slice Q15 Q17 Q16) b.marks) (Q47 : i64ok b.state) (p0 : a = b) :
    Calls Try.prog 44 #[.agg #[.int .i64 a.id, .int .i64 a.age, .int .i64 a.proc, .int .i64 a.began, .slice Q3 Q5 Q4, .slice Q0 Q2 Q1, .slice a_Ra a_Rn a_Rc, .slice a_Wa a_Wn a_Wc, .slice Q6 Q8 Q7, .int .i64 a.state], .agg #[.int .i64 b.id, .int .i64 b.age, .int .i64 b.proc, .int .i64 b.began, .slice Q12 Q14 Q13, .slice Q9 Q11 Q10, .slice b_Ra b_Rn b_Rc, .slice b_Wa b_Wn b_Wc, .slice Q15 Q17 Q16, .int .i64 b.state]] w fun e w' => e = .returned (.bool true) ∧ Mv [] w [] w' := by
 have uU : True := (fun _ _ _ _ _ _ _ _ _ _ => trivial) Q40 Q38 Q41 Q39 Q42 Q45 Q43 Q46 Q44 Q47
 clear uU
 have Q29 : Rd 6 encK okK (V H w []) w (.slice Q3 Q5 Q4) a.calls := Rd.start Q19 (fun _ _ => fps_nil _)
 obtain ⟨Q59, Q49, Q69, Q79⟩ := Rd.inv Q19
 have Q28 : Rd 3 encR okR (V H w []) w (.slice Q0 Q2 Q1) a.answers := Rd.start Q18 (fun _ _ => fps_nil _)
 obtain ⟨Q58, Q48, Q68, Q78⟩ := Rd.inv Q18
 have Q31 : Rd 1 encS okS (V H w []) w (.slice a_Ra a_Rn a_Rc) a.touch.reads := Rd.start Q21 (fun _ _ => fps_nil _)
 obtain ⟨Q61, Q51, Q71, Q81⟩ := Rd.inv Q21
 have Q32 : Rd 1 encS okS (V H w []) w (.slice a_Wa a_Wn a_Wc) a.touch.writes := Rd.start Q22 (fun _ _ => fps_nil _)
 obtain ⟨Q62, Q52, Q72, Q82⟩ := Rd.inv Q22
 have Q30 : Rd 1 encI okI (V H w []) w (.slice Q6 Q8 Q7) a.marks := Rd.start Q20 (fun _ _ => fps_nil _)
 obtain ⟨Q60, Q50, Q70, Q80⟩ := Rd.inv Q20
 have Q34 : Rd 6 encK okK (V H w []) w (.slice Q12 Q14 Q13) b.calls := Rd.start Q24 (fun _ _ => fps_nil _)
 obtain ⟨Q64, Q54, Q74, Q84⟩ := Rd.inv Q24
 have Q33 : Rd 3 encR okR (V H w []) w (.slice Q9 Q11 Q10) b.answers := Rd.start Q23 (fun _ _ => fps_nil _)
 obtain ⟨Q63, Q53, Q73, Q83⟩ := Rd.inv Q23
 have Q36 : Rd 1 encS okS (V H w []) w (.slice b_Ra b_Rn b_Rc) b.touch.reads := Rd.start Q26 (fun _ _ => fps_nil _)
 obtain ⟨Q66, Q56, Q76, Q86⟩ := Rd.inv Q26
 have Q37 : Rd 1 encS okS (V H w []) w (.slice b_Wa b_Wn b_Wc) b.touch.writes := Rd.start Q27 (fun _ _ => fps_nil _)
 obtain ⟨Q67, Q57, Q77, Q87⟩ := Rd.inv Q27
 have Q35 : Rd 1 encI okI (V H w []) w (.slice Q15 Q17 Q16) b.marks := Rd.start Q25 (fun _ _ => fps_nil _)
 obtain ⟨Q65, Q55, Q75, Q85⟩ := Rd.inv Q25
 refine calls_enter 54 Try.func44 rfl Try.ntmps44 (Nat.le_of_ble_eq_true rfl) (fun _ F0i => ?_)
 have F0 : Fr 54 [(0, .agg #[.int .i64 a.id, .int .i64 a.age, .int .i64 a.proc, .int .i64 a.began, .slice Q3 Q5 Q4, .slice Q0 Q2 Q1, .slice a_Ra a_Rn a_Rc, .slice a_Wa a_Wn a_Wc, .slice Q6 Q8 Q7, .int .i64 a.state]), (1, .agg #[.int .i64 b.id, .int .i64 b.age, .int .i64 b.proc, .int .i64 b.began, .slice Q12 Q14 Q13, .slice Q9 Q11 Q10, .slice b_Ra b_Rn b_Rc, .slice b_Wa b_Wn b_Wc, .slice Q15 Q17 Q16, .int .i64 b.state])] _ := F0i
 clear F0i
 refine wp_seq (wp_region_lit (l_op (f_box F0 (At.nil w) rfl rfl rfl (F0.ev 0 rfl) rfl rfl fun b1 _ w1 F2 S1 => ?_)))
 refine l_op (f_box F2 S1.at' rfl rfl rfl (F2.ev 1 rfl) rfl rfl fun b3 _ w3 F4 S3 => ?_)
 refine l_op (f_val F4 rfl rfl (r_assign rfl rfl) rfl fun _ F5 => ?_)
 refine s_end (x_normal (wp_seq (wp_seq (wp_region_lit (l_op (f_val F5 rfl rfl (r_field FI_71_0 rfl (F5.ev 2 rfl) rfl) rfl fun _ F6 => ?_))))))
 refine l_op (f_val (v := .int .i64 a.id) F6 rfl rfl (r_loadB S3.at' 1 TI_3 rfl rfl (F6.ev 5 rfl) rfl rfl (fun _ => rfl) rfl) rfl fun _ F7 => ?_)
 refine l_op (f_val F7 rfl rfl (r_field FI_71_0 rfl (F7.ev 3 rfl) rfl) rfl fun _ F8 => ?_)
 refine l_op (f_val (v := .int .i64 b.id) F8 rfl rfl (r_loadB S3.at' 0 TI_3 rfl rfl (F8.ev 7 rfl) rfl rfl (fun _ => rfl) rfl) rfl fun _ F9 => ?_)
 refine l_op (f_val F9 rfl rfl (r_cmp (b := decide (a.id ≠ b.id)) (.inr (.inl rfl)) rfl (F9.ev 6 rfl) (F9.ev 8 rfl) (dec_of (by omega))) rfl fun _ F10 => ?_)
 rw [show (decide (a.id ≠ b.id)) = false from decide_eq_false (fun h => h (by rw [p0]))] at F10
 refine s_end (x_normal (wp_cond_false (F10.ev 9 rfl) (wp_skip (x_normal (wp_seq (wp_seq (wp_region_lit (l_op (f_val F10 rfl rfl (r_field FI_71_1 rfl (F10.ev 2 rfl) rfl) rfl fun _ F11 => ?_)))))))))
 refine l_op (f_val (v := .int .i64 a.age) F11 rfl rfl (r_loadB S3.at' 1 TI_3 rfl rfl (F11.ev 10 rfl) rfl rfl (fun _ => rfl) rfl) rfl fun _ F12 => ?_)
 refine l_op (f_val F12 rfl rfl (r_field FI_71_1 rfl (F12.ev 3 rfl) rfl) rfl fun _ F13 => ?_)
 refine l_op (f_val (v := .int .i64 b.age) F13 rfl rfl (r_loadB S3.at' 0 TI_3 rfl rfl (F13.ev 12 rfl) rfl rfl (fun _ => rfl) rfl) rfl fun _ F14 => ?_)
 refine l_op (f_val F14 rfl rfl (r_cmp (b := decide (a.age ≠ b.age)) (.inr (.inl rfl)) rfl (F14.ev 11 rfl) (F14.ev 13 rfl) (dec_of (by omega))) rfl fun _ F15 => ?_)
 rw [show (decide (a.age ≠ b.age)) = false from decide_eq_false (fun h => h (by rw [p0]))] at F15
 refine s_end (x_normal (wp_cond_false (F15.ev 14 rfl) (wp_skip (x_normal (wp_seq (wp_seq (wp_region_lit (l_op (f_val F15 rfl rfl (r_field FI_71_2 rfl (F15.ev 2 rfl) rfl) rfl fun _ F16 => ?_)))))))))
 refine l_op (f_val (v := .int .i64 a.proc) F16 rfl rfl (r_loadB S3.at' 1 TI_3 rfl rfl (F16.ev 15 rfl) rfl rfl (fun _ => rfl) rfl) rfl fun _ F17 => ?_)
 refine l_op (f_val F17 rfl rfl (r_field FI_71_2 rfl (F17.ev 3 rfl) rfl) rfl fun _ F18 => ?_)
 refine l_op (f_val (v := .int .i64 b.proc) F18 rfl rfl (r_loadB S3.at' 0 TI_3 rfl rfl (F18.ev 17 rfl) rfl rfl (fun _ => rfl) rfl) rfl fun _ F19 => ?_)
 refine l_op (f_val F19 rfl rfl (r_cmp (b := decide (a.proc ≠ b.proc)) (.inr (.inl rfl)) rfl (F19.ev 16 rfl) (F19.ev 18 rfl) (dec_of (by omega))) rfl fun _ F20 => ?_)
 rw [show (decide (a.proc ≠ b.proc)) = false from decide_eq_false (fun h => h (by rw [p0]))] at F20
 refine s_end (x_normal (wp_cond_false (F20.ev 19 rfl) (wp_skip (x_normal (wp_seq (wp_seq (wp_region_lit (l_op (f_val F20 rfl rfl (r_field FI_71_3 rfl (F20.ev 2 rfl) rfl) rfl fun _ F21 => ?_)))))))))
 refine l_op (f_val (v := .int .i64 a.began) F21 rfl rfl (r_loadB S3.at' 1 TI_3 rfl rfl (F21.ev 20 rfl) rfl rfl (fun _ => rfl) rfl) rfl fun _ F22 => ?_)
 refine l_op (f_val F22 rfl rfl (r_field FI_71_3 rfl (F22.ev 3 rfl) rfl) rfl fun _ F23 => ?_)
 refine l_op (f_val (v := .int .i64 b.began) F23 rfl rfl (r_loadB S3.at' 0 TI_3 rfl rfl (F23.ev 22 rfl) rfl rfl (fun _ => rfl) rfl) rfl fun _ F24 => ?_)
 refine l_op (f_val F24 rfl rfl (r_cmp (b := decide (a.began ≠ b.began)) (.inr (.inl rfl)) rfl (F24.ev 21 rfl) (F24.ev 23 rfl) (dec_of (by omega))) rfl fun _ F25 => ?_)
 rw [show (decide (a.began ≠ b.began)) = false from decide_eq_false (fun h => h (by rw [p0]))] at F25
 refine s_end (x_normal (wp_cond_false (F25.ev 24 rfl) (wp_skip (x_normal (wp_seq (wp_seq (wp_region_lit (l_op (f_val F25 rfl rfl (r_field FI_71_4 rfl (F25.ev 2 rfl) rfl) rfl fun _ F26 => ?_)))))))))
 refine l_op (f_val (v := .slice Q3 Q5 Q4) F26 rfl rfl (r_loadB S3.at' 1 TI_66 rfl rfl (F26.ev 25 rfl) rfl rfl (fun _ => rfl) rfl) rfl fun _ F27 => ?_)
 refine l_op (f_val F27 rfl rfl (r_field FI_71_4 rfl (F27.ev 3 rfl) rfl) rfl fun _ F28 => ?_)
 refine l_op (f_val (v := .slice Q12 Q14 Q13) F28 rfl rfl (r_loadB S3.at' 0 TI_66 rfl rfl (F28.ev 27 rfl) rfl rfl (fun _ => rfl) rfl) rfl fun _ F29 => ?_)
 refine l_op (f_call F29 CF_96 rfl rfl rfl rfl (lc (F29.ev 26 rfl) (lc (F29.ev 28 rfl) rfl)) (laws_eqCallS_c (a := a.calls) (b := b.calls) (Rd.mv (Nat.succ_pos _) Q29 (S1.trans S3)) (Rd.mv (Nat.succ_pos _) Q34 (S1.trans S3)) (by rw [p0])) ?_)
 rintro _ w30 ⟨rfl, m30⟩
 refine ⟨_, rfl, fun _ F31 => ?_⟩
 have S30 := At.frame0 S3.at' m30
 clear m30
 refine l_op (f_val F31 rfl rfl (r_not rfl (F31.ev 29 rfl)) rfl fun _ F32 => ?_)
 refine s_end (x_normal (wp_cond_false (F32.ev 30 rfl) (wp_skip (x_normal (wp_seq (wp_seq (wp_region_lit (l_op (f_val F32 rfl rfl (r_field FI_71_5 rfl (F32.ev 2 rfl) rfl) rfl fun _ F33 => ?_)))))))))
 refine l_op (f_val (v := .slice Q0 Q2 Q1) F33 rfl rfl (r_loadB S30.at' 1 TI_67 rfl rfl (F33.ev 31 rfl) rfl rfl (fun _ => rfl) rfl) rfl fun _ F34 => ?_)
 refine l_op (f_val F34 rfl rfl (r_field FI_71_5 rfl (F34.ev 3 rfl) rfl) rfl fun _ F35 => ?_)
 refine l_op (f_val (v := .slice Q9 Q11 Q10) F35 rfl rfl (r_loadB S30.at' 0 TI_67 rfl rfl (F35.ev 33 rfl) rfl rfl (fun _ => rfl) rfl) rfl fun _ F36 => ?_)
 refine l_op (f_call F36 CF_97 rfl rfl rfl rfl (lc (F36.ev 32 rfl) (lc (F36.ev 34 rfl) rfl)) (laws_eqAnswerS_c (a := a.answers) (b := b.answers) (Rd.mv (Nat.succ_pos _) Q28 (S1.trans (S3.trans S30))) (Rd.mv (Nat.succ_pos _) Q33 (S1.trans (S3.trans S30))) (by rw [p0])) ?_)
 rintro _ w37 ⟨rfl, m37⟩
 refine ⟨_, rfl, fun _ F38 => ?_⟩
 have S37 := At.frame0 S30.at' m37
 clear m37
 refine l_op (f_val F38 rfl rfl (r_not rfl (F38.ev 35 rfl)) rfl fun _ F39 => ?_)
 have T40 : Mv _ _ [bx b3 [.int .i64 b.id, .int .i64 b.age, .int .i64 b.proc, .int .i64 b.began, .slice Q12 Q14 Q13, .slice Q9 Q11 Q10, .slice b_Ra b_Rn b_Rc, .slice b_Wa b_Wn b_Wc, .slice Q15 Q17 Q16, .int .i64 b.state] 71, bx b1 [.int .i64 a.id, .int .i64 a.age, .int .i64 a.proc, .int .i64 a.began, .slice Q3 Q5 Q4, .slice Q0 Q2 Q1, .slice a_Ra a_Rn a_Rc, .slice a_Wa a_Wn a_Wc, .slice Q6 Q8 Q7, .int .i64 a.state] 71] _ := S37
 refine s_end (x_normal (wp_cond_false (F39.ev 36 rfl) (wp_skip (x_normal (wp_seq (wp_seq (wp_region_lit (l_op (f_val F39 rfl rfl (r_field FI_71_6 rfl (F39.ev 2 rfl) rfl) rfl fun _ F41 => ?_)))))))))
 refine l_op (f_val (v := .agg #[.slice a_Ra a_Rn a_Rc, .slice a_Wa a_Wn a_Wc]) F41 rfl rfl (r_loadB T40.at' 1 TI_69 rfl rfl (F41.ev 37 rfl) rfl rfl (fun h => nomatch h) rfl) rfl fun _ F42 => ?_)
 refine l_op (f_val F42 rfl rfl (r_field FI_71_6 rfl (F42.ev 3 rfl) rfl) rfl fun _ F43 => ?_)
 refine l_op (f_val (v := .agg #[.slice b_Ra b_Rn b_Rc, .slice b_Wa b_Wn b_Wc]) F43 rfl rfl (r_loadB T40.at' 0 TI_69 rfl rfl (F43.ev 39 rfl) rfl rfl (fun h => nomatch h) rfl) rfl fun _ F44 => ?_)
 refine l_op (f_call F44 CF_98 rfl rfl rfl rfl (lc (F44.ev 38 rfl) (lc (F44.ev 40 rfl) rfl)) (laws_eqTouch_c (a := a.touch) (b := b.touch) (Rd.mv (Nat.succ_pos _) Q31 (S1.trans (S3.trans (S30.trans T40)))) (Rd.mv (Nat.succ_pos _) Q32 (S1.trans (S3.trans (S30.trans T40)))) (Rd.mv (Nat.succ_pos _) Q36 (S1.trans (S3.trans (S30.trans T40)))) (Rd.mv (Nat.succ_pos _) Q37 (S1.trans (S3.trans (S30.trans T40)))) (by rw [p0])) ?_)
 rintro _ w45 ⟨rfl, m45⟩
 refine ⟨_, rfl, fun _ F46 => ?_⟩
 have S45 := At.frame0 T40.at' m45
 clear m45
 refine l_op (f_val F46 rfl rfl (r_not rfl (F46.ev 41 rfl)) rfl fun _ F47 => ?_)
 have F48 : Fr 54 [(42, .bool false), (3, .pointer (some ⟨b3, 0, none⟩)), (2, .pointer (some ⟨b1, 0, none⟩))] _ := F47.cut rfl
 clear F0 F2 F4 F5 F6 F7 F8 F9 F10 F11 F12 F13 F14 F15 F16 F17 F18 F19 F20 F21 F22 F23 F24 F25 F26 F27 F28 F29 F31 F32 F33 F34 F35 F36 F38 F39 F41 F42 F43 F44 F46 F47
 refine s_end (x_normal (wp_cond_false (F48.ev 42 rfl) (wp_skip (x_normal (wp_seq (wp_seq (wp_region_lit (l_op (f_val F48 rfl rfl (r_field FI_71_7 rfl (F48.ev 2 rfl) rfl) rfl fun _ F49 => ?_)))))))))
 refine l_op (f_val (v := .slice Q6 Q8 Q7) F49 rfl rfl (r_loadB S45.at' 1 TI_53 rfl rfl (F49.ev 43 rfl) rfl rfl (fun _ => rfl) rfl) rfl fun _ F50 => ?_)
 refine l_op (f_val F50 rfl rfl (r_field FI_71_7 rfl (F50.ev 3 rfl) rfl) rfl fun _ F51 => ?_)
 refine l_op (f_val (v := .slice Q15 Q17 Q16) F51 rfl rfl (r_loadB S45.at' 0 TI_53 rfl rfl (F51.ev 45 rfl) rfl rfl (fun _ => rfl) rfl) rfl fun _ F52 => ?_)
 refine l_op (f_call F52 CF_36 rfl rfl rfl rfl (lc (F52.ev 44 rfl) (lc (F52.ev 46 rfl) rfl)) (laws_eqIntS_c (a := a.marks) (b := b.marks) (Rd.mv (Nat.succ_pos _) Q30 (S1.trans (S3.trans (S30.trans (T40.trans S45))))) (Rd.mv (Nat.succ_pos _) Q35 (S1.trans (S3.trans (S30.trans (T40.trans S45))))) (by rw [p0])) ?_)
 rintro _ w53 ⟨rfl, m53⟩
 refine ⟨_, rfl, fun _ F54 => ?_⟩
 have S53 := At.frame0 S45.at' m53
 clear m53
 refine l_op (f_val F54 rfl rfl (r_not rfl (F54.ev 47 rfl)) rfl fun _ F55 => ?_)
 refine s_end (x_normal (wp_cond_false (F55.ev 48 rfl) (wp_skip (x_normal (wp_seq (wp_seq (wp_region_lit (l_op (f_val F55 rfl rfl (r_field FI_71_8 rfl (F55.ev 2 rfl) rfl) rfl fun _ F56 => ?_)))))))))
 refine l_op (f_val (v := .int .i64 a.state) F56 rfl rfl (r_loadB S53.at' 1 TI_3 rfl rfl (F56.ev 49 rfl) rfl rfl (fun _ => rfl) rfl) rfl fun _ F57 => ?_)
 refine l_op (f_val F57 rfl rfl (r_field FI_71_8 rfl (F57.ev 3 rfl) rfl) rfl fun _ F58 => ?_)
 refine l_op (f_val (v := .int .i64 b.state) F58 rfl rfl (r_loadB S53.at' 0 TI_3 rfl rfl (F58.ev 51 rfl) rfl rfl (fun _ => rfl) rfl) rfl fun _ F59 => ?_)
 refine l_op (f_val F59 rfl rfl (r_cmp (b := decide (a.state ≠ b.state)) (.inr (.inl rfl)) rfl (F59.ev 50 rfl) (F59.ev 52 rfl) (dec_of (by omega))) rfl fun _ F60 => ?_)
 rw [show (decide (a.state ≠ b.state)) = false from decide_eq_false (fun h => h (by rw [p0]))] at F60
 refine s_end (x_normal (wp_cond_false (F60.ev 53 rfl) (wp_skip (x_normal (wp_seq (wp_region_lit (l_op (f_val F60 rfl rfl (r_assign rfl rfl) rfl fun _ F61 => ?_))))))))
 refine s_end (x_normal (wp_ret ?_))
 refine x_done (v := .bool true) F61 (results_1 Try.results44 (.tmp (F61.ev 4 rfl))) ?_
 exact ⟨rfl, (Mv.pick (S1.trans (S3.trans (S30.trans (T40.trans (S45.trans S53))))) [] rfl)⟩
theorem laws_markTx_c {w : World} {H : Nat → Prop} {a : TxD} {Q3 : Option Addr} {Q5 Q4 : Nat} {Q0 : Option Addr} {Q2 Q1 : Nat} {a_Ra : Option Addr} {a_Rn a_Rc : Nat} {a_Wa : Option Addr} {a_Wn a_Wc : Nat} {Q6 : Option Addr} {Q8 Q7 : Nat} {k : Nat} (Q11 : i64ok a.id) (Q9 : i64ok a.age) (Q12 : i64ok a.proc) (Q10 : i64ok a.began) (Q13 : i64ok a.state) (h_k : i64ok (k : Int)) (p0 : k ≤ 1048576) (p1 : a.calls.length ≤ 2097152) (p2 : a.answers.length ≤ 2097152) (p3 : a.touch.reads.length ≤ 2097152) (p4 : a.touch.writes.length ≤ 2097152) (p5 : a.marks.length ≤ 2097152) (hA : At w [ow 148 6 encK okK (.slice Q3 Q5 Q4) a.calls, ow 151 3 encR okR (.slice Q0 Q2 Q1) a.answers, ow 9 1 encS okS (.slice a_Ra a_Rn a_Rc) a.touch.reads, ow 9 1 encS okS (.slice a_Wa a_Wn a_Wc) a.touch.writes, ow 3 1 encI okI (.slice Q6 Q8 Q7) a.marks]) :
    Calls Try.prog 47 #[.agg #[.int .i64 a.id, .int .i64 a.age, .int .i64 a.proc, .int .i64 a.began, .slice Q3 Q5 Q4, .slice Q0 Q2 Q1, .slice a_Ra a_Rn a_Rc, .slice a_Wa a_Wn a_Wc, .slice Q6 Q8 Q7, .int .i64 a.state], .int .i64 ((k : Nat) : Int)] w fun e w' => e = .returned (.int .i64 ((k + cntX a : Nat) : Int)) ∧ Mv [ow 148 6 encK okK (.slice Q3 Q5 Q4) a.calls, ow 151 3 encR okR (.slice Q0 Q2 Q1) a.answers, ow 9 1 encS okS (.slice a_Ra a_Rn a_Rc) a.touch.reads, ow 9 1 encS okS (.slice a_Wa a_Wn a_Wc) a.touch.writes, ow 3 1 encI okI (.slice Q6 Q8 Q7) a.marks] w [ow 148 6 encK okK (.slice Q3 Q5 Q4) (marksX k a).calls, ow 151 3 encR okR (.slice Q0 Q2 Q1) (marksX k a).answers, ow 9 1 encS okS (.slice a_Ra a_Rn a_Rc) (marksX k a).touch.reads, ow 9 1 encS okS (.slice a_Wa a_Wn a_Wc) (marksX k a).touch.writes, ow 3 1 encI okI (.slice Q6 Q8 Q7) (marksX k a).marks] w' := by
 have uU : True := (fun _ _ _ _ _ _ _ _ _ _ _ _ _ => trivial) H Q11 Q9 Q12 Q10 Q13 h_k p0 p1 p2 p3 p4 p5
 clear uU
 obtain ⟨lo0, lp0, lq0⟩ := At.ownInv hA ET_66.hk 0 rfl
 obtain ⟨lo1, lp1, lq1⟩ := At.ownInv hA ET_67.hk 1 rfl
 obtain ⟨lo2, lp2, lq2⟩ := At.ownInv hA ET_62.hk 2 rfl
 obtain ⟨lo3, lp3, lq3⟩ := At.ownInv hA ET_62.hk 3 rfl
 obtain ⟨lo4, lp4, lq4⟩ := At.ownInv hA ET_53.hk 4 rfl
 refine calls_enter 22 Try.func47 rfl Try.ntmps47 (Nat.le_of_ble_eq_true rfl) (fun _ F0i => ?_)
 have F0 : Fr 22 [(0, .agg #[.int .i64 a.id, .int .i64 a.age, .int .i64 a.proc, .int .i64 a.began, .slice Q3 Q5 Q4, .slice Q0 Q2 Q1, .slice a_Ra a_Rn a_Rc, .slice a_Wa a_Wn a_Wc, .slice Q6 Q8 Q7, .int .i64 a.state]), (1, .int .i64 ((k : Nat) : Int))] _ := F0i
 clear F0i
 refine wp_seq (wp_region_lit (l_op (f_box F0 hA rfl rfl rfl (F0.ev 0 rfl) rfl rfl fun b1 _ w1 F2 S1 => ?_)))
 refine l_op (f_val F2 rfl rfl (r_assign rfl rfl) rfl fun _ F3 => ?_)
 refine s_end (x_normal (wp_seq (wp_region_lit (l_op (f_val F3 rfl rfl (r_field FI_71_4 rfl (F3.ev 2 rfl) rfl) rfl fun _ F4 => ?_)))))
 refine l_op (f_val (v := .slice Q3 Q5 Q4) F4 rfl rfl (r_loadB S1.at' 0 TI_66 rfl rfl (F4.ev 5 rfl) rfl rfl (fun _ => rfl) rfl) rfl fun _ F5 => ?_)
 refine l_op (f_mv F5 rfl rfl rfl rfl rfl fun _ F6 => ?_)
 refine l_op (f_call F6 CF_79 rfl rfl rfl rfl (lc (F6.ev 6 rfl) (lc (F6.ev 7 rfl) rfl)) (laws_markCallS_c (H := fun _ => True) (a := a.calls) (k := k) ⟨by omega, by first | assumption | omega | (unfold cntT; omega)⟩ (by first | assumption | omega | (unfold cntT; omega)) (At.pick (is := [1]) S1.at' rfl)) ?_)
 rintro _ w7 ⟨rfl, m7⟩
 refine ⟨_, rfl, fun _ F8 => ?_⟩
 have S7 : Mv _ _ [ow 148 6 encK okK (.slice Q3 Q5 Q4) (marksOf markK k a.calls.length), bx b1 [.int .i64 a.id, .int .i64 a.age, .int .i64 a.proc, .int .i64 a.began, .slice Q3 Q5 Q4, .slice Q0 Q2 Q1, .slice a_Ra a_Rn a_Rc, .slice a_Wa a_Wn a_Wc, .slice Q6 Q8 Q7, .int .i64 a.state] 71, ow 151 3 encR okR (.slice Q0 Q2 Q1) a.answers, ow 9 1 encS okS (.slice a_Ra a_Rn a_Rc) a.touch.reads, ow 9 1 encS okS (.slice a_Wa a_Wn a_Wc) a.touch.writes, ow 3 1 encI okI (.slice Q6 Q8 Q7) a.marks] _ := At.frame S1.at' [1] rfl m7
 obtain ⟨Q18, Q23, Q28⟩ := At.ownInv S7.at' ET_66.hk 0 rfl
 clear m7
 refine l_op (f_as F8 rfl rfl rfl rfl rfl fun _ F9 => ?_)
 refine s_end (x_normal (wp_seq (wp_region_lit (l_op (f_val F9 rfl rfl (r_field FI_71_5 rfl (F9.ev 2 rfl) rfl) rfl fun _ F10 => ?_)))))
 refine l_op (f_val (v := .slice Q0 Q2 Q1) F10 rfl rfl (r_loadB S7.at' 1 TI_67 rfl rfl (F10.ev 9 rfl) rfl rfl (fun _ => rfl) rfl) rfl fun _ F11 => ?_)
 refine l_op (f_mv F11 rfl rfl rfl rfl rfl fun _ F12 => ?_)
 refine l_op (f_call F12 CF_80 rfl rfl rfl rfl (lc (F12.ev 10 rfl) (lc (F12.ev 11 rfl) rfl)) (laws_markAnswerS_c (H := fun _ => True) (a := a.answers) (k := k + 6 * a.calls.length) ⟨by omega, by first | assumption | omega | (unfold cntT; omega)⟩ (by first | assumption | omega | (unfold cntT; omega)) (At.pick (is := [2]) S7.at' rfl)) ?_)
 rintro _ w13 ⟨rfl, m13⟩
 refine ⟨_, rfl, fun _ F14 => ?_⟩
 have S13 : Mv _ _ [ow 151 3 encR okR (.slice Q0 Q2 Q1) (marksOf markR (k + 6 * a.calls.length) a.answers.length), ow 148 6 encK okK (.slice Q3 Q5 Q4) (marksOf markK k a.calls.length), bx b1 [.int .i64 a.id, .int .i64 a.age, .int .i64 a.proc, .int .i64 a.began, .slice Q3 Q5 Q4, .slice Q0 Q2 Q1, .slice a_Ra a_Rn a_Rc, .slice a_Wa a_Wn a_Wc, .slice Q6 Q8 Q7, .int .i64 a.state] 71, ow 9 1 encS okS (.slice a_Ra a_Rn a_Rc) a.touch.reads, ow 9 1 encS okS (.slice a_Wa a_Wn a_Wc) a.touch.writes, ow 3 1 encI okI (.slice Q6 Q8 Q7) a.marks] _ := At.frame S7.at' [2] rfl m13
 obtain ⟨Q14, Q19, Q24⟩ := At.ownInv S13.at' ET_67.hk 0 rfl
 clear m13
 refine l_op (f_as F14 rfl rfl rfl rfl rfl fun _ F15 => ?_)
 refine s_end (x_normal (wp_seq (wp_region_lit (l_op (f_val F15 rfl rfl (r_field FI_71_6 rfl (F15.ev 2 rfl) rfl) rfl fun _ F16 => ?_)))))
 refine l_op (f_val (v := .agg #[.slice a_Ra a_Rn a_Rc, .slice a_Wa a_Wn a_Wc]) F16 rfl rfl (r_loadB S13.at' 2 TI_69 rfl rfl (F16.ev 13 rfl) rfl rfl (fun h => nomatch h) rfl) rfl fun _ F17 => ?_)
 refine l_op (f_mv F17 rfl rfl rfl rfl rfl fun _ F18 => ?_)
 refine l_op (f_call F18 CF_104 rfl rfl rfl rfl (lc (F18.ev 14 rfl) (lc (F18.ev 15 rfl) rfl)) (laws_markTouch_c (H := fun _ => True) (a := a.touch) (k := (k + 6 * a.calls.length) + 3 * a.answers.length) ⟨by omega, by first | assumption | omega | (unfold cntT; omega)⟩ (by first | assumption | omega | (unfold cntT; omega)) (by first | assumption | omega | (unfold cntT; omega)) (by first | assumption | omega | (unfold cntT; omega)) (At.pick (is := [3, 4]) S13.at' rfl)) ?_)
 rintro _ w19 ⟨rfl, m19⟩
 refine ⟨_, rfl, fun _ F20 => ?_⟩
 have S19 : Mv _ _ [ow 9 1 encS okS (.slice a_Ra a_Rn a_Rc) (marksT ((k + 6 * a.calls.length) + 3 * a.answers.length) a.touch).reads, ow 9 1 encS okS (.slice a_Wa a_Wn a_Wc) (marksT ((k + 6 * a.calls.length) + 3 * a.answers.length) a.touch).writes, ow 151 3 encR okR (.slice Q0 Q2 Q1) (marksOf markR (k + 6 * a.calls.length) a.answers.length), ow 148 6 encK okK (.slice Q3 Q5 Q4) (marksOf markK k a.calls.length), bx b1 [.int .i64 a.id, .int .i64 a.age, .int .i64 a.proc, .int .i64 a.began, .slice Q3 Q5 Q4, .slice Q0 Q2 Q1, .slice a_Ra a_Rn a_Rc, .slice a_Wa a_Wn a_Wc, .slice Q6 Q8 Q7, .int .i64 a.state] 71, ow 3 1 encI okI (.slice Q6 Q8 Q7) a.marks] _ := At.frame S13.at' [3, 4] rfl m19
 obtain ⟨Q15, Q20, Q25⟩ := At.ownInv S19.at' ET_62.hk 0 rfl
 obtain ⟨Q16, Q21, Q26⟩ := At.ownInv S19.at' ET_62.hk 1 rfl
 clear m19
 refine l_op (f_as F20 rfl rfl rfl rfl rfl fun _ F21 => ?_)
 refine s_end (x_normal (wp_seq (wp_region_lit (l_op (f_val F21 rfl rfl (r_field FI_71_7 rfl (F21.ev 2 rfl) rfl) rfl fun _ F22 => ?_)))))
 refine l_op (f_val (v := .slice Q6 Q8 Q7) F22 rfl rfl (r_loadB S19.at' 4 TI_53 rfl rfl (F22.ev 17 rfl) rfl rfl (fun _ => rfl) rfl) rfl fun _ F23 => ?_)
 refine l_op (f_mv F23 rfl rfl rfl rfl rfl fun _ F24 => ?_)
 refine l_op (f_call F24 CF_38 rfl rfl rfl rfl (lc (F24.ev 18 rfl) (lc (F24.ev 19 rfl) rfl)) (laws_markIntS_c (H := fun _ => True) (a := a.marks) (k := ((k + 6 * a.calls.length) + 3 * a.answers.length) + cntT a.touch) ⟨by omega, by first | assumption | omega | (unfold cntT; omega)⟩ (by first | assumption | omega | (unfold cntT; omega)) (At.pick (is := [5]) S19.at' rfl)) ?_)
 rintro _ w25 ⟨rfl, m25⟩
 refine ⟨_, rfl, fun _ F26 => ?_⟩
 have S25 : Mv _ _ [ow 3 1 encI okI (.slice Q6 Q8 Q7) (marksOf markI (((k + 6 * a.calls.length) + 3 * a.answers.length) + cntT a.touch) a.marks.length), ow 9 1 encS okS (.slice a_Ra a_Rn a_Rc) (marksT ((k + 6 * a.calls.length) + 3 * a.answers.length) a.touch).reads, ow 9 1 encS okS (.slice a_Wa a_Wn a_Wc) (marksT ((k + 6 * a.calls.length) + 3 * a.answers.length) a.touch).writes, ow 151 3 encR okR (.slice Q0 Q2 Q1) (marksOf markR (k + 6 * a.calls.length) a.answers.length), ow 148 6 encK okK (.slice Q3 Q5 Q4) (marksOf markK k a.calls.length), bx b1 [.int .i64 a.id, .int .i64 a.age, .int .i64 a.proc, .int .i64 a.began, .slice Q3 Q5 Q4, .slice Q0 Q2 Q1, .slice a_Ra a_Rn a_Rc, .slice a_Wa a_Wn a_Wc, .slice Q6 Q8 Q7, .int .i64 a.state] 71] _ := At.frame S19.at' [5] rfl m25
 obtain ⟨Q17, Q22, Q27⟩ := At.ownInv S25.at' ET_53.hk 0 rfl
 clear m25
 refine l_op (f_as F26 rfl rfl rfl rfl rfl fun _ F27 => ?_)
 refine s_end (x_normal (wp_seq (wp_region_lit (l_op (f_mv F27 rfl rfl rfl rfl rfl fun _ F28 => ?_)))))
 refine l_op (f_as F28 rfl rfl rfl rfl rfl fun _ F29 => ?_)
 refine s_end (x_normal (wp_ret ?_))
 refine x_done (v := .int .i64 (((((k + 6 * a.calls.length) + 3 * a.answers.length) + cntT a.touch) + a.marks.length : Nat) : Int)) F29 (results_1 Try.results47 (.tmp (F29.ev 4 rfl))) ?_
 exact ⟨(by rw [(show (((((k + 6 * a.calls.length) + 3 * a.answers.length) + cntT a.touch) + a.marks.length : Nat) : Int) = ((k + cntX a : Nat) : Int) from by first | rfl | (unfold cntX; omega))]), (Mv.cast (Mv.pick (S1.trans (S7.trans (S13.trans (S19.trans S25)))) [4, 3, 1, 2, 0] rfl) (by rw [(show (marksOf markK k a.calls.length) = (marksX k a).calls from by first | rfl | (unfold cntX; omega)), (show (marksOf markR (k + 6 * a.calls.length) a.answers.length) = (marksX k a).answers from by first | rfl | (unfold cntX; omega)), (show (marksT ((k + 6 * a.calls.length) + 3 * a.answers.length) a.touch).reads = (marksX k a).touch.reads from by first | rfl | (unfold cntX; omega)), (show (marksT ((k + 6 * a.calls.length) + 3 * a.answers.length) a.touch).writes = (marksX k a).touch.writes from by first | rfl | (unfold cntX; omega)), (show (marksOf markI (((k + 6 * a.calls.length) + 3 * a.answers.length) + cntT a.touch) a.marks.length) = (marksX k a).marks from by first | rfl | (unfold cntX; omega))]; all_goals rfl))⟩
theorem laws_heldTx_c {w : World} {H : Nat → Prop} {a : TxD} {Q3 : Option Addr} {Q5 Q4 : Nat} {Q0 : Option Addr} {Q2 Q1 : Nat} {a_Ra : Option Addr} {a_Rn a_Rc : Nat} {a_Wa : Option Addr} {a_Wn a_Wc : Nat} {Q6 : Option Addr} {Q8 Q7 : Nat} {k : Nat} {d : TxD} (Q21 : i64ok a.id) (Q19 : i64ok a.age) (Q22 : i64ok a.proc) (Q20 : i64ok a.began) (Q10 : Rd 6 encK okK H w (.slice Q3 Q5 Q4) a.calls) (Q9 : Rd 3 encR okR H w (.slice Q0 Q2 Q1) a.answers) (Q12 : Rd 1 encS okS H w (.slice a_Ra a_Rn a_Rc) a.touch.reads) (Q13 : Rd 1 encS okS H w (.slice a_Wa a_Wn a_Wc) a.touch.writes) (Q11 : Rd 1 encI okI H w (.slice Q6 Q8 Q7) a.marks) (Q23 : i64ok a.state) (h_k : i64ok (k : Int)) (p0 : a = marksX k d) (p1 : k ≤ 1048576) (p2 : d.calls.length ≤ 2097152) (p3 : d.answers.length ≤ 2097152) (p4 : d.touch.reads.length ≤ 2097152) (p5 : d.touch.writes.length ≤ 2097152) (p6 : d.marks.length ≤ 2097152) :
    Calls Try.prog 48 #[.agg #[.int .i64 a.id, .int .i64 a.age, .int .i64 a.proc, .int .i64 a.began, .slice Q3 Q5 Q4, .slice Q0 Q2 Q1, .slice a_Ra a_Rn a_Rc, .slice a_Wa a_Wn a_Wc, .slice Q6 Q8 Q7, .int .i64 a.state], .int .i64 ((k : Nat) : Int)] w fun e w' => e = .returned (.int .i64 ((k + cntX d : Nat) : Int)) ∧ Mv [] w [] w' := by
 have uU : True := (fun _ _ _ _ _ _ _ _ _ _ _ _ => trivial) Q21 Q19 Q22 Q20 Q23 h_k p1 p2 p3 p4 p5 p6
 clear uU
 have Q15 : Rd 6 encK okK (V H w []) w (.slice Q3 Q5 Q4) a.calls := Rd.start Q10 (fun _ _ => fps_nil _)
 obtain ⟨Q30, Q25, Q35, Q40⟩ := Rd.inv Q10
 have Q14 : Rd 3 encR okR (V H w []) w (.slice Q0 Q2 Q1) a.answers := Rd.start Q9 (fun _ _ => fps_nil _)
 obtain ⟨Q29, Q24, Q34, Q39⟩ := Rd.inv Q9
 have Q17 : Rd 1 encS okS (V H w []) w (.slice a_Ra a_Rn a_Rc) a.touch.reads := Rd.start Q12 (fun _ _ => fps_nil _)
 obtain ⟨Q32, Q27, Q37, Q42⟩ := Rd.inv Q12
 have Q18 : Rd 1 encS okS (V H w []) w (.slice a_Wa a_Wn a_Wc) a.touch.writes := Rd.start Q13 (fun _ _ => fps_nil _)
 obtain ⟨Q33, Q28, Q38, Q43⟩ := Rd.inv Q13
 have Q16 : Rd 1 encI okI (V H w []) w (.slice Q6 Q8 Q7) a.marks := Rd.start Q11 (fun _ _ => fps_nil _)
 obtain ⟨Q31, Q26, Q36, Q41⟩ := Rd.inv Q11
 refine calls_enter 30 Try.func48 rfl Try.ntmps48 (Nat.le_of_ble_eq_true rfl) (fun _ F0i => ?_)
 have F0 : Fr 30 [(0, .agg #[.int .i64 a.id, .int .i64 a.age, .int .i64 a.proc, .int .i64 a.began, .slice Q3 Q5 Q4, .slice Q0 Q2 Q1, .slice a_Ra a_Rn a_Rc, .slice a_Wa a_Wn a_Wc, .slice Q6 Q8 Q7, .int .i64 a.state]), (1, .int .i64 ((k : Nat) : Int))] _ := F0i
 clear F0i
 refine wp_seq (wp_region_lit (l_op (f_box F0 (At.nil w) rfl rfl rfl (F0.ev 0 rfl) rfl rfl fun b1 _ w1 F2 S1 => ?_)))
 refine l_op (f_val F2 rfl rfl (r_assign rfl rfl) rfl fun _ F3 => ?_)
 refine s_end (x_normal (wp_seq (wp_region_lit (l_op (f_val F3 rfl rfl (r_field FI_71_4 rfl (F3.ev 2 rfl) rfl) rfl fun _ F4 => ?_)))))
 refine l_op (f_val (v := .slice Q3 Q5 Q4) F4 rfl rfl (r_loadB S1.at' 0 TI_66 rfl rfl (F4.ev 5 rfl) rfl rfl (fun _ => rfl) rfl) rfl fun _ F5 => ?_)
 refine l_op (f_mv F5 rfl rfl rfl rfl rfl fun _ F6 => ?_)
 refine l_op (f_call F6 CF_82 rfl rfl rfl rfl (lc (F6.ev 6 rfl) (lc (F6.ev 7 rfl) rfl)) (laws_heldCallS_c (n := d.calls.length) (a := a.calls) (k := k) (Rd.mv (Nat.succ_pos _) Q15 S1) ⟨by omega, by first | assumption | omega | (unfold cntT; omega)⟩ (by rw [p0]; rfl) (by first | assumption | omega | (unfold cntT; omega))) ?_)
 rintro _ w7 ⟨rfl, m7⟩
 refine ⟨_, rfl, fun _ F8 => ?_⟩
 have S7 := At.frame0 S1.at' m7
 clear m7
 refine l_op (f_as F8 rfl rfl rfl rfl rfl fun _ F9 => ?_)
 refine s_end (x_normal (wp_seq (wp_seq (wp_region_lit (l_op (f_mv F9 rfl rfl rfl rfl rfl fun _ F10 => ?_))))))
 refine l_op (f_val F10 rfl rfl (r_cmp (b := false) (.inr (.inr (.inl rfl))) rfl (F10.ev 9 rfl) rfl (cmp_lt0 _ _ (by omega))) rfl fun _ F11 => ?_)
 refine s_end (x_normal (wp_cond_false (F11.ev 10 rfl) (wp_skip (x_normal (wp_seq (wp_region_lit (l_op (f_val F11 rfl rfl (r_field FI_71_5 rfl (F11.ev 2 rfl) rfl) rfl fun _ F12 => ?_))))))))
 refine l_op (f_val (v := .slice Q0 Q2 Q1) F12 rfl rfl (r_loadB S7.at' 0 TI_67 rfl rfl (F12.ev 11 rfl) rfl rfl (fun _ => rfl) rfl) rfl fun _ F13 => ?_)
 refine l_op (f_mv F13 rfl rfl rfl rfl rfl fun _ F14 => ?_)
 refine l_op (f_call F14 CF_83 rfl rfl rfl rfl (lc (F14.ev 12 rfl) (lc (F14.ev 13 rfl) rfl)) (laws_heldAnswerS_c (n := d.answers.length) (a := a.answers) (k := k + 6 * d.calls.length) (Rd.mv (Nat.succ_pos _) Q14 (S1.trans S7)) ⟨by omega, by first | assumption | omega | (unfold cntT; omega)⟩ (by rw [p0]; rfl) (by first | assumption | omega | (unfold cntT; omega))) ?_)
 rintro _ w15 ⟨rfl, m15⟩
 refine ⟨_, rfl, fun _ F16 => ?_⟩
 have S15 := At.frame0 S7.at' m15
 clear m15
 refine l_op (f_as F16 rfl rfl rfl rfl rfl fun _ F17 => ?_)
 refine s_end (x_normal (wp_seq (wp_seq (wp_region_lit (l_op (f_mv F17 rfl rfl rfl rfl rfl fun _ F18 => ?_))))))
 refine l_op (f_val F18 rfl rfl (r_cmp (b := false) (.inr (.inr (.inl rfl))) rfl (F18.ev 15 rfl) rfl (cmp_lt0 _ _ (by omega))) rfl fun _ F19 => ?_)
 refine s_end (x_normal (wp_cond_false (F19.ev 16 rfl) (wp_skip (x_normal (wp_seq (wp_region_lit (l_op (f_val F19 rfl rfl (r_field FI_71_6 rfl (F19.ev 2 rfl) rfl) rfl fun _ F20 => ?_))))))))
 refine l_op (f_val (v := .agg #[.slice a_Ra a_Rn a_Rc, .slice a_Wa a_Wn a_Wc]) F20 rfl rfl (r_loadB S15.at' 0 TI_69 rfl rfl (F20.ev 17 rfl) rfl rfl (fun h => nomatch h) rfl) rfl fun _ F21 => ?_)
 refine l_op (f_mv F21 rfl rfl rfl rfl rfl fun _ F22 => ?_)
 refine l_op (f_call F22 CF_105 rfl rfl rfl rfl (lc (F22.ev 18 rfl) (lc (F22.ev 19 rfl) rfl)) (laws_heldTouch_c (d := d.touch) (a := a.touch) (k := (k + 6 * d.calls.length) + 3 * d.answers.length) (Rd.mv (Nat.succ_pos _) Q17 (S1.trans (S7.trans S15))) (Rd.mv (Nat.succ_pos _) Q18 (S1.trans (S7.trans S15))) ⟨by omega, by first | assumption | omega | (unfold cntT; omega)⟩ (by rw [p0]; rfl) (by first | assumption | omega | (unfold cntT; omega)) (by first | assumption | omega | (unfold cntT; omega)) (by first | assumption | omega | (unfold cntT; omega))) ?_)
 rintro _ w23 ⟨rfl, m23⟩
 refine ⟨_, rfl, fun _ F24 => ?_⟩
 have S23 := At.frame0 S15.at' m23
 clear m23
 refine l_op (f_as F24 rfl rfl rfl rfl rfl fun _ F25 => ?_)
 have T26 : Mv _ _ [bx b1 [.int .i64 a.id, .int .i64 a.age, .int .i64 a.proc, .int .i64 a.began, .slice Q3 Q5 Q4, .slice Q0 Q2 Q1, .slice a_Ra a_Rn a_Rc, .slice a_Wa a_Wn a_Wc, .slice Q6 Q8 Q7, .int .i64 a.state] 71] _ := S23
 refine s_end (x_normal (wp_seq (wp_seq (wp_region_lit (l_op (f_mv F25 rfl rfl rfl rfl rfl fun _ F27 => ?_))))))
 refine l_op (f_val F27 rfl rfl (r_cmp (b := false) (.inr (.inr (.inl rfl))) rfl (F27.ev 21 rfl) rfl (cmp_lt0 _ _ (by omega))) rfl fun _ F28 => ?_)
 refine s_end (x_normal (wp_cond_false (F28.ev 22 rfl) (wp_skip (x_normal (wp_seq (wp_region_lit (l_op (f_val F28 rfl rfl (r_field FI_71_7 rfl (F28.ev 2 rfl) rfl) rfl fun _ F29 => ?_))))))))
 refine l_op (f_val (v := .slice Q6 Q8 Q7) F29 rfl rfl (r_loadB T26.at' 0 TI_53 rfl rfl (F29.ev 23 rfl) rfl rfl (fun _ => rfl) rfl) rfl fun _ F30 => ?_)
 refine l_op (f_mv F30 rfl rfl rfl rfl rfl fun _ F31 => ?_)
 refine l_op (f_call F31 CF_85 rfl rfl rfl rfl (lc (F31.ev 24 rfl) (lc (F31.ev 25 rfl) rfl)) (laws_heldIntS_c (n := d.marks.length) (a := a.marks) (k := ((k + 6 * d.calls.length) + 3 * d.answers.length) + cntT d.touch) (Rd.mv (Nat.succ_pos _) Q16 (S1.trans (S7.trans (S15.trans T26)))) ⟨by omega, by first | assumption | omega | (unfold cntT; omega)⟩ (by rw [p0]; rfl) (by first | assumption | omega | (unfold cntT; omega))) ?_)
 rintro _ w32 ⟨rfl, m32⟩
 refine ⟨_, rfl, fun _ F33 => ?_⟩
 have S32 := At.frame0 T26.at' m32
 clear m32
 refine l_op (f_as F33 rfl rfl rfl rfl rfl fun _ F34 => ?_)
 refine s_end (x_normal (wp_seq (wp_seq (wp_region_lit (l_op (f_mv F34 rfl rfl rfl rfl rfl fun _ F35 => ?_))))))
 refine l_op (f_val F35 rfl rfl (r_cmp (b := false) (.inr (.inr (.inl rfl))) rfl (F35.ev 27 rfl) rfl (cmp_lt0 _ _ (by omega))) rfl fun _ F36 => ?_)
 refine s_end (x_normal (wp_cond_false (F36.ev 28 rfl) (wp_skip (x_normal (wp_seq (wp_region_lit (l_op (f_mv F36 rfl rfl rfl rfl rfl fun _ F37 => ?_))))))))
 refine l_op (f_as F37 rfl rfl rfl rfl rfl fun _ F38 => ?_)
 refine s_end (x_normal (wp_ret ?_))
 refine x_done (v := .int .i64 (((((k + 6 * d.calls.length) + 3 * d.answers.length) + cntT d.touch) + d.marks.length : Nat) : Int)) F38 (results_1 Try.results48 (.tmp (F38.ev 4 rfl))) ?_
 exact ⟨(by rw [(show (((((k + 6 * d.calls.length) + 3 * d.answers.length) + cntT d.touch) + d.marks.length : Nat) : Int) = ((k + cntX d : Nat) : Int) from by (unfold cntX; omega))]), (Mv.pick (S1.trans (S7.trans (S15.trans (T26.trans S32)))) [] rfl)⟩
end Go.Proofs.Ytgfilegkabbliaa
