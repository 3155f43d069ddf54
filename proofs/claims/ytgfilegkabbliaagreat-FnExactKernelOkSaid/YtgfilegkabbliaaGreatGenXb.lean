/-
  Walks: transactions in the laws' hands.
-/
import Derived.Test.YtgfilegkabbliaaGreatGenXa
namespace Go.Proofs.YtgfilegkabbliaaGreat
open Go.ChangeShapes Go.WideShapes Go.ChangeAt Go.RowKit
set_option maxRecDepth 100000
set_option maxHeartbeats 1000000
theorem laws_szTx_c {w : World} {H : Nat → Prop} {a : TxD} {Q3 : Option Addr} {Q5 Q4 : Nat} {Q0 : Option Addr} {Q2 Q1 : Nat} {a_Ra : Option Addr} {a_Rn a_Rc : Nat} {a_Wa : Option Addr} {a_Wn a_Wc : Nat} {Q6 : Option Addr} {Q8 Q7 : Nat} {left : Int} (Q21 : i64ok a.id) (Q19 : i64ok a.age) (Q22 : i64ok a.proc) (Q20 : i64ok a.began) (Q10 : RdA 6 encK okK H w (.slice Q3 Q5 Q4) a.calls) (Q9 : RdA 3 encR okR H w (.slice Q0 Q2 Q1) a.answers) (Q12 : RdA 1 encS okS H w (.slice a_Ra a_Rn a_Rc) a.touch.reads) (Q13 : RdA 1 encS okS H w (.slice a_Wa a_Wn a_Wc) a.touch.writes) (Q11 : RdA 1 encI okI H w (.slice Q6 Q8 Q7) a.marks) (Q23 : i64ok a.state) (Q24 : i64ok left) (p0 : 0 ≤ left) (p1 : left ≤ 1048576) :
    Calls Tryz.prog 35 #[.agg #[.int .i64 a.id, .int .i64 a.age, .int .i64 a.proc, .int .i64 a.began, .slice Q3 Q5 Q4, .slice Q0 Q2 Q1, .slice a_Ra a_Rn a_Rc, .slice a_Wa a_Wn a_Wc, .slice Q6 Q8 Q7, .int .i64 a.state], .int .i64 left] w fun e w' => e = .returned (.int .i64 (subOr left (szTxD a))) ∧ Mv [] w [] w' ∧ i64ok (subOr left (szTxD a)) := by
 have uU : True := (fun _ _ _ _ _ => trivial) Q21 Q19 Q22 Q20 Q23
 clear uU
 have Q15 : RdA 6 encK okK (V H w []) w (.slice Q3 Q5 Q4) a.calls := RdA.start Q10 (fun _ _ => fps_nil _)
 obtain ⟨Q31, Q26, Q36, Q41⟩ := RdA.inv Q10
 have Q14 : RdA 3 encR okR (V H w []) w (.slice Q0 Q2 Q1) a.answers := RdA.start Q9 (fun _ _ => fps_nil _)
 obtain ⟨Q30, Q25, Q35, Q40⟩ := RdA.inv Q9
 have Q17 : RdA 1 encS okS (V H w []) w (.slice a_Ra a_Rn a_Rc) a.touch.reads := RdA.start Q12 (fun _ _ => fps_nil _)
 obtain ⟨Q33, Q28, Q38, Q43⟩ := RdA.inv Q12
 have Q18 : RdA 1 encS okS (V H w []) w (.slice a_Wa a_Wn a_Wc) a.touch.writes := RdA.start Q13 (fun _ _ => fps_nil _)
 obtain ⟨Q34, Q29, Q39, Q44⟩ := RdA.inv Q13
 have Q16 : RdA 1 encI okI (V H w []) w (.slice Q6 Q8 Q7) a.marks := RdA.start Q11 (fun _ _ => fps_nil _)
 obtain ⟨Q32, Q27, Q37, Q42⟩ := RdA.inv Q11
 refine calls_enter 30 Tryz.func35 rfl Tryz.ntmps35 (Nat.le_of_ble_eq_true rfl) (fun _ F0i => ?_)
 have F0 : Fr 30 [(0, .agg #[.int .i64 a.id, .int .i64 a.age, .int .i64 a.proc, .int .i64 a.began, .slice Q3 Q5 Q4, .slice Q0 Q2 Q1, .slice a_Ra a_Rn a_Rc, .slice a_Wa a_Wn a_Wc, .slice Q6 Q8 Q7, .int .i64 a.state]), (1, .int .i64 left)] _ := F0i
 clear F0i
 refine wp_seq (wp_region_lit (l_op (f_box F0 (At.nil w) rfl rfl rfl (F0.ev 0 rfl) rfl rfl fun b1 _ w1 F2 S1 => ?_)))
 refine l_op (f_val F2 rfl rfl (r_assign rfl rfl) rfl fun _ F3 => ?_)
 refine s_end (x_normal (wp_seq (wp_region_lit (l_op (f_val F3 rfl rfl (r_field FI_82_4 rfl (F3.ev 2 rfl) rfl) rfl fun _ F4 => ?_)))))
 refine l_op (f_val (v := .slice Q3 Q5 Q4) F4 rfl rfl (r_loadB S1.at' 0 TI_78 rfl rfl (F4.ev 5 rfl) rfl rfl (fun _ => rfl) rfl) rfl fun _ F5 => ?_)
 refine l_op (f_mv F5 rfl rfl rfl rfl rfl fun _ F6 => ?_)
 refine l_op (f_call F6 CF_58 rfl rfl rfl rfl (lc (F6.ev 6 rfl) (lc (F6.ev 7 rfl) rfl)) (laws_szCallS_c (a := a.calls) (left := left) (RdA.mv (Nat.succ_pos _) Q15 S1) Q24 (by first | assumption | omega | (simp <;> omega)) (by first | assumption | omega | (simp <;> omega))) ?_)
 rintro _ w7 ⟨rfl, m7, q7_0⟩
 refine ⟨_, rfl, fun _ F8 => ?_⟩
 have S7 := At.frame0 S1.at' m7
 clear m7
 refine l_op (f_as F8 rfl rfl rfl rfl rfl fun _ F9 => ?_)
 have T10 : Mv _ _ [bx b1 [.int .i64 a.id, .int .i64 a.age, .int .i64 a.proc, .int .i64 a.began, .slice Q3 Q5 Q4, .slice Q0 Q2 Q1, .slice a_Ra a_Rn a_Rc, .slice a_Wa a_Wn a_Wc, .slice Q6 Q8 Q7, .int .i64 a.state] 82] _ := S7
 refine s_end (x_normal (wp_seq (wp_seq (wp_region_lit (l_op (f_mv F9 rfl rfl rfl rfl rfl fun _ F11 => ?_))))))
 refine l_op (f_val F11 rfl rfl (r_cmp (b := decide ((subOr left (szCalls a.calls)) < 0)) (.inr (.inr (.inl rfl))) rfl (F11.ev 9 rfl) rfl (dec_of (by omega))) rfl fun _ F12 => ?_)
 have F13 : Fr 30 [(10, .bool (decide ((subOr left (szCalls a.calls)) < 0))), (1, .int .i64 (subOr left (szCalls a.calls))), (2, .pointer (some ⟨b1, 0, none⟩))] _ := F12.cut rfl
 clear F0 F2 F3 F4 F5 F6 F8 F9 F11 F12
 refine s_end (x_normal (x_cond (p := (subOr left (szCalls a.calls)) < 0) (F13.ev 10 rfl) (fun h14 => ?_) (fun h14 => ?_)))
 · skip
   refine wp_seq (wp_region_lit (l_op (f_val F13 rfl rfl (r_assign rfl rfl) rfl fun _ F15 => ?_)))
   refine s_end (x_normal (wp_ret (x_then_ret ?_)))
   refine x_done (v := .int .i64 (-1)) F15 (results_1 Tryz.results35 (.tmp (F15.ev 4 rfl))) ?_
   exact ⟨(by rw [(show (-1) = (subOr left (szTxD a)) from by unfold szTxD; first | exact sz4_a (by assumption) | exact sz4_b (by assumption) (by assumption) | exact sz4_c (by assumption) (by assumption) (by assumption) | exact sz4_d (by assumption) (by assumption) (by assumption) | (rw [← sz4_d (by assumption) (by assumption) (by assumption)]; exact subOr_neg1 (by assumption)))]), (Mv.pick (S1.trans T10) [] rfl), subOr_i64 p0 p1⟩
 · skip
   refine wp_skip (x_normal (wp_seq (wp_region_lit (l_op (f_val F13 rfl rfl (r_field FI_82_5 rfl (F13.ev 2 rfl) rfl) rfl fun _ F16 => ?_)))))
   refine l_op (f_val (v := .slice Q0 Q2 Q1) F16 rfl rfl (r_loadB T10.at' 0 TI_79 rfl rfl (F16.ev 11 rfl) rfl rfl (fun _ => rfl) rfl) rfl fun _ F17 => ?_)
   refine l_op (f_mv F17 rfl rfl rfl rfl rfl fun _ F18 => ?_)
   refine l_op (f_call F18 CF_59 rfl rfl rfl rfl (lc (F18.ev 12 rfl) (lc (F18.ev 13 rfl) rfl)) (laws_szAnswerS_c (a := a.answers) (left := (subOr left (szCalls a.calls))) (RdA.mv (Nat.succ_pos _) Q14 (S1.trans T10)) (by first | assumption | exact ⟨by omega, by omega⟩ | (unfold i64ok at *; omega)) (by first | assumption | omega | (simp <;> omega)) (by have q1 := subOr_bd left (szCalls a.calls) p0; omega)) ?_)
   rintro _ w19 ⟨rfl, m19, q19_0⟩
   refine ⟨_, rfl, fun _ F20 => ?_⟩
   have S19 := At.frame0 T10.at' m19
   clear m19
   refine l_op (f_as F20 rfl rfl rfl rfl rfl fun _ F21 => ?_)
   refine s_end (x_normal (wp_seq (wp_seq (wp_region_lit (l_op (f_mv F21 rfl rfl rfl rfl rfl fun _ F22 => ?_))))))
   refine l_op (f_val F22 rfl rfl (r_cmp (b := decide ((subOr (subOr left (szCalls a.calls)) (szAnss a.answers)) < 0)) (.inr (.inr (.inl rfl))) rfl (F22.ev 15 rfl) rfl (dec_of (by omega))) rfl fun _ F23 => ?_)
   refine s_end (x_normal (x_cond (p := (subOr (subOr left (szCalls a.calls)) (szAnss a.answers)) < 0) (F23.ev 16 rfl) (fun h24 => ?_) (fun h24 => ?_)))
   · skip
     refine wp_seq (wp_region_lit (l_op (f_val F23 rfl rfl (r_assign rfl rfl) rfl fun _ F25 => ?_)))
     refine s_end (x_normal (wp_ret (x_then_ret ?_)))
     refine x_done (v := .int .i64 (-1)) F25 (results_1 Tryz.results35 (.tmp (F25.ev 4 rfl))) ?_
     exact ⟨(by rw [(show (-1) = (subOr left (szTxD a)) from by unfold szTxD; first | exact sz4_a (by assumption) | exact sz4_b (by assumption) (by assumption) | exact sz4_c (by assumption) (by assumption) (by assumption) | exact sz4_d (by assumption) (by assumption) (by assumption) | (rw [← sz4_d (by assumption) (by assumption) (by assumption)]; exact subOr_neg1 (by assumption)))]), (Mv.pick (S1.trans (T10.trans S19)) [] rfl), subOr_i64 p0 p1⟩
   · skip
     refine wp_skip (x_normal (wp_seq (wp_region_lit (l_op (f_val F23 rfl rfl (r_field FI_82_6 rfl (F23.ev 2 rfl) rfl) rfl fun _ F26 => ?_)))))
     refine l_op (f_val (v := .agg #[.slice a_Ra a_Rn a_Rc, .slice a_Wa a_Wn a_Wc]) F26 rfl rfl (r_loadB S19.at' 0 TI_80 rfl rfl (F26.ev 17 rfl) rfl rfl (fun h => nomatch h) rfl) rfl fun _ F27 => ?_)
     refine l_op (f_mv F27 rfl rfl rfl rfl rfl fun _ F28 => ?_)
     refine l_op (f_call F28 CF_60 rfl rfl rfl rfl (lc (F28.ev 18 rfl) (lc (F28.ev 19 rfl) rfl)) (laws_szTouch_c (a := a.touch) (left := (subOr (subOr left (szCalls a.calls)) (szAnss a.answers))) (RdA.mv (Nat.succ_pos _) Q17 (S1.trans (T10.trans S19))) (RdA.mv (Nat.succ_pos _) Q18 (S1.trans (T10.trans S19))) (by first | assumption | exact ⟨by omega, by omega⟩ | (unfold i64ok at *; omega)) (by first | assumption | omega | (simp <;> omega)) (by have q1 := subOr_bd left (szCalls a.calls) p0; have q2 := subOr_bd (subOr left (szCalls a.calls)) (szAnss a.answers) (by omega); omega)) ?_)
     rintro _ w29 ⟨rfl, m29, q29_0⟩
     refine ⟨_, rfl, fun _ F30 => ?_⟩
     have S29 := At.frame0 S19.at' m29
     clear m29
     refine l_op (f_as F30 rfl rfl rfl rfl rfl fun _ F31 => ?_)
     have F32 : Fr 30 [(1, .int .i64 (subOr (subOr (subOr left (szCalls a.calls)) (szAnss a.answers)) (szTouchD a.touch))), (2, .pointer (some ⟨b1, 0, none⟩))] _ := F31.cut rfl
     clear F13 F16 F17 F18 F20 F21 F22 F23 F26 F27 F28 F30 F31
     have T33 : Mv _ _ [bx b1 [.int .i64 a.id, .int .i64 a.age, .int .i64 a.proc, .int .i64 a.began, .slice Q3 Q5 Q4, .slice Q0 Q2 Q1, .slice a_Ra a_Rn a_Rc, .slice a_Wa a_Wn a_Wc, .slice Q6 Q8 Q7, .int .i64 a.state] 82] _ := S29
     refine s_end (x_normal (wp_seq (wp_seq (wp_region_lit (l_op (f_mv F32 rfl rfl rfl rfl rfl fun _ F34 => ?_))))))
     refine l_op (f_val F34 rfl rfl (r_cmp (b := decide ((subOr (subOr (subOr left (szCalls a.calls)) (szAnss a.answers)) (szTouchD a.touch)) < 0)) (.inr (.inr (.inl rfl))) rfl (F34.ev 21 rfl) rfl (dec_of (by omega))) rfl fun _ F35 => ?_)
     refine s_end (x_normal (x_cond (p := (subOr (subOr (subOr left (szCalls a.calls)) (szAnss a.answers)) (szTouchD a.touch)) < 0) (F35.ev 22 rfl) (fun h36 => ?_) (fun h36 => ?_)))
     · skip
       refine wp_seq (wp_region_lit (l_op (f_val F35 rfl rfl (r_assign rfl rfl) rfl fun _ F37 => ?_)))
       refine s_end (x_normal (wp_ret (x_then_ret ?_)))
       refine x_done (v := .int .i64 (-1)) F37 (results_1 Tryz.results35 (.tmp (F37.ev 4 rfl))) ?_
       exact ⟨(by rw [(show (-1) = (subOr left (szTxD a)) from by unfold szTxD; first | exact sz4_a (by assumption) | exact sz4_b (by assumption) (by assumption) | exact sz4_c (by assumption) (by assumption) (by assumption) | exact sz4_d (by assumption) (by assumption) (by assumption) | (rw [← sz4_d (by assumption) (by assumption) (by assumption)]; exact subOr_neg1 (by assumption)))]), (Mv.pick (S1.trans (T10.trans (S19.trans T33))) [] rfl), subOr_i64 p0 p1⟩
     · skip
       refine wp_skip (x_normal (wp_seq (wp_region_lit (l_op (f_val F35 rfl rfl (r_field FI_82_7 rfl (F35.ev 2 rfl) rfl) rfl fun _ F38 => ?_)))))
       refine l_op (f_val (v := .slice Q6 Q8 Q7) F38 rfl rfl (r_loadB T33.at' 0 TI_56 rfl rfl (F38.ev 23 rfl) rfl rfl (fun _ => rfl) rfl) rfl fun _ F39 => ?_)
       refine l_op (f_mv F39 rfl rfl rfl rfl rfl fun _ F40 => ?_)
       refine l_op (f_call F40 CF_61 rfl rfl rfl rfl (lc (F40.ev 24 rfl) (lc (F40.ev 25 rfl) rfl)) (laws_szIntS_c (a := a.marks) (left := (subOr (subOr (subOr left (szCalls a.calls)) (szAnss a.answers)) (szTouchD a.touch))) (RdA.mv (Nat.succ_pos _) Q16 (S1.trans (T10.trans (S19.trans T33)))) (by first | assumption | exact ⟨by omega, by omega⟩ | (unfold i64ok at *; omega)) (by first | assumption | omega | (simp <;> omega)) (by have q1 := subOr_bd left (szCalls a.calls) p0; have q2 := subOr_bd (subOr left (szCalls a.calls)) (szAnss a.answers) (by omega); have q3 := subOr_bd (subOr (subOr left (szCalls a.calls)) (szAnss a.answers)) (szTouchD a.touch) (by omega); omega)) ?_)
       rintro _ w41 ⟨rfl, m41, q41_0⟩
       refine ⟨_, rfl, fun _ F42 => ?_⟩
       have S41 := At.frame0 T33.at' m41
       clear m41
       refine l_op (f_as F42 rfl rfl rfl rfl rfl fun _ F43 => ?_)
       refine s_end (x_normal (wp_seq (wp_seq (wp_region_lit (l_op (f_mv F43 rfl rfl rfl rfl rfl fun _ F44 => ?_))))))
       refine l_op (f_val F44 rfl rfl (r_cmp (b := decide ((subOr (subOr (subOr (subOr left (szCalls a.calls)) (szAnss a.answers)) (szTouchD a.touch)) a.marks.length) < 0)) (.inr (.inr (.inl rfl))) rfl (F44.ev 27 rfl) rfl (dec_of (by omega))) rfl fun _ F45 => ?_)
       have F46 : Fr 30 [(28, .bool (decide ((subOr (subOr (subOr (subOr left (szCalls a.calls)) (szAnss a.answers)) (szTouchD a.touch)) a.marks.length) < 0))), (1, .int .i64 (subOr (subOr (subOr (subOr left (szCalls a.calls)) (szAnss a.answers)) (szTouchD a.touch)) a.marks.length))] _ := F45.cut rfl
       clear F32 F34 F35 F38 F39 F40 F42 F43 F44 F45
       refine s_end (x_normal (x_cond (p := (subOr (subOr (subOr (subOr left (szCalls a.calls)) (szAnss a.answers)) (szTouchD a.touch)) a.marks.length) < 0) (F46.ev 28 rfl) (fun h47 => ?_) (fun h47 => ?_)))
       · skip
         refine wp_seq (wp_region_lit (l_op (f_val F46 rfl rfl (r_assign rfl rfl) rfl fun _ F48 => ?_)))
         refine s_end (x_normal (wp_ret (x_then_ret ?_)))
         refine x_done (v := .int .i64 (-1)) F48 (results_1 Tryz.results35 (.tmp (F48.ev 4 rfl))) ?_
         exact ⟨(by rw [(show (-1) = (subOr left (szTxD a)) from by unfold szTxD; first | exact sz4_a (by assumption) | exact sz4_b (by assumption) (by assumption) | exact sz4_c (by assumption) (by assumption) (by assumption) | exact sz4_d (by assumption) (by assumption) (by assumption) | (rw [← sz4_d (by assumption) (by assumption) (by assumption)]; exact subOr_neg1 (by assumption)))]), (Mv.pick (S1.trans (T10.trans (S19.trans (T33.trans S41)))) [] rfl), subOr_i64 p0 p1⟩
       · skip
         refine wp_skip (x_normal (wp_seq (wp_region_lit (l_op (f_mv F46 rfl rfl rfl rfl rfl fun _ F49 => ?_)))))
         refine l_op (f_as F49 rfl rfl rfl rfl rfl fun _ F50 => ?_)
         refine s_end (x_normal (wp_ret ?_))
         refine x_done (v := .int .i64 (subOr (subOr (subOr (subOr left (szCalls a.calls)) (szAnss a.answers)) (szTouchD a.touch)) a.marks.length)) F50 (results_1 Tryz.results35 (.tmp (F50.ev 4 rfl))) ?_
         exact ⟨(by rw [(show (subOr (subOr (subOr (subOr left (szCalls a.calls)) (szAnss a.answers)) (szTouchD a.touch)) a.marks.length) = (subOr left (szTxD a)) from by unfold szTxD; first | exact sz4_a (by assumption) | exact sz4_b (by assumption) (by assumption) | exact sz4_c (by assumption) (by assumption) (by assumption) | exact sz4_d (by assumption) (by assumption) (by assumption) | (rw [← sz4_d (by assumption) (by assumption) (by assumption)]; exact subOr_neg1 (by assumption)))]), (Mv.pick (S1.trans (T10.trans (S19.trans (T33.trans S41)))) [] rfl), subOr_i64 p0 p1⟩
theorem laws_toTx_c {w : World} {H : Nat → Prop} {a : TxD} {Q9 : Option Addr} {Q11 Q10 : Nat} {Q6 : Option Addr} {Q8 Q7 : Nat} {a_Ra : Option Addr} {a_Rn a_Rc : Nat} {a_Wa : Option Addr} {a_Wn a_Wc : Nat} {Q12 : Option Addr} {Q14 Q13 : Nat} (Q51 : i64ok a.id) (Q49 : i64ok a.age) (Q52 : i64ok a.proc) (Q50 : i64ok a.began) (Q40 : RdA 6 encK okK H w (.slice Q9 Q11 Q10) a.calls) (Q39 : RdA 3 encR okR H w (.slice Q6 Q8 Q7) a.answers) (Q42 : RdA 1 encS okS H w (.slice a_Ra a_Rn a_Rc) a.touch.reads) (Q43 : RdA 1 encS okS H w (.slice a_Wa a_Wn a_Wc) a.touch.writes) (Q41 : RdA 1 encI okI H w (.slice Q12 Q14 Q13) a.marks) (Q53 : i64ok a.state) (p0 : a.calls.length ≤ 1048576) (p1 : a.answers.length ≤ 1048576) (p2 : a.touch.reads.length ≤ 1048576) (p3 : a.touch.writes.length ≤ 1048576) (p4 : a.marks.length ≤ 1048576) :
    Calls Tryz.prog 44 #[.agg #[.int .i64 a.id, .int .i64 a.age, .int .i64 a.proc, .int .i64 a.began, .slice Q9 Q11 Q10, .slice Q6 Q8 Q7, .slice a_Ra a_Rn a_Rc, .slice a_Wa a_Wn a_Wc, .slice Q12 Q14 Q13, .int .i64 a.state]] w fun e w' => ∃ (Q33 : Option Addr), ∃ (Q35 : Nat), ∃ (Q34 : Nat), ∃ (Q30 : Option Addr), ∃ (Q32 : Nat), ∃ (Q31 : Nat), ∃ (Q24 : Option Addr), ∃ (Q26 : Nat), ∃ (Q25 : Nat), ∃ (Q27 : Option Addr), ∃ (Q29 : Nat), ∃ (Q28 : Nat), ∃ (Q36 : Option Addr), ∃ (Q38 : Nat), ∃ (Q37 : Nat), e = .returned (.agg #[.int .i64 a.id, .int .i64 a.age, .int .i64 a.proc, .int .i64 a.began, .slice Q33 Q35 Q34, .slice Q30 Q32 Q31, .slice Q24 Q26 Q25, .slice Q27 Q29 Q28, .slice Q36 Q38 Q37, .int .i64 a.state]) ∧ Mv [] w [ow 140 6 encK okK (.slice Q33 Q35 Q34) a.calls, ow 142 3 encR okR (.slice Q30 Q32 Q31) a.answers, ow 9 1 encS okS (.slice Q24 Q26 Q25) a.touch.reads, ow 9 1 encS okS (.slice Q27 Q29 Q28) a.touch.writes, ow 3 1 encI okI (.slice Q36 Q38 Q37) a.marks] w' := by
 have uU : True := (fun _ _ _ _ _ _ _ _ _ _ => trivial) Q51 Q49 Q52 Q50 Q53 p0 p1 p2 p3 p4
 clear uU
 have Q45 : RdA 6 encK okK (V H w []) w (.slice Q9 Q11 Q10) a.calls := RdA.start Q40 (fun _ _ => fps_nil _)
 obtain ⟨Q60, Q55, Q80, Q85⟩ := RdA.inv Q40
 have Q44 : RdA 3 encR okR (V H w []) w (.slice Q6 Q8 Q7) a.answers := RdA.start Q39 (fun _ _ => fps_nil _)
 obtain ⟨Q59, Q54, Q79, Q84⟩ := RdA.inv Q39
 have Q47 : RdA 1 encS okS (V H w []) w (.slice a_Ra a_Rn a_Rc) a.touch.reads := RdA.start Q42 (fun _ _ => fps_nil _)
 obtain ⟨Q62, Q57, Q82, Q87⟩ := RdA.inv Q42
 have Q48 : RdA 1 encS okS (V H w []) w (.slice a_Wa a_Wn a_Wc) a.touch.writes := RdA.start Q43 (fun _ _ => fps_nil _)
 obtain ⟨Q63, Q58, Q83, Q88⟩ := RdA.inv Q43
 have Q46 : RdA 1 encI okI (V H w []) w (.slice Q12 Q14 Q13) a.marks := RdA.start Q41 (fun _ _ => fps_nil _)
 obtain ⟨Q61, Q56, Q81, Q86⟩ := RdA.inv Q41
 refine calls_enter 36 Tryz.func44 rfl Tryz.ntmps44 (Nat.le_of_ble_eq_true rfl) (fun _ F0i => ?_)
 have F0 : Fr 36 [(0, .agg #[.int .i64 a.id, .int .i64 a.age, .int .i64 a.proc, .int .i64 a.began, .slice Q9 Q11 Q10, .slice Q6 Q8 Q7, .slice a_Ra a_Rn a_Rc, .slice a_Wa a_Wn a_Wc, .slice Q12 Q14 Q13, .int .i64 a.state])] _ := F0i
 clear F0i
 refine wp_seq (wp_region_lit (l_op (f_box F0 (At.nil w) rfl rfl rfl (F0.ev 0 rfl) rfl rfl fun b1 _ w1 F2 S1 => ?_)))
 refine l_op (f_alloc F2 S1.at' ZI_58 rfl rfl rfl rfl rfl fun b3 _ w3 F4 S3 => ?_)
 have T5 : Mv _ _ [bx b3 [.int .i64 0, .int .i64 0, .int .i64 0, .int .i64 0, .slice none 0 0, .slice none 0 0, .slice none 0 0, .slice none 0 0, .slice none 0 0, .int .i64 0] 58, bx b1 [.int .i64 a.id, .int .i64 a.age, .int .i64 a.proc, .int .i64 a.began, .slice Q9 Q11 Q10, .slice Q6 Q8 Q7, .slice a_Ra a_Rn a_Rc, .slice a_Wa a_Wn a_Wc, .slice Q12 Q14 Q13, .int .i64 a.state] 82] _ := S3
 refine s_end (x_normal (wp_seq (wp_region_lit (l_op (f_alloc F4 T5.at' ZI_58 rfl rfl rfl rfl rfl fun b6 _ w6 F7 S6 => ?_)))))
 refine s_end (x_normal (wp_seq (wp_region_lit (l_op (f_val F7 rfl rfl (r_field FI_82_0 rfl (F7.ev 1 rfl) rfl) rfl fun _ F8 => ?_)))))
 refine l_op (f_val (v := .int .i64 a.id) F8 rfl rfl (r_loadB S6.at' 2 TI_3 rfl rfl (F8.ev 4 rfl) rfl rfl (fun _ => rfl) rfl) rfl fun _ F9 => ?_)
 refine l_op (f_val F9 rfl rfl (r_field FI_58_0 rfl (F9.ev 3 rfl) rfl) rfl fun _ F10 => ?_)
 refine l_op (s_store S6.at' 0 TI_3 rfl rfl rfl rfl rfl (F10.ev 6 rfl) (F10.ev 5 rfl) rfl rfl rfl rfl rfl fun w11 S11 => ?_)
 have T12 : Mv _ _ [bx b6 [.int .i64 a.id, .int .i64 0, .int .i64 0, .int .i64 0, .slice none 0 0, .slice none 0 0, .slice none 0 0, .slice none 0 0, .slice none 0 0, .int .i64 0] 58, bx b3 [.int .i64 0, .int .i64 0, .int .i64 0, .int .i64 0, .slice none 0 0, .slice none 0 0, .slice none 0 0, .slice none 0 0, .slice none 0 0, .int .i64 0] 58, bx b1 [.int .i64 a.id, .int .i64 a.age, .int .i64 a.proc, .int .i64 a.began, .slice Q9 Q11 Q10, .slice Q6 Q8 Q7, .slice a_Ra a_Rn a_Rc, .slice a_Wa a_Wn a_Wc, .slice Q12 Q14 Q13, .int .i64 a.state] 82] _ := S11
 refine s_end (x_normal (wp_seq (wp_region_lit (l_op (f_val F10 rfl rfl (r_field FI_82_1 rfl (F10.ev 1 rfl) rfl) rfl fun _ F13 => ?_)))))
 refine l_op (f_val (v := .int .i64 a.age) F13 rfl rfl (r_loadB T12.at' 2 TI_3 rfl rfl (F13.ev 7 rfl) rfl rfl (fun _ => rfl) rfl) rfl fun _ F14 => ?_)
 refine l_op (f_val F14 rfl rfl (r_field FI_58_1 rfl (F14.ev 3 rfl) rfl) rfl fun _ F15 => ?_)
 refine l_op (s_store T12.at' 0 TI_3 rfl rfl rfl rfl rfl (F15.ev 9 rfl) (F15.ev 8 rfl) rfl rfl rfl rfl rfl fun w16 S16 => ?_)
 have F17 : Fr 36 [(9, .pointer (some ⟨b6, 1, none⟩)), (8, .int .i64 a.age), (3, .pointer (some ⟨b6, 0, none⟩)), (2, .pointer (some ⟨b3, 0, none⟩)), (1, .pointer (some ⟨b1, 0, none⟩))] _ := F15.cut rfl
 clear F0 F2 F4 F7 F8 F9 F10 F13 F14 F15
 refine s_end (x_normal (wp_seq (wp_region_lit (l_op (f_val F17 rfl rfl (r_field FI_82_2 rfl (F17.ev 1 rfl) rfl) rfl fun _ F18 => ?_)))))
 refine l_op (f_val (v := .int .i64 a.proc) F18 rfl rfl (r_loadB S16.at' 2 TI_3 rfl rfl (F18.ev 10 rfl) rfl rfl (fun _ => rfl) rfl) rfl fun _ F19 => ?_)
 refine l_op (f_val F19 rfl rfl (r_field FI_58_2 rfl (F19.ev 3 rfl) rfl) rfl fun _ F20 => ?_)
 refine l_op (s_store S16.at' 0 TI_3 rfl rfl rfl rfl rfl (F20.ev 12 rfl) (F20.ev 11 rfl) rfl rfl rfl rfl rfl fun w21 S21 => ?_)
 have T22 : Mv _ _ [bx b6 [.int .i64 a.id, .int .i64 a.age, .int .i64 a.proc, .int .i64 0, .slice none 0 0, .slice none 0 0, .slice none 0 0, .slice none 0 0, .slice none 0 0, .int .i64 0] 58, bx b3 [.int .i64 0, .int .i64 0, .int .i64 0, .int .i64 0, .slice none 0 0, .slice none 0 0, .slice none 0 0, .slice none 0 0, .slice none 0 0, .int .i64 0] 58, bx b1 [.int .i64 a.id, .int .i64 a.age, .int .i64 a.proc, .int .i64 a.began, .slice Q9 Q11 Q10, .slice Q6 Q8 Q7, .slice a_Ra a_Rn a_Rc, .slice a_Wa a_Wn a_Wc, .slice Q12 Q14 Q13, .int .i64 a.state] 82] _ := S21
 refine s_end (x_normal (wp_seq (wp_region_lit (l_op (f_val F20 rfl rfl (r_field FI_82_3 rfl (F20.ev 1 rfl) rfl) rfl fun _ F23 => ?_)))))
 refine l_op (f_val (v := .int .i64 a.began) F23 rfl rfl (r_loadB T22.at' 2 TI_3 rfl rfl (F23.ev 13 rfl) rfl rfl (fun _ => rfl) rfl) rfl fun _ F24 => ?_)
 refine l_op (f_val F24 rfl rfl (r_field FI_58_3 rfl (F24.ev 3 rfl) rfl) rfl fun _ F25 => ?_)
 refine l_op (s_store T22.at' 0 TI_3 rfl rfl rfl rfl rfl (F25.ev 15 rfl) (F25.ev 14 rfl) rfl rfl rfl rfl rfl fun w26 S26 => ?_)
 refine s_end (x_normal (wp_seq (wp_region_lit (l_op (f_val F25 rfl rfl (r_field FI_82_4 rfl (F25.ev 1 rfl) rfl) rfl fun _ F27 => ?_)))))
 refine l_op (f_val (v := .slice Q9 Q11 Q10) F27 rfl rfl (r_loadB S26.at' 2 TI_78 rfl rfl (F27.ev 16 rfl) rfl rfl (fun _ => rfl) rfl) rfl fun _ F28 => ?_)
 refine l_op (f_call F28 CF_65 rfl rfl rfl rfl (lc (F28.ev 17 rfl) rfl) (laws_toCallS_c (a := a.calls) (RdA.mv (Nat.succ_pos _) Q45 (S1.trans (T5.trans (S6.trans (T12.trans (S16.trans (T22.trans S26))))))) (by first | assumption | omega | (simp <;> omega))) ?_)
 rintro _ w29 ⟨Q0, Q2, Q1, rfl, m29⟩
 refine ⟨_, rfl, fun _ F30 => ?_⟩
 have S29 : Mv _ _ [ow 140 6 encK okK (.slice Q0 Q2 Q1) a.calls, bx b6 [.int .i64 a.id, .int .i64 a.age, .int .i64 a.proc, .int .i64 a.began, .slice none 0 0, .slice none 0 0, .slice none 0 0, .slice none 0 0, .slice none 0 0, .int .i64 0] 58, bx b3 [.int .i64 0, .int .i64 0, .int .i64 0, .int .i64 0, .slice none 0 0, .slice none 0 0, .slice none 0 0, .slice none 0 0, .slice none 0 0, .int .i64 0] 58, bx b1 [.int .i64 a.id, .int .i64 a.age, .int .i64 a.proc, .int .i64 a.began, .slice Q9 Q11 Q10, .slice Q6 Q8 Q7, .slice a_Ra a_Rn a_Rc, .slice a_Wa a_Wn a_Wc, .slice Q12 Q14 Q13, .int .i64 a.state] 82] _ := At.frame S26.at' [] rfl m29
 obtain ⟨Q64, Q69, Q74⟩ := At.ownInv S29.at' ET_52.hk 0 rfl
 clear m29
 refine l_op (f_val F30 rfl rfl (r_field FI_58_4 rfl (F30.ev 3 rfl) rfl) rfl fun _ F31 => ?_)
 refine l_op (s_store S29.at' 1 TI_52 rfl rfl rfl rfl rfl (F31.ev 19 rfl) (F31.ev 18 rfl) rfl rfl rfl rfl rfl fun w32 S32 => ?_)
 have F33 : Fr 36 [(19, .pointer (some ⟨b6, 4, none⟩)), (18, .slice Q0 Q2 Q1), (3, .pointer (some ⟨b6, 0, none⟩)), (2, .pointer (some ⟨b3, 0, none⟩)), (1, .pointer (some ⟨b1, 0, none⟩))] _ := F31.cut rfl
 clear F17 F18 F19 F20 F23 F24 F25 F27 F28 F30 F31
 have T34 : Mv _ _ [bx b6 [.int .i64 a.id, .int .i64 a.age, .int .i64 a.proc, .int .i64 a.began, .slice Q0 Q2 Q1, .slice none 0 0, .slice none 0 0, .slice none 0 0, .slice none 0 0, .int .i64 0] 58, ow 140 6 encK okK (.slice Q0 Q2 Q1) a.calls, bx b3 [.int .i64 0, .int .i64 0, .int .i64 0, .int .i64 0, .slice none 0 0, .slice none 0 0, .slice none 0 0, .slice none 0 0, .slice none 0 0, .int .i64 0] 58, bx b1 [.int .i64 a.id, .int .i64 a.age, .int .i64 a.proc, .int .i64 a.began, .slice Q9 Q11 Q10, .slice Q6 Q8 Q7, .slice a_Ra a_Rn a_Rc, .slice a_Wa a_Wn a_Wc, .slice Q12 Q14 Q13, .int .i64 a.state] 82] _ := S32
 refine s_end (x_normal (wp_seq (wp_region_lit (l_op (f_val F33 rfl rfl (r_field FI_82_5 rfl (F33.ev 1 rfl) rfl) rfl fun _ F35 => ?_)))))
 refine l_op (f_val (v := .slice Q6 Q8 Q7) F35 rfl rfl (r_loadB T34.at' 3 TI_79 rfl rfl (F35.ev 20 rfl) rfl rfl (fun _ => rfl) rfl) rfl fun _ F36 => ?_)
 refine l_op (f_call F36 CF_66 rfl rfl rfl rfl (lc (F36.ev 21 rfl) rfl) (laws_toAnswerS_c (a := a.answers) (RdA.mv (Nat.succ_pos _) Q44 (S1.trans (T5.trans (S6.trans (T12.trans (S16.trans (T22.trans (S26.trans (S29.trans T34))))))))) (by first | assumption | omega | (simp <;> omega))) ?_)
 rintro _ w37 ⟨Q3, Q5, Q4, rfl, m37⟩
 refine ⟨_, rfl, fun _ F38 => ?_⟩
 have S37 : Mv _ _ [ow 142 3 encR okR (.slice Q3 Q5 Q4) a.answers, bx b6 [.int .i64 a.id, .int .i64 a.age, .int .i64 a.proc, .int .i64 a.began, .slice Q0 Q2 Q1, .slice none 0 0, .slice none 0 0, .slice none 0 0, .slice none 0 0, .int .i64 0] 58, ow 140 6 encK okK (.slice Q0 Q2 Q1) a.calls, bx b3 [.int .i64 0, .int .i64 0, .int .i64 0, .int .i64 0, .slice none 0 0, .slice none 0 0, .slice none 0 0, .slice none 0 0, .slice none 0 0, .int .i64 0] 58, bx b1 [.int .i64 a.id, .int .i64 a.age, .int .i64 a.proc, .int .i64 a.began, .slice Q9 Q11 Q10, .slice Q6 Q8 Q7, .slice a_Ra a_Rn a_Rc, .slice a_Wa a_Wn a_Wc, .slice Q12 Q14 Q13, .int .i64 a.state] 82] _ := At.frame T34.at' [] rfl m37
 obtain ⟨Q65, Q70, Q75⟩ := At.ownInv S37.at' ET_53.hk 0 rfl
 clear m37
 refine l_op (f_val F38 rfl rfl (r_field FI_58_5 rfl (F38.ev 3 rfl) rfl) rfl fun _ F39 => ?_)
 refine l_op (s_store S37.at' 1 TI_53 rfl rfl rfl rfl rfl (F39.ev 23 rfl) (F39.ev 22 rfl) rfl rfl rfl rfl rfl fun w40 S40 => ?_)
 have T41 : Mv _ _ [bx b6 [.int .i64 a.id, .int .i64 a.age, .int .i64 a.proc, .int .i64 a.began, .slice Q0 Q2 Q1, .slice Q3 Q5 Q4, .slice none 0 0, .slice none 0 0, .slice none 0 0, .int .i64 0] 58, ow 142 3 encR okR (.slice Q3 Q5 Q4) a.answers, ow 140 6 encK okK (.slice Q0 Q2 Q1) a.calls, bx b3 [.int .i64 0, .int .i64 0, .int .i64 0, .int .i64 0, .slice none 0 0, .slice none 0 0, .slice none 0 0, .slice none 0 0, .slice none 0 0, .int .i64 0] 58, bx b1 [.int .i64 a.id, .int .i64 a.age, .int .i64 a.proc, .int .i64 a.began, .slice Q9 Q11 Q10, .slice Q6 Q8 Q7, .slice a_Ra a_Rn a_Rc, .slice a_Wa a_Wn a_Wc, .slice Q12 Q14 Q13, .int .i64 a.state] 82] _ := S40
 refine s_end (x_normal (wp_seq (wp_region_lit (l_op (f_val F39 rfl rfl (r_field FI_82_6 rfl (F39.ev 1 rfl) rfl) rfl fun _ F42 => ?_)))))
 refine l_op (f_val (v := .agg #[.slice a_Ra a_Rn a_Rc, .slice a_Wa a_Wn a_Wc]) F42 rfl rfl (r_loadB T41.at' 4 TI_80 rfl rfl (F42.ev 24 rfl) rfl rfl (fun h => nomatch h) rfl) rfl fun _ F43 => ?_)
 refine l_op (f_call F43 CF_67 rfl rfl rfl rfl (lc (F43.ev 25 rfl) rfl) (laws_toTouch_c (a := a.touch) (RdA.mv (Nat.succ_pos _) Q47 (S1.trans (T5.trans (S6.trans (T12.trans (S16.trans (T22.trans (S26.trans (S29.trans (T34.trans (S37.trans T41))))))))))) (RdA.mv (Nat.succ_pos _) Q48 (S1.trans (T5.trans (S6.trans (T12.trans (S16.trans (T22.trans (S26.trans (S29.trans (T34.trans (S37.trans T41))))))))))) (by first | assumption | omega | (simp <;> omega)) (by first | assumption | omega | (simp <;> omega))) ?_)
 rintro _ w44 ⟨Q15, Q17, Q16, Q18, Q20, Q19, rfl, m44⟩
 refine ⟨_, rfl, fun _ F45 => ?_⟩
 have S44 : Mv _ _ [ow 9 1 encS okS (.slice Q15 Q17 Q16) a.touch.reads, ow 9 1 encS okS (.slice Q18 Q20 Q19) a.touch.writes, bx b6 [.int .i64 a.id, .int .i64 a.age, .int .i64 a.proc, .int .i64 a.began, .slice Q0 Q2 Q1, .slice Q3 Q5 Q4, .slice none 0 0, .slice none 0 0, .slice none 0 0, .int .i64 0] 58, ow 142 3 encR okR (.slice Q3 Q5 Q4) a.answers, ow 140 6 encK okK (.slice Q0 Q2 Q1) a.calls, bx b3 [.int .i64 0, .int .i64 0, .int .i64 0, .int .i64 0, .slice none 0 0, .slice none 0 0, .slice none 0 0, .slice none 0 0, .slice none 0 0, .int .i64 0] 58, bx b1 [.int .i64 a.id, .int .i64 a.age, .int .i64 a.proc, .int .i64 a.began, .slice Q9 Q11 Q10, .slice Q6 Q8 Q7, .slice a_Ra a_Rn a_Rc, .slice a_Wa a_Wn a_Wc, .slice Q12 Q14 Q13, .int .i64 a.state] 82] _ := At.frame T41.at' [] rfl m44
 obtain ⟨Q66, Q71, Q76⟩ := At.ownInv S44.at' ET_30.hk 0 rfl
 obtain ⟨Q67, Q72, Q77⟩ := At.ownInv S44.at' ET_30.hk 1 rfl
 clear m44
 refine l_op (f_val F45 rfl rfl (r_field FI_58_6 rfl (F45.ev 3 rfl) rfl) rfl fun _ F46 => ?_)
 refine l_op (s_store S44.at' 2 TI_55 rfl rfl rfl rfl rfl (F46.ev 27 rfl) (F46.ev 26 rfl) rfl rfl rfl rfl rfl fun w47 S47 => ?_)
 have T48 : Mv _ _ [bx b6 [.int .i64 a.id, .int .i64 a.age, .int .i64 a.proc, .int .i64 a.began, .slice Q0 Q2 Q1, .slice Q3 Q5 Q4, .slice Q15 Q17 Q16, .slice Q18 Q20 Q19, .slice none 0 0, .int .i64 0] 58, ow 9 1 encS okS (.slice Q15 Q17 Q16) a.touch.reads, ow 9 1 encS okS (.slice Q18 Q20 Q19) a.touch.writes, ow 142 3 encR okR (.slice Q3 Q5 Q4) a.answers, ow 140 6 encK okK (.slice Q0 Q2 Q1) a.calls, bx b3 [.int .i64 0, .int .i64 0, .int .i64 0, .int .i64 0, .slice none 0 0, .slice none 0 0, .slice none 0 0, .slice none 0 0, .slice none 0 0, .int .i64 0] 58, bx b1 [.int .i64 a.id, .int .i64 a.age, .int .i64 a.proc, .int .i64 a.began, .slice Q9 Q11 Q10, .slice Q6 Q8 Q7, .slice a_Ra a_Rn a_Rc, .slice a_Wa a_Wn a_Wc, .slice Q12 Q14 Q13, .int .i64 a.state] 82] _ := S47
 refine s_end (x_normal (wp_seq (wp_region_lit (l_op (f_val F46 rfl rfl (r_field FI_82_7 rfl (F46.ev 1 rfl) rfl) rfl fun _ F49 => ?_)))))
 refine l_op (f_val (v := .slice Q12 Q14 Q13) F49 rfl rfl (r_loadB T48.at' 6 TI_56 rfl rfl (F49.ev 28 rfl) rfl rfl (fun _ => rfl) rfl) rfl fun _ F50 => ?_)
 refine l_op (f_call F50 CF_68 rfl rfl rfl rfl (lc (F50.ev 29 rfl) rfl) (laws_toIntS_c (a := a.marks) (RdA.mv (Nat.succ_pos _) Q46 (S1.trans (T5.trans (S6.trans (T12.trans (S16.trans (T22.trans (S26.trans (S29.trans (T34.trans (S37.trans (T41.trans (S44.trans T48))))))))))))) (by first | assumption | omega | (simp <;> omega))) ?_)
 rintro _ w51 ⟨Q21, Q23, Q22, rfl, m51⟩
 refine ⟨_, rfl, fun _ F52 => ?_⟩
 have S51 : Mv _ _ [ow 3 1 encI okI (.slice Q21 Q23 Q22) a.marks, bx b6 [.int .i64 a.id, .int .i64 a.age, .int .i64 a.proc, .int .i64 a.began, .slice Q0 Q2 Q1, .slice Q3 Q5 Q4, .slice Q15 Q17 Q16, .slice Q18 Q20 Q19, .slice none 0 0, .int .i64 0] 58, ow 9 1 encS okS (.slice Q15 Q17 Q16) a.touch.reads, ow 9 1 encS okS (.slice Q18 Q20 Q19) a.touch.writes, ow 142 3 encR okR (.slice Q3 Q5 Q4) a.answers, ow 140 6 encK okK (.slice Q0 Q2 Q1) a.calls, bx b3 [.int .i64 0, .int .i64 0, .int .i64 0, .int .i64 0, .slice none 0 0, .slice none 0 0, .slice none 0 0, .slice none 0 0, .slice none 0 0, .int .i64 0] 58, bx b1 [.int .i64 a.id, .int .i64 a.age, .int .i64 a.proc, .int .i64 a.began, .slice Q9 Q11 Q10, .slice Q6 Q8 Q7, .slice a_Ra a_Rn a_Rc, .slice a_Wa a_Wn a_Wc, .slice Q12 Q14 Q13, .int .i64 a.state] 82] _ := At.frame T48.at' [] rfl m51
 obtain ⟨Q68, Q73, Q78⟩ := At.ownInv S51.at' ET_56.hk 0 rfl
 clear m51
 refine l_op (f_val F52 rfl rfl (r_field FI_58_7 rfl (F52.ev 3 rfl) rfl) rfl fun _ F53 => ?_)
 refine l_op (s_store S51.at' 1 TI_56 rfl rfl rfl rfl rfl (F53.ev 31 rfl) (F53.ev 30 rfl) rfl rfl rfl rfl rfl fun w54 S54 => ?_)
 have F55 : Fr 36 [(31, .pointer (some ⟨b6, 8, none⟩)), (30, .slice Q21 Q23 Q22), (3, .pointer (some ⟨b6, 0, none⟩)), (2, .pointer (some ⟨b3, 0, none⟩)), (1, .pointer (some ⟨b1, 0, none⟩))] _ := F53.cut rfl
 clear F33 F35 F36 F38 F39 F42 F43 F45 F46 F49 F50 F52 F53
 have T56 : Mv _ _ [bx b6 [.int .i64 a.id, .int .i64 a.age, .int .i64 a.proc, .int .i64 a.began, .slice Q0 Q2 Q1, .slice Q3 Q5 Q4, .slice Q15 Q17 Q16, .slice Q18 Q20 Q19, .slice Q21 Q23 Q22, .int .i64 0] 58, ow 3 1 encI okI (.slice Q21 Q23 Q22) a.marks, ow 9 1 encS okS (.slice Q15 Q17 Q16) a.touch.reads, ow 9 1 encS okS (.slice Q18 Q20 Q19) a.touch.writes, ow 142 3 encR okR (.slice Q3 Q5 Q4) a.answers, ow 140 6 encK okK (.slice Q0 Q2 Q1) a.calls, bx b3 [.int .i64 0, .int .i64 0, .int .i64 0, .int .i64 0, .slice none 0 0, .slice none 0 0, .slice none 0 0, .slice none 0 0, .slice none 0 0, .int .i64 0] 58, bx b1 [.int .i64 a.id, .int .i64 a.age, .int .i64 a.proc, .int .i64 a.began, .slice Q9 Q11 Q10, .slice Q6 Q8 Q7, .slice a_Ra a_Rn a_Rc, .slice a_Wa a_Wn a_Wc, .slice Q12 Q14 Q13, .int .i64 a.state] 82] _ := S54
 refine s_end (x_normal (wp_seq (wp_region_lit (l_op (f_val F55 rfl rfl (r_field FI_82_8 rfl (F55.ev 1 rfl) rfl) rfl fun _ F57 => ?_)))))
 refine l_op (f_val (v := .int .i64 a.state) F57 rfl rfl (r_loadB T56.at' 7 TI_3 rfl rfl (F57.ev 32 rfl) rfl rfl (fun _ => rfl) rfl) rfl fun _ F58 => ?_)
 refine l_op (f_val F58 rfl rfl (r_field FI_58_8 rfl (F58.ev 3 rfl) rfl) rfl fun _ F59 => ?_)
 refine l_op (s_store T56.at' 0 TI_3 rfl rfl rfl rfl rfl (F59.ev 34 rfl) (F59.ev 33 rfl) rfl rfl rfl rfl rfl fun w60 S60 => ?_)
 refine s_end (x_normal (wp_seq (wp_region_lit (l_op (f_val (v := .agg #[.int .i64 a.id, .int .i64 a.age, .int .i64 a.proc, .int .i64 a.began, .slice Q0 Q2 Q1, .slice Q3 Q5 Q4, .slice Q15 Q17 Q16, .slice Q18 Q20 Q19, .slice Q21 Q23 Q22, .int .i64 a.state]) F59 rfl rfl (r_loadB S60.at' 0 TI_58 rfl rfl (F59.ev 3 rfl) rfl rfl (fun h => nomatch h) rfl) rfl fun _ F61 => ?_)))))
 refine l_op (s_store S60.at' 6 TI_58 rfl rfl rfl rfl rfl (F61.ev 2 rfl) (F61.ev 35 rfl) rfl rfl rfl rfl rfl fun w62 S62 => ?_)
 have T63 : Mv _ _ [bx b3 [.int .i64 a.id, .int .i64 a.age, .int .i64 a.proc, .int .i64 a.began, .slice Q0 Q2 Q1, .slice Q3 Q5 Q4, .slice Q15 Q17 Q16, .slice Q18 Q20 Q19, .slice Q21 Q23 Q22, .int .i64 a.state] 58, bx b6 [.int .i64 a.id, .int .i64 a.age, .int .i64 a.proc, .int .i64 a.began, .slice Q0 Q2 Q1, .slice Q3 Q5 Q4, .slice Q15 Q17 Q16, .slice Q18 Q20 Q19, .slice Q21 Q23 Q22, .int .i64 a.state] 58, ow 3 1 encI okI (.slice Q21 Q23 Q22) a.marks, ow 9 1 encS okS (.slice Q15 Q17 Q16) a.touch.reads, ow 9 1 encS okS (.slice Q18 Q20 Q19) a.touch.writes, ow 142 3 encR okR (.slice Q3 Q5 Q4) a.answers, ow 140 6 encK okK (.slice Q0 Q2 Q1) a.calls, bx b1 [.int .i64 a.id, .int .i64 a.age, .int .i64 a.proc, .int .i64 a.began, .slice Q9 Q11 Q10, .slice Q6 Q8 Q7, .slice a_Ra a_Rn a_Rc, .slice a_Wa a_Wn a_Wc, .slice Q12 Q14 Q13, .int .i64 a.state] 82] _ := S62
 refine s_end (x_normal (wp_ret ?_))
 refine x_done (v := .agg #[.int .i64 a.id, .int .i64 a.age, .int .i64 a.proc, .int .i64 a.began, .slice Q0 Q2 Q1, .slice Q3 Q5 Q4, .slice Q15 Q17 Q16, .slice Q18 Q20 Q19, .slice Q21 Q23 Q22, .int .i64 a.state]) F61 (results_1 Tryz.results44 (.cell (F61.ev 2 rfl) (run_loadVar' TI_58 _ [.int .i64 a.id, .int .i64 a.age, .int .i64 a.proc, .int .i64 a.began, .slice Q0 Q2 Q1, .slice Q3 Q5 Q4, .slice Q15 Q17 Q16, .slice Q18 Q20 Q19, .slice Q21 Q23 Q22, .int .i64 a.state] rfl (fun h => nomatch h) (At.cells T63.at' 0 rfl 0 [.int .i64 a.id, .int .i64 a.age, .int .i64 a.proc, .int .i64 a.began, .slice Q0 Q2 Q1, .slice Q3 Q5 Q4, .slice Q15 Q17 Q16, .slice Q18 Q20 Q19, .slice Q21 Q23 Q22, .int .i64 a.state] rfl)))) ?_
 exact ⟨Q0, Q2, Q1, Q3, Q5, Q4, Q15, Q17, Q16, Q18, Q20, Q19, Q21, Q23, Q22, rfl, (Mv.pick (S1.trans (T5.trans (S6.trans (T12.trans (S16.trans (T22.trans (S26.trans (S29.trans (T34.trans (S37.trans (T41.trans (S44.trans (T48.trans (S51.trans (T56.trans (S60.trans T63)))))))))))))))) [6, 5, 3, 4, 2] rfl)⟩
theorem laws_eqTx_c {w : World} {H : Nat → Prop} {a : TxD} {Q3 : Option Addr} {Q5 Q4 : Nat} {Q0 : Option Addr} {Q2 Q1 : Nat} {a_Ra : Option Addr} {a_Rn a_Rc : Nat} {a_Wa : Option Addr} {a_Wn a_Wc : Nat} {Q6 : Option Addr} {Q8 Q7 : Nat} {b : TxD} {Q12 : Option Addr} {Q14 Q13 : Nat} {Q9 : Option Addr} {Q11 Q10 : Nat} {b_Ra : Option Addr} {b_Rn b_Rc : Nat} {b_Wa : Option Addr} {b_Wn b_Wc : Nat} {Q15 : Option Addr} {Q17 Q16 : Nat} (Q40 : i64ok a.id) (Q38 : i64ok a.age) (Q41 : i64ok a.proc) (Q39 : i64ok a.began) (Q19 : Rd 6 encK okK H w (.slice Q3 Q5 Q4) a.calls) (Q18 : Rd 3 encR okR H w (.slice Q0 Q2 Q1) a.answers) (Q21 : Rd 1 encS okS H w (.slice a_Ra a_Rn a_Rc) a.touch.reads) (Q22 : Rd 1 encS okS H w (.slice a_Wa a_Wn a_Wc) a.touch.writes) (Q20 : Rd 1 encI okI H w (.slice Q6 Q8 Q7) a.marks) (Q42 : i64ok a.state) (Q45 : i64ok b.id) (Q43 : i64ok b.age) (Q46 : i64ok b.proc) (Q44 : i64ok b.began) (Q24 : Rd 6 encK okK H w (.slice Q12 Q14 Q13) b.calls) (Q23 : Rd 3 encR okR H w (.slice Q9 Q11 Q10) b.answers) (Q26 : Rd 1 encS okS H w (.slice b_Ra b_Rn b_Rc) b.touch.reads) (Q27 : Rd 1 encS okS H w (.slice b_Wa b_Wn b_Wc) b.touch.writes) (Q25 : Rd 1 encI okI H w (.slice Q15 Q17 Q16) b.marks) (Q47 : i64ok b.state) (p0 : a = b) :
    Calls Tryz.prog 54 #[.agg #[.int .i64 a.id, .int .i64 a.age, .int .i64 a.proc, .int .i64 a.began, .slice Q3 Q5 Q4, .slice Q0 Q2 Q1, .slice a_Ra a_Rn a_Rc, .slice a_Wa a_Wn a_Wc, .slice Q6 Q8 Q7, .int .i64 a.state], .agg #[.int .i64 b.id, .int .i64 b.age, .int .i64 b.proc, .int .i64 b.began, .slice Q12 Q14 Q13, .slice Q9 Q11 Q10, .slice b_Ra b_Rn b_Rc, .slice b_Wa b_Wn b_Wc, .slice Q15 Q17 Q16, .int .i64 b.state]] w fun e w' => e = .returned (.bool true) ∧ Mv [] w [] w' := by
 have uU : True := (fun _ _ _ _ _ _ _ _ _ _ => trivial) Q40 Q38 Q41 Q39 Q42 Q45 Q43 Q46 Q44 Q47
 clear uU
 have Q29 : Rd 6 encK okK (V H w []) w (.slice Q3 Q5 Q4) a.calls := Rd.start Q19 (fun _ _ => fps_nil _)
 obtain ⟨Q59, Q49, Q69, Q79⟩ := Rd.inv Q19
 have Q28 : Rd 3 encR okR (V H w []) w (.slice Q0 Q2 Q1) a.answers := Rd.start Q18 (fun _ _ => fps_nil _)
 obtain ⟨Q58, Q48, Q68, Q78⟩ := Rd.inv Q18
 have Q31 : Rd 1 encS okS (V H w []) w (.slice a_Ra a_Rn a_Rc) a.touch.reads := Rd.start Q21 (fun _ _ => fps_nil _)
 obtain ⟨Q61, Q51, Q71, Q81⟩ := Rd.inv Q21
 have Q32 : Rd 1 encS okS (V H w []) w (.slice a_Wa a_Wn a_Wc) a.touch.writes := Rd.start Q22 (fun _ _ => fps_nil _)
 obtain ⟨Q62, Q52, Q72, Q82⟩ := Rd.inv Q22
 have Q30 : Rd 1 encI okI (V H w []) w (.slice Q6 Q8 Q7) a.marks := Rd.start Q20 (fun _ _ => fps_nil _)
 obtain ⟨Q60, Q50, Q70, Q80⟩ := Rd.inv Q20
 have Q34 : Rd 6 encK okK (V H w []) w (.slice Q12 Q14 Q13) b.calls := Rd.start Q24 (fun _ _ => fps_nil _)
 obtain ⟨Q64, Q54, Q74, Q84⟩ := Rd.inv Q24
 have Q33 : Rd 3 encR okR (V H w []) w (.slice Q9 Q11 Q10) b.answers := Rd.start Q23 (fun _ _ => fps_nil _)
 obtain ⟨Q63, Q53, Q73, Q83⟩ := Rd.inv Q23
 have Q36 : Rd 1 encS okS (V H w []) w (.slice b_Ra b_Rn b_Rc) b.touch.reads := Rd.start Q26 (fun _ _ => fps_nil _)
 obtain ⟨Q66, Q56, Q76, Q86⟩ := Rd.inv Q26
 have Q37 : Rd 1 encS okS (V H w []) w (.slice b_Wa b_Wn b_Wc) b.touch.writes := Rd.start Q27 (fun _ _ => fps_nil _)
 obtain ⟨Q67, Q57, Q77, Q87⟩ := Rd.inv Q27
 have Q35 : Rd 1 encI okI (V H w []) w (.slice Q15 Q17 Q16) b.marks := Rd.start Q25 (fun _ _ => fps_nil _)
 obtain ⟨Q65, Q55, Q75, Q85⟩ := Rd.inv Q25
 refine calls_enter 54 Tryz.func54 rfl Tryz.ntmps54 (Nat.le_of_ble_eq_true rfl) (fun _ F0i => ?_)
 have F0 : Fr 54 [(0, .agg #[.int .i64 a.id, .int .i64 a.age, .int .i64 a.proc, .int .i64 a.began, .slice Q3 Q5 Q4, .slice Q0 Q2 Q1, .slice a_Ra a_Rn a_Rc, .slice a_Wa a_Wn a_Wc, .slice Q6 Q8 Q7, .int .i64 a.state]), (1, .agg #[.int .i64 b.id, .int .i64 b.age, .int .i64 b.proc, .int .i64 b.began, .slice Q12 Q14 Q13, .slice Q9 Q11 Q10, .slice b_Ra b_Rn b_Rc, .slice b_Wa b_Wn b_Wc, .slice Q15 Q17 Q16, .int .i64 b.state])] _ := F0i
 clear F0i
 refine wp_seq (wp_region_lit (l_op (f_box F0 (At.nil w) rfl rfl rfl (F0.ev 0 rfl) rfl rfl fun b1 _ w1 F2 S1 => ?_)))
 refine l_op (f_box F2 S1.at' rfl rfl rfl (F2.ev 1 rfl) rfl rfl fun b3 _ w3 F4 S3 => ?_)
 refine l_op (f_val F4 rfl rfl (r_assign rfl rfl) rfl fun _ F5 => ?_)
 have T6 : Mv _ _ [bx b3 [.int .i64 b.id, .int .i64 b.age, .int .i64 b.proc, .int .i64 b.began, .slice Q12 Q14 Q13, .slice Q9 Q11 Q10, .slice b_Ra b_Rn b_Rc, .slice b_Wa b_Wn b_Wc, .slice Q15 Q17 Q16, .int .i64 b.state] 58, bx b1 [.int .i64 a.id, .int .i64 a.age, .int .i64 a.proc, .int .i64 a.began, .slice Q3 Q5 Q4, .slice Q0 Q2 Q1, .slice a_Ra a_Rn a_Rc, .slice a_Wa a_Wn a_Wc, .slice Q6 Q8 Q7, .int .i64 a.state] 58] _ := S3
 refine s_end (x_normal (wp_seq (wp_seq (wp_region_lit (l_op (f_val F5 rfl rfl (r_field FI_58_0 rfl (F5.ev 2 rfl) rfl) rfl fun _ F7 => ?_))))))
 refine l_op (f_val (v := .int .i64 a.id) F7 rfl rfl (r_loadB T6.at' 1 TI_3 rfl rfl (F7.ev 5 rfl) rfl rfl (fun _ => rfl) rfl) rfl fun _ F8 => ?_)
 refine l_op (f_val F8 rfl rfl (r_field FI_58_0 rfl (F8.ev 3 rfl) rfl) rfl fun _ F9 => ?_)
 refine l_op (f_val (v := .int .i64 b.id) F9 rfl rfl (r_loadB T6.at' 0 TI_3 rfl rfl (F9.ev 7 rfl) rfl rfl (fun _ => rfl) rfl) rfl fun _ F10 => ?_)
 refine l_op (f_val F10 rfl rfl (r_cmp (b := decide (a.id ≠ b.id)) (.inr (.inl rfl)) rfl (F10.ev 6 rfl) (F10.ev 8 rfl) (dec_of (by omega))) rfl fun _ F11 => ?_)
 rw [show (decide (a.id ≠ b.id)) = false from decide_eq_false (fun h => h (by rw [p0]))] at F11
 refine s_end (x_normal (wp_cond_false (F11.ev 9 rfl) (wp_skip (x_normal (wp_seq (wp_seq (wp_region_lit (l_op (f_val F11 rfl rfl (r_field FI_58_1 rfl (F11.ev 2 rfl) rfl) rfl fun _ F12 => ?_)))))))))
 refine l_op (f_val (v := .int .i64 a.age) F12 rfl rfl (r_loadB T6.at' 1 TI_3 rfl rfl (F12.ev 10 rfl) rfl rfl (fun _ => rfl) rfl) rfl fun _ F13 => ?_)
 refine l_op (f_val F13 rfl rfl (r_field FI_58_1 rfl (F13.ev 3 rfl) rfl) rfl fun _ F14 => ?_)
 refine l_op (f_val (v := .int .i64 b.age) F14 rfl rfl (r_loadB T6.at' 0 TI_3 rfl rfl (F14.ev 12 rfl) rfl rfl (fun _ => rfl) rfl) rfl fun _ F15 => ?_)
 refine l_op (f_val F15 rfl rfl (r_cmp (b := decide (a.age ≠ b.age)) (.inr (.inl rfl)) rfl (F15.ev 11 rfl) (F15.ev 13 rfl) (dec_of (by omega))) rfl fun _ F16 => ?_)
 rw [show (decide (a.age ≠ b.age)) = false from decide_eq_false (fun h => h (by rw [p0]))] at F16
 have F17 : Fr 54 [(14, .bool false), (3, .pointer (some ⟨b3, 0, none⟩)), (2, .pointer (some ⟨b1, 0, none⟩))] _ := F16.cut rfl
 clear F0 F2 F4 F5 F7 F8 F9 F10 F11 F12 F13 F14 F15 F16
 refine s_end (x_normal (wp_cond_false (F17.ev 14 rfl) (wp_skip (x_normal (wp_seq (wp_seq (wp_region_lit (l_op (f_val F17 rfl rfl (r_field FI_58_2 rfl (F17.ev 2 rfl) rfl) rfl fun _ F18 => ?_)))))))))
 refine l_op (f_val (v := .int .i64 a.proc) F18 rfl rfl (r_loadB T6.at' 1 TI_3 rfl rfl (F18.ev 15 rfl) rfl rfl (fun _ => rfl) rfl) rfl fun _ F19 => ?_)
 refine l_op (f_val F19 rfl rfl (r_field FI_58_2 rfl (F19.ev 3 rfl) rfl) rfl fun _ F20 => ?_)
 refine l_op (f_val (v := .int .i64 b.proc) F20 rfl rfl (r_loadB T6.at' 0 TI_3 rfl rfl (F20.ev 17 rfl) rfl rfl (fun _ => rfl) rfl) rfl fun _ F21 => ?_)
 refine l_op (f_val F21 rfl rfl (r_cmp (b := decide (a.proc ≠ b.proc)) (.inr (.inl rfl)) rfl (F21.ev 16 rfl) (F21.ev 18 rfl) (dec_of (by omega))) rfl fun _ F22 => ?_)
 rw [show (decide (a.proc ≠ b.proc)) = false from decide_eq_false (fun h => h (by rw [p0]))] at F22
 refine s_end (x_normal (wp_cond_false (F22.ev 19 rfl) (wp_skip (x_normal (wp_seq (wp_seq (wp_region_lit (l_op (f_val F22 rfl rfl (r_field FI_58_3 rfl (F22.ev 2 rfl) rfl) rfl fun _ F23 => ?_)))))))))
 refine l_op (f_val (v := .int .i64 a.began) F23 rfl rfl (r_loadB T6.at' 1 TI_3 rfl rfl (F23.ev 20 rfl) rfl rfl (fun _ => rfl) rfl) rfl fun _ F24 => ?_)
 refine l_op (f_val F24 rfl rfl (r_field FI_58_3 rfl (F24.ev 3 rfl) rfl) rfl fun _ F25 => ?_)
 refine l_op (f_val (v := .int .i64 b.began) F25 rfl rfl (r_loadB T6.at' 0 TI_3 rfl rfl (F25.ev 22 rfl) rfl rfl (fun _ => rfl) rfl) rfl fun _ F26 => ?_)
 refine l_op (f_val F26 rfl rfl (r_cmp (b := decide (a.began ≠ b.began)) (.inr (.inl rfl)) rfl (F26.ev 21 rfl) (F26.ev 23 rfl) (dec_of (by omega))) rfl fun _ F27 => ?_)
 rw [show (decide (a.began ≠ b.began)) = false from decide_eq_false (fun h => h (by rw [p0]))] at F27
 have F28 : Fr 54 [(24, .bool false), (3, .pointer (some ⟨b3, 0, none⟩)), (2, .pointer (some ⟨b1, 0, none⟩))] _ := F27.cut rfl
 clear F17 F18 F19 F20 F21 F22 F23 F24 F25 F26 F27
 refine s_end (x_normal (wp_cond_false (F28.ev 24 rfl) (wp_skip (x_normal (wp_seq (wp_seq (wp_region_lit (l_op (f_val F28 rfl rfl (r_field FI_58_4 rfl (F28.ev 2 rfl) rfl) rfl fun _ F29 => ?_)))))))))
 refine l_op (f_val (v := .slice Q3 Q5 Q4) F29 rfl rfl (r_loadB T6.at' 1 TI_52 rfl rfl (F29.ev 25 rfl) rfl rfl (fun _ => rfl) rfl) rfl fun _ F30 => ?_)
 refine l_op (f_val F30 rfl rfl (r_field FI_58_4 rfl (F30.ev 3 rfl) rfl) rfl fun _ F31 => ?_)
 refine l_op (f_val (v := .slice Q12 Q14 Q13) F31 rfl rfl (r_loadB T6.at' 0 TI_52 rfl rfl (F31.ev 27 rfl) rfl rfl (fun _ => rfl) rfl) rfl fun _ F32 => ?_)
 refine l_op (f_call F32 CF_72 rfl rfl rfl rfl (lc (F32.ev 26 rfl) (lc (F32.ev 28 rfl) rfl)) (laws_eqCallS_c (a := a.calls) (b := b.calls) (Rd.mv (Nat.succ_pos _) Q29 (S1.trans T6)) (Rd.mv (Nat.succ_pos _) Q34 (S1.trans T6)) (by rw [p0])) ?_)
 rintro _ w33 ⟨rfl, m33⟩
 refine ⟨_, rfl, fun _ F34 => ?_⟩
 have S33 := At.frame0 T6.at' m33
 clear m33
 refine l_op (f_val F34 rfl rfl (r_not rfl (F34.ev 29 rfl)) rfl fun _ F35 => ?_)
 refine s_end (x_normal (wp_cond_false (F35.ev 30 rfl) (wp_skip (x_normal (wp_seq (wp_seq (wp_region_lit (l_op (f_val F35 rfl rfl (r_field FI_58_5 rfl (F35.ev 2 rfl) rfl) rfl fun _ F36 => ?_)))))))))
 refine l_op (f_val (v := .slice Q0 Q2 Q1) F36 rfl rfl (r_loadB S33.at' 1 TI_53 rfl rfl (F36.ev 31 rfl) rfl rfl (fun _ => rfl) rfl) rfl fun _ F37 => ?_)
 refine l_op (f_val F37 rfl rfl (r_field FI_58_5 rfl (F37.ev 3 rfl) rfl) rfl fun _ F38 => ?_)
 refine l_op (f_val (v := .slice Q9 Q11 Q10) F38 rfl rfl (r_loadB S33.at' 0 TI_53 rfl rfl (F38.ev 33 rfl) rfl rfl (fun _ => rfl) rfl) rfl fun _ F39 => ?_)
 refine l_op (f_call F39 CF_73 rfl rfl rfl rfl (lc (F39.ev 32 rfl) (lc (F39.ev 34 rfl) rfl)) (laws_eqAnswerS_c (a := a.answers) (b := b.answers) (Rd.mv (Nat.succ_pos _) Q28 (S1.trans (T6.trans S33))) (Rd.mv (Nat.succ_pos _) Q33 (S1.trans (T6.trans S33))) (by rw [p0])) ?_)
 rintro _ w40 ⟨rfl, m40⟩
 refine ⟨_, rfl, fun _ F41 => ?_⟩
 have S40 := At.frame0 S33.at' m40
 clear m40
 refine l_op (f_val F41 rfl rfl (r_not rfl (F41.ev 35 rfl)) rfl fun _ F42 => ?_)
 have F43 : Fr 54 [(36, .bool false), (3, .pointer (some ⟨b3, 0, none⟩)), (2, .pointer (some ⟨b1, 0, none⟩))] _ := F42.cut rfl
 clear F28 F29 F30 F31 F32 F34 F35 F36 F37 F38 F39 F41 F42
 have T44 : Mv _ _ [bx b3 [.int .i64 b.id, .int .i64 b.age, .int .i64 b.proc, .int .i64 b.began, .slice Q12 Q14 Q13, .slice Q9 Q11 Q10, .slice b_Ra b_Rn b_Rc, .slice b_Wa b_Wn b_Wc, .slice Q15 Q17 Q16, .int .i64 b.state] 58, bx b1 [.int .i64 a.id, .int .i64 a.age, .int .i64 a.proc, .int .i64 a.began, .slice Q3 Q5 Q4, .slice Q0 Q2 Q1, .slice a_Ra a_Rn a_Rc, .slice a_Wa a_Wn a_Wc, .slice Q6 Q8 Q7, .int .i64 a.state] 58] _ := S40
 refine s_end (x_normal (wp_cond_false (F43.ev 36 rfl) (wp_skip (x_normal (wp_seq (wp_seq (wp_region_lit (l_op (f_val F43 rfl rfl (r_field FI_58_6 rfl (F43.ev 2 rfl) rfl) rfl fun _ F45 => ?_)))))))))
 refine l_op (f_val (v := .agg #[.slice a_Ra a_Rn a_Rc, .slice a_Wa a_Wn a_Wc]) F45 rfl rfl (r_loadB T44.at' 1 TI_55 rfl rfl (F45.ev 37 rfl) rfl rfl (fun h => nomatch h) rfl) rfl fun _ F46 => ?_)
 refine l_op (f_val F46 rfl rfl (r_field FI_58_6 rfl (F46.ev 3 rfl) rfl) rfl fun _ F47 => ?_)
 refine l_op (f_val (v := .agg #[.slice b_Ra b_Rn b_Rc, .slice b_Wa b_Wn b_Wc]) F47 rfl rfl (r_loadB T44.at' 0 TI_55 rfl rfl (F47.ev 39 rfl) rfl rfl (fun h => nomatch h) rfl) rfl fun _ F48 => ?_)
 refine l_op (f_call F48 CF_74 rfl rfl rfl rfl (lc (F48.ev 38 rfl) (lc (F48.ev 40 rfl) rfl)) (laws_eqTouch_c (a := a.touch) (b := b.touch) (Rd.mv (Nat.succ_pos _) Q31 (S1.trans (T6.trans (S33.trans T44)))) (Rd.mv (Nat.succ_pos _) Q32 (S1.trans (T6.trans (S33.trans T44)))) (Rd.mv (Nat.succ_pos _) Q36 (S1.trans (T6.trans (S33.trans T44)))) (Rd.mv (Nat.succ_pos _) Q37 (S1.trans (T6.trans (S33.trans T44)))) (by rw [p0])) ?_)
 rintro _ w49 ⟨rfl, m49⟩
 refine ⟨_, rfl, fun _ F50 => ?_⟩
 have S49 := At.frame0 T44.at' m49
 clear m49
 refine l_op (f_val F50 rfl rfl (r_not rfl (F50.ev 41 rfl)) rfl fun _ F51 => ?_)
 refine s_end (x_normal (wp_cond_false (F51.ev 42 rfl) (wp_skip (x_normal (wp_seq (wp_seq (wp_region_lit (l_op (f_val F51 rfl rfl (r_field FI_58_7 rfl (F51.ev 2 rfl) rfl) rfl fun _ F52 => ?_)))))))))
 refine l_op (f_val (v := .slice Q6 Q8 Q7) F52 rfl rfl (r_loadB S49.at' 1 TI_56 rfl rfl (F52.ev 43 rfl) rfl rfl (fun _ => rfl) rfl) rfl fun _ F53 => ?_)
 refine l_op (f_val F53 rfl rfl (r_field FI_58_7 rfl (F53.ev 3 rfl) rfl) rfl fun _ F54 => ?_)
 refine l_op (f_val (v := .slice Q15 Q17 Q16) F54 rfl rfl (r_loadB S49.at' 0 TI_56 rfl rfl (F54.ev 45 rfl) rfl rfl (fun _ => rfl) rfl) rfl fun _ F55 => ?_)
 refine l_op (f_call F55 CF_75 rfl rfl rfl rfl (lc (F55.ev 44 rfl) (lc (F55.ev 46 rfl) rfl)) (laws_eqIntS_c (a := a.marks) (b := b.marks) (Rd.mv (Nat.succ_pos _) Q30 (S1.trans (T6.trans (S33.trans (T44.trans S49))))) (Rd.mv (Nat.succ_pos _) Q35 (S1.trans (T6.trans (S33.trans (T44.trans S49))))) (by rw [p0])) ?_)
 rintro _ w56 ⟨rfl, m56⟩
 refine ⟨_, rfl, fun _ F57 => ?_⟩
 have S56 := At.frame0 S49.at' m56
 clear m56
 refine l_op (f_val F57 rfl rfl (r_not rfl (F57.ev 47 rfl)) rfl fun _ F58 => ?_)
 have F59 : Fr 54 [(48, .bool false), (3, .pointer (some ⟨b3, 0, none⟩)), (2, .pointer (some ⟨b1, 0, none⟩))] _ := F58.cut rfl
 clear F43 F45 F46 F47 F48 F50 F51 F52 F53 F54 F55 F57 F58
 have T60 : Mv _ _ [bx b3 [.int .i64 b.id, .int .i64 b.age, .int .i64 b.proc, .int .i64 b.began, .slice Q12 Q14 Q13, .slice Q9 Q11 Q10, .slice b_Ra b_Rn b_Rc, .slice b_Wa b_Wn b_Wc, .slice Q15 Q17 Q16, .int .i64 b.state] 58, bx b1 [.int .i64 a.id, .int .i64 a.age, .int .i64 a.proc, .int .i64 a.began, .slice Q3 Q5 Q4, .slice Q0 Q2 Q1, .slice a_Ra a_Rn a_Rc, .slice a_Wa a_Wn a_Wc, .slice Q6 Q8 Q7, .int .i64 a.state] 58] _ := S56
 refine s_end (x_normal (wp_cond_false (F59.ev 48 rfl) (wp_skip (x_normal (wp_seq (wp_seq (wp_region_lit (l_op (f_val F59 rfl rfl (r_field FI_58_8 rfl (F59.ev 2 rfl) rfl) rfl fun _ F61 => ?_)))))))))
 refine l_op (f_val (v := .int .i64 a.state) F61 rfl rfl (r_loadB T60.at' 1 TI_3 rfl rfl (F61.ev 49 rfl) rfl rfl (fun _ => rfl) rfl) rfl fun _ F62 => ?_)
 refine l_op (f_val F62 rfl rfl (r_field FI_58_8 rfl (F62.ev 3 rfl) rfl) rfl fun _ F63 => ?_)
 refine l_op (f_val (v := .int .i64 b.state) F63 rfl rfl (r_loadB T60.at' 0 TI_3 rfl rfl (F63.ev 51 rfl) rfl rfl (fun _ => rfl) rfl) rfl fun _ F64 => ?_)
 refine l_op (f_val F64 rfl rfl (r_cmp (b := decide (a.state ≠ b.state)) (.inr (.inl rfl)) rfl (F64.ev 50 rfl) (F64.ev 52 rfl) (dec_of (by omega))) rfl fun _ F65 => ?_)
 rw [show (decide (a.state ≠ b.state)) = false from decide_eq_false (fun h => h (by rw [p0]))] at F65
 refine s_end (x_normal (wp_cond_false (F65.ev 53 rfl) (wp_skip (x_normal (wp_seq (wp_region_lit (l_op (f_val F65 rfl rfl (r_assign rfl rfl) rfl fun _ F66 => ?_))))))))
 refine s_end (x_normal (wp_ret ?_))
 refine x_done (v := .bool true) F66 (results_1 Tryz.results54 (.tmp (F66.ev 4 rfl))) ?_
 exact ⟨rfl, (Mv.pick (S1.trans (T6.trans (S33.trans (T44.trans (S49.trans T60))))) [] rfl)⟩
end Go.Proofs.YtgfilegkabbliaaGreat
