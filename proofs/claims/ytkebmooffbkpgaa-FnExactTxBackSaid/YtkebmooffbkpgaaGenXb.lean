/-
  Walks: transactions in the laws' hands.
-/
import Derived.Test.YtkebmooffbkpgaaGenXa
namespace Go.Proofs.Ytkebmooffbkpgaa
open Go.ChangeShapes Go.WideShapes Go.ChangeAt Go.RowKit
set_option maxRecDepth 100000
set_option maxHeartbeats 1000000
theorem laws_szTx_c {w : World} {H : Nat → Prop} {a : TxD} {Q3 : Option Addr} {Q5 Q4 : Nat} {Q0 : Option Addr} {Q2 Q1 : Nat} {a_Ra : Option Addr} {a_Rn a_Rc : Nat} {a_Wa : Option Addr} {a_Wn a_Wc : Nat} {Q6 : Option Addr} {Q8 Q7 : Nat} {left : Int} (Q21 : i64ok a.id) (Q19 : i64ok a.age) (Q22 : i64ok a.proc) (Q20 : i64ok a.began) (Q10 : RdA 6 encK okK H w (.slice Q3 Q5 Q4) a.calls) (Q9 : RdA 3 encR okR H w (.slice Q0 Q2 Q1) a.answers) (Q12 : RdA 1 encS okS H w (.slice a_Ra a_Rn a_Rc) a.touch.reads) (Q13 : RdA 1 encS okS H w (.slice a_Wa a_Wn a_Wc) a.touch.writes) (Q11 : RdA 1 encI okI H w (.slice Q6 Q8 Q7) a.marks) (Q23 : i64ok a.state) (Q24 : i64ok left) (p0 : 0 ≤ left) (p1 : left ≤ 1048576) :
    Calls Try.prog 4 #[.agg #[.int .i64 a.id, .int .i64 a.age, .int .i64 a.proc, .int .i64 a.began, .slice Q3 Q5 Q4, .slice Q0 Q2 Q1, .slice a_Ra a_Rn a_Rc, .slice a_Wa a_Wn a_Wc, .slice Q6 Q8 Q7, .int .i64 a.state], .int .i64 left] w fun e w' => e = .returned (.int .i64 (subOr left (szTxD a))) ∧ Mv [] w [] w' ∧ i64ok (subOr left (szTxD a)) := by
 have uU : True := (fun _ _ _ _ _ => trivial) Q21 Q19 Q22 Q20 Q23
 clear uU
 have Q15 : RdA 6 encK okK (V H w []) w (.slice Q3 Q5 Q4) a.calls := RdA.start Q10 (fun _ _ => fps_nil _)
 obtain ⟨Q31, Q26, Q36, Q41⟩ := RdA.inv Q10
 have Q14 : RdA 3 encR okR (V H w []) w (.slice Q0 Q2 Q1) a.answers := RdA.start Q9 (fun _ _ => fps_nil _)
 obtain ⟨Q30, Q25, Q35, Q40⟩ := RdA.inv Q9
 have Q17 : RdA 1 encS okS (V H w []) w (.slice a_Ra a_Rn a_Rc) a.touch.reads := RdA.start Q12 (fun _ _ => fps_nil _)
 obtain ⟨Q33, Q28, Q38, Q43⟩ := RdA.inv Q12
 have Q18 : RdA 1 encS okS (V H w []) w (.slice a_Wa a_Wn a_Wc) a.touch.writes := RdA.start Q13 (fun _ _ => fps_nil _)
 obtain ⟨Q34, Q29, Q39, Q44⟩ := RdA.inv Q13
 have Q16 : RdA 1 encI okI (V H w []) w (.slice Q6 Q8 Q7) a.marks := RdA.start Q11 (fun _ _ => fps_nil _)
 obtain ⟨Q32, Q27, Q37, Q42⟩ := RdA.inv Q11
 refine calls_enter 30 Try.func4 rfl Try.ntmps4 (Nat.le_of_ble_eq_true rfl) (fun _ F0i => ?_)
 have F0 : Fr 30 [(0, .agg #[.int .i64 a.id, .int .i64 a.age, .int .i64 a.proc, .int .i64 a.began, .slice Q3 Q5 Q4, .slice Q0 Q2 Q1, .slice a_Ra a_Rn a_Rc, .slice a_Wa a_Wn a_Wc, .slice Q6 Q8 Q7, .int .i64 a.state]), (1, .int .i64 left)] _ := F0i
 clear F0i
 refine wp_seq (wp_region_lit (l_op (f_box F0 (At.nil w) rfl rfl rfl (F0.ev 0 rfl) rfl rfl fun b1 _ w1 F2 S1 => ?_)))
 refine l_op (f_val F2 rfl rfl (r_assign rfl rfl) rfl fun _ F3 => ?_)
 have F4 : Fr 30 [(4, .int .i64 0), (2, .pointer (some ⟨b1, 0, none⟩)), (1, .int .i64 left)] _ := F3.cut rfl
 clear F0 F2 F3
 have T5 : Mv _ _ [bx b1 [.int .i64 a.id, .int .i64 a.age, .int .i64 a.proc, .int .i64 a.began, .slice Q3 Q5 Q4, .slice Q0 Q2 Q1, .slice a_Ra a_Rn a_Rc, .slice a_Wa a_Wn a_Wc, .slice Q6 Q8 Q7, .int .i64 a.state] 29] _ := S1
 refine s_end (x_normal (wp_seq (wp_region_lit (l_op (f_val F4 rfl rfl (r_field FI_29_4 rfl (F4.ev 2 rfl) rfl) rfl fun _ F6 => ?_)))))
 refine l_op (f_val (v := .slice Q3 Q5 Q4) F6 rfl rfl (r_loadB T5.at' 0 TI_22 rfl rfl (F6.ev 5 rfl) rfl rfl (fun _ => rfl) rfl) rfl fun _ F7 => ?_)
 refine l_op (f_mv F7 rfl rfl rfl rfl rfl fun _ F8 => ?_)
 refine l_op (f_call F8 CF_11 rfl rfl rfl rfl (lc (F8.ev 6 rfl) (lc (F8.ev 7 rfl) rfl)) (laws_szCallS_c (a := a.calls) (left := left) (RdA.mv (Nat.succ_pos _) Q15 T5) Q24 (by first | assumption | omega | (simp <;> omega)) (by first | assumption | omega | (simp <;> omega))) ?_)
 rintro _ w9 ⟨rfl, m9, q9_0⟩
 refine ⟨_, rfl, fun _ F10 => ?_⟩
 have S9 := At.frame0 T5.at' m9
 clear m9
 refine l_op (f_as F10 rfl rfl rfl rfl rfl fun _ F11 => ?_)
 have F12 : Fr 30 [(1, .int .i64 (subOr left (szCalls a.calls))), (2, .pointer (some ⟨b1, 0, none⟩))] _ := F11.cut rfl
 clear F4 F6 F7 F8 F10 F11
 have T13 : Mv _ _ [bx b1 [.int .i64 a.id, .int .i64 a.age, .int .i64 a.proc, .int .i64 a.began, .slice Q3 Q5 Q4, .slice Q0 Q2 Q1, .slice a_Ra a_Rn a_Rc, .slice a_Wa a_Wn a_Wc, .slice Q6 Q8 Q7, .int .i64 a.state] 29] _ := S9
 refine s_end (x_normal (wp_seq (wp_seq (wp_region_lit (l_op (f_mv F12 rfl rfl rfl rfl rfl fun _ F14 => ?_))))))
 refine l_op (f_val F14 rfl rfl (r_cmp (b := decide ((subOr left (szCalls a.calls)) < 0)) (.inr (.inr (.inl rfl))) rfl (F14.ev 9 rfl) rfl (dec_of (by omega))) rfl fun _ F15 => ?_)
 have F16 : Fr 30 [(10, .bool (decide ((subOr left (szCalls a.calls)) < 0))), (1, .int .i64 (subOr left (szCalls a.calls))), (2, .pointer (some ⟨b1, 0, none⟩))] _ := F15.cut rfl
 clear F12 F14 F15
 refine s_end (x_normal (x_cond (p := (subOr left (szCalls a.calls)) < 0) (F16.ev 10 rfl) (fun h17 => ?_) (fun h17 => ?_)))
 · skip
   refine wp_seq (wp_region_lit (l_op (f_val F16 rfl rfl (r_assign rfl rfl) rfl fun _ F18 => ?_)))
   have F19 : Fr 30 [(4, .int .i64 (-1))] _ := F18.cut rfl
   clear F16 F18
   refine s_end (x_normal (wp_ret (x_then_ret ?_)))
   refine x_done (v := .int .i64 (-1)) F19 (results_1 Try.results4 (.tmp (F19.ev 4 rfl))) ?_
   exact ⟨(by rw [(show (-1) = (subOr left (szTxD a)) from by unfold szTxD; first | exact sz4_a (by assumption) | exact sz4_b (by assumption) (by assumption) | exact sz4_c (by assumption) (by assumption) (by assumption) | exact sz4_d (by assumption) (by assumption) (by assumption) | (rw [← sz4_d (by assumption) (by assumption) (by assumption)]; exact subOr_neg1 (by assumption)))]), (Mv.pick (T5.trans T13) [] rfl), subOr_i64 p0 p1⟩
 · skip
   refine wp_skip (x_normal (wp_seq (wp_region_lit (l_op (f_val F16 rfl rfl (r_field FI_29_5 rfl (F16.ev 2 rfl) rfl) rfl fun _ F20 => ?_)))))
   refine l_op (f_val (v := .slice Q0 Q2 Q1) F20 rfl rfl (r_loadB T13.at' 0 TI_23 rfl rfl (F20.ev 11 rfl) rfl rfl (fun _ => rfl) rfl) rfl fun _ F21 => ?_)
   refine l_op (f_mv F21 rfl rfl rfl rfl rfl fun _ F22 => ?_)
   refine l_op (f_call F22 CF_12 rfl rfl rfl rfl (lc (F22.ev 12 rfl) (lc (F22.ev 13 rfl) rfl)) (laws_szAnswerS_c (a := a.answers) (left := (subOr left (szCalls a.calls))) (RdA.mv (Nat.succ_pos _) Q14 (T5.trans T13)) (by first | assumption | exact ⟨by omega, by omega⟩ | (unfold i64ok at *; omega)) (by first | assumption | omega | (simp <;> omega)) (by have q1 := subOr_bd left (szCalls a.calls) p0; omega)) ?_)
   rintro _ w23 ⟨rfl, m23, q23_0⟩
   refine ⟨_, rfl, fun _ F24 => ?_⟩
   have S23 := At.frame0 T13.at' m23
   clear m23
   refine l_op (f_as F24 rfl rfl rfl rfl rfl fun _ F25 => ?_)
   have F26 : Fr 30 [(1, .int .i64 (subOr (subOr left (szCalls a.calls)) (szAnss a.answers))), (2, .pointer (some ⟨b1, 0, none⟩))] _ := F25.cut rfl
   clear F16 F20 F21 F22 F24 F25
   have T27 : Mv _ _ [bx b1 [.int .i64 a.id, .int .i64 a.age, .int .i64 a.proc, .int .i64 a.began, .slice Q3 Q5 Q4, .slice Q0 Q2 Q1, .slice a_Ra a_Rn a_Rc, .slice a_Wa a_Wn a_Wc, .slice Q6 Q8 Q7, .int .i64 a.state] 29] _ := S23
   refine s_end (x_normal (wp_seq (wp_seq (wp_region_lit (l_op (f_mv F26 rfl rfl rfl rfl rfl fun _ F28 => ?_))))))
   refine l_op (f_val F28 rfl rfl (r_cmp (b := decide ((subOr (subOr left (szCalls a.calls)) (szAnss a.answers)) < 0)) (.inr (.inr (.inl rfl))) rfl (F28.ev 15 rfl) rfl (dec_of (by omega))) rfl fun _ F29 => ?_)
   have F30 : Fr 30 [(16, .bool (decide ((subOr (subOr left (szCalls a.calls)) (szAnss a.answers)) < 0))), (1, .int .i64 (subOr (subOr left (szCalls a.calls)) (szAnss a.answers))), (2, .pointer (some ⟨b1, 0, none⟩))] _ := F29.cut rfl
   clear F26 F28 F29
   refine s_end (x_normal (x_cond (p := (subOr (subOr left (szCalls a.calls)) (szAnss a.answers)) < 0) (F30.ev 16 rfl) (fun h31 => ?_) (fun h31 => ?_)))
   · skip
     refine wp_seq (wp_region_lit (l_op (f_val F30 rfl rfl (r_assign rfl rfl) rfl fun _ F32 => ?_)))
     have F33 : Fr 30 [(4, .int .i64 (-1))] _ := F32.cut rfl
     clear F30 F32
     refine s_end (x_normal (wp_ret (x_then_ret ?_)))
     refine x_done (v := .int .i64 (-1)) F33 (results_1 Try.results4 (.tmp (F33.ev 4 rfl))) ?_
     exact ⟨(by rw [(show (-1) = (subOr left (szTxD a)) from by unfold szTxD; first | exact sz4_a (by assumption) | exact sz4_b (by assumption) (by assumption) | exact sz4_c (by assumption) (by assumption) (by assumption) | exact sz4_d (by assumption) (by assumption) (by assumption) | (rw [← sz4_d (by assumption) (by assumption) (by assumption)]; exact subOr_neg1 (by assumption)))]), (Mv.pick (T5.trans (T13.trans T27)) [] rfl), subOr_i64 p0 p1⟩
   · skip
     refine wp_skip (x_normal (wp_seq (wp_region_lit (l_op (f_val F30 rfl rfl (r_field FI_29_6 rfl (F30.ev 2 rfl) rfl) rfl fun _ F34 => ?_)))))
     refine l_op (f_val (v := .agg #[.slice a_Ra a_Rn a_Rc, .slice a_Wa a_Wn a_Wc]) F34 rfl rfl (r_loadB T27.at' 0 TI_26 rfl rfl (F34.ev 17 rfl) rfl rfl (fun h => nomatch h) rfl) rfl fun _ F35 => ?_)
     refine l_op (f_mv F35 rfl rfl rfl rfl rfl fun _ F36 => ?_)
     refine l_op (f_call F36 CF_13 rfl rfl rfl rfl (lc (F36.ev 18 rfl) (lc (F36.ev 19 rfl) rfl)) (laws_szTouch_c (a := a.touch) (left := (subOr (subOr left (szCalls a.calls)) (szAnss a.answers))) (RdA.mv (Nat.succ_pos _) Q17 (T5.trans (T13.trans T27))) (RdA.mv (Nat.succ_pos _) Q18 (T5.trans (T13.trans T27))) (by first | assumption | exact ⟨by omega, by omega⟩ | (unfold i64ok at *; omega)) (by first | assumption | omega | (simp <;> omega)) (by have q1 := subOr_bd left (szCalls a.calls) p0; have q2 := subOr_bd (subOr left (szCalls a.calls)) (szAnss a.answers) (by omega); omega)) ?_)
     rintro _ w37 ⟨rfl, m37, q37_0⟩
     refine ⟨_, rfl, fun _ F38 => ?_⟩
     have S37 := At.frame0 T27.at' m37
     clear m37
     refine l_op (f_as F38 rfl rfl rfl rfl rfl fun _ F39 => ?_)
     have F40 : Fr 30 [(1, .int .i64 (subOr (subOr (subOr left (szCalls a.calls)) (szAnss a.answers)) (szTouchD a.touch))), (2, .pointer (some ⟨b1, 0, none⟩))] _ := F39.cut rfl
     clear F30 F34 F35 F36 F38 F39
     have T41 : Mv _ _ [bx b1 [.int .i64 a.id, .int .i64 a.age, .int .i64 a.proc, .int .i64 a.began, .slice Q3 Q5 Q4, .slice Q0 Q2 Q1, .slice a_Ra a_Rn a_Rc, .slice a_Wa a_Wn a_Wc, .slice Q6 Q8 Q7, .int .i64 a.state] 29] _ := S37
     refine s_end (x_normal (wp_seq (wp_seq (wp_region_lit (l_op (f_mv F40 rfl rfl rfl rfl rfl fun _ F42 => ?_))))))
     refine l_op (f_val F42 rfl rfl (r_cmp (b := decide ((subOr (subOr (subOr left (szCalls a.calls)) (szAnss a.answers)) (szTouchD a.touch)) < 0)) (.inr (.inr (.inl rfl))) rfl (F42.ev 21 rfl) rfl (dec_of (by omega))) rfl fun _ F43 => ?_)
     have F44 : Fr 30 [(22, .bool (decide ((subOr (subOr (subOr left (szCalls a.calls)) (szAnss a.answers)) (szTouchD a.touch)) < 0))), (1, .int .i64 (subOr (subOr (subOr left (szCalls a.calls)) (szAnss a.answers)) (szTouchD a.touch))), (2, .pointer (some ⟨b1, 0, none⟩))] _ := F43.cut rfl
     clear F40 F42 F43
     refine s_end (x_normal (x_cond (p := (subOr (subOr (subOr left (szCalls a.calls)) (szAnss a.answers)) (szTouchD a.touch)) < 0) (F44.ev 22 rfl) (fun h45 => ?_) (fun h45 => ?_)))
     · skip
       refine wp_seq (wp_region_lit (l_op (f_val F44 rfl rfl (r_assign rfl rfl) rfl fun _ F46 => ?_)))
       have F47 : Fr 30 [(4, .int .i64 (-1))] _ := F46.cut rfl
       clear F44 F46
       refine s_end (x_normal (wp_ret (x_then_ret ?_)))
       refine x_done (v := .int .i64 (-1)) F47 (results_1 Try.results4 (.tmp (F47.ev 4 rfl))) ?_
       exact ⟨(by rw [(show (-1) = (subOr left (szTxD a)) from by unfold szTxD; first | exact sz4_a (by assumption) | exact sz4_b (by assumption) (by assumption) | exact sz4_c (by assumption) (by assumption) (by assumption) | exact sz4_d (by assumption) (by assumption) (by assumption) | (rw [← sz4_d (by assumption) (by assumption) (by assumption)]; exact subOr_neg1 (by assumption)))]), (Mv.pick (T5.trans (T13.trans (T27.trans T41))) [] rfl), subOr_i64 p0 p1⟩
     · skip
       refine wp_skip (x_normal (wp_seq (wp_region_lit (l_op (f_val F44 rfl rfl (r_field FI_29_7 rfl (F44.ev 2 rfl) rfl) rfl fun _ F48 => ?_)))))
       refine l_op (f_val (v := .slice Q6 Q8 Q7) F48 rfl rfl (r_loadB T41.at' 0 TI_27 rfl rfl (F48.ev 23 rfl) rfl rfl (fun _ => rfl) rfl) rfl fun _ F49 => ?_)
       refine l_op (f_mv F49 rfl rfl rfl rfl rfl fun _ F50 => ?_)
       refine l_op (f_call F50 CF_14 rfl rfl rfl rfl (lc (F50.ev 24 rfl) (lc (F50.ev 25 rfl) rfl)) (laws_szIntS_c (a := a.marks) (left := (subOr (subOr (subOr left (szCalls a.calls)) (szAnss a.answers)) (szTouchD a.touch))) (RdA.mv (Nat.succ_pos _) Q16 (T5.trans (T13.trans (T27.trans T41)))) (by first | assumption | exact ⟨by omega, by omega⟩ | (unfold i64ok at *; omega)) (by first | assumption | omega | (simp <;> omega)) (by have q1 := subOr_bd left (szCalls a.calls) p0; have q2 := subOr_bd (subOr left (szCalls a.calls)) (szAnss a.answers) (by omega); have q3 := subOr_bd (subOr (subOr left (szCalls a.calls)) (szAnss a.answers)) (szTouchD a.touch) (by omega); omega)) ?_)
       rintro _ w51 ⟨rfl, m51, q51_0⟩
       refine ⟨_, rfl, fun _ F52 => ?_⟩
       have S51 := At.frame0 T41.at' m51
       clear m51
       refine l_op (f_as F52 rfl rfl rfl rfl rfl fun _ F53 => ?_)
       have F54 : Fr 30 [(1, .int .i64 (subOr (subOr (subOr (subOr left (szCalls a.calls)) (szAnss a.answers)) (szTouchD a.touch)) a.marks.length))] _ := F53.cut rfl
       clear F44 F48 F49 F50 F52 F53
       have T55 : Mv _ _ [bx b1 [.int .i64 a.id, .int .i64 a.age, .int .i64 a.proc, .int .i64 a.began, .slice Q3 Q5 Q4, .slice Q0 Q2 Q1, .slice a_Ra a_Rn a_Rc, .slice a_Wa a_Wn a_Wc, .slice Q6 Q8 Q7, .int .i64 a.state] 29] _ := S51
       refine s_end (x_normal (wp_seq (wp_seq (wp_region_lit (l_op (f_mv F54 rfl rfl rfl rfl rfl fun _ F56 => ?_))))))
       refine l_op (f_val F56 rfl rfl (r_cmp (b := decide ((subOr (subOr (subOr (subOr left (szCalls a.calls)) (szAnss a.answers)) (szTouchD a.touch)) a.marks.length) < 0)) (.inr (.inr (.inl rfl))) rfl (F56.ev 27 rfl) rfl (dec_of (by omega))) rfl fun _ F57 => ?_)
       have F58 : Fr 30 [(28, .bool (decide ((subOr (subOr (subOr (subOr left (szCalls a.calls)) (szAnss a.answers)) (szTouchD a.touch)) a.marks.length) < 0))), (1, .int .i64 (subOr (subOr (subOr (subOr left (szCalls a.calls)) (szAnss a.answers)) (szTouchD a.touch)) a.marks.length))] _ := F57.cut rfl
       clear F54 F56 F57
       refine s_end (x_normal (x_cond (p := (subOr (subOr (subOr (subOr left (szCalls a.calls)) (szAnss a.answers)) (szTouchD a.touch)) a.marks.length) < 0) (F58.ev 28 rfl) (fun h59 => ?_) (fun h59 => ?_)))
       · skip
         refine wp_seq (wp_region_lit (l_op (f_val F58 rfl rfl (r_assign rfl rfl) rfl fun _ F60 => ?_)))
         have F61 : Fr 30 [(4, .int .i64 (-1))] _ := F60.cut rfl
         clear F58 F60
         refine s_end (x_normal (wp_ret (x_then_ret ?_)))
         refine x_done (v := .int .i64 (-1)) F61 (results_1 Try.results4 (.tmp (F61.ev 4 rfl))) ?_
         exact ⟨(by rw [(show (-1) = (subOr left (szTxD a)) from by unfold szTxD; first | exact sz4_a (by assumption) | exact sz4_b (by assumption) (by assumption) | exact sz4_c (by assumption) (by assumption) (by assumption) | exact sz4_d (by assumption) (by assumption) (by assumption) | (rw [← sz4_d (by assumption) (by assumption) (by assumption)]; exact subOr_neg1 (by assumption)))]), (Mv.pick (T5.trans (T13.trans (T27.trans (T41.trans T55)))) [] rfl), subOr_i64 p0 p1⟩
       · skip
         refine wp_skip (x_normal (wp_seq (wp_region_lit (l_op (f_mv F58 rfl rfl rfl rfl rfl fun _ F62 => ?_)))))
         refine l_op (f_as F62 rfl rfl rfl rfl rfl fun _ F63 => ?_)
         have F64 : Fr 30 [(4, .int .i64 (subOr (subOr (subOr (subOr left (szCalls a.calls)) (szAnss a.answers)) (szTouchD a.touch)) a.marks.length))] _ := F63.cut rfl
         clear F58 F62 F63
         refine s_end (x_normal (wp_ret ?_))
         refine x_done (v := .int .i64 (subOr (subOr (subOr (subOr left (szCalls a.calls)) (szAnss a.answers)) (szTouchD a.touch)) a.marks.length)) F64 (results_1 Try.results4 (.tmp (F64.ev 4 rfl))) ?_
         exact ⟨(by rw [(show (subOr (subOr (subOr (subOr left (szCalls a.calls)) (szAnss a.answers)) (szTouchD a.touch)) a.marks.length) = (subOr left (szTxD a)) from by unfold szTxD; first | exact sz4_a (by assumption) | exact sz4_b (by assumption) (by assumption) | exact sz4_c (by assumption) (by assumption) (by assumption) | exact sz4_d (by assumption) (by assumption) (by assumption) | (rw [← sz4_d (by assumption) (by assumption) (by assumption)]; exact subOr_neg1 (by assumption)))]), (Mv.pick (T5.trans (T13.trans (T27.trans (T41.trans T55)))) [] rfl), subOr_i64 p0 p1⟩
theorem laws_toTx_c {w : World} {H : Nat → Prop} {a : TxD} {Q9 : Option Addr} {Q11 Q10 : Nat} {Q6 : Option Addr} {Q8 Q7 : Nat} {a_Ra : Option Addr} {a_Rn a_Rc : Nat} {a_Wa : Option Addr} {a_Wn a_Wc : Nat} {Q12 : Option Addr} {Q14 Q13 : Nat} (Q51 : i64ok a.id) (Q49 : i64ok a.age) (Q52 : i64ok a.proc) (Q50 : i64ok a.began) (Q40 : RdA 6 encK okK H w (.slice Q9 Q11 Q10) a.calls) (Q39 : RdA 3 encR okR H w (.slice Q6 Q8 Q7) a.answers) (Q42 : RdA 1 encS okS H w (.slice a_Ra a_Rn a_Rc) a.touch.reads) (Q43 : RdA 1 encS okS H w (.slice a_Wa a_Wn a_Wc) a.touch.writes) (Q41 : RdA 1 encI okI H w (.slice Q12 Q14 Q13) a.marks) (Q53 : i64ok a.state) (p0 : a.calls.length ≤ 1048576) (p1 : a.answers.length ≤ 1048576) (p2 : a.touch.reads.length ≤ 1048576) (p3 : a.touch.writes.length ≤ 1048576) (p4 : a.marks.length ≤ 1048576) :
    Calls Try.prog 6 #[.agg #[.int .i64 a.id, .int .i64 a.age, .int .i64 a.proc, .int .i64 a.began, .slice Q9 Q11 Q10, .slice Q6 Q8 Q7, .slice a_Ra a_Rn a_Rc, .slice a_Wa a_Wn a_Wc, .slice Q12 Q14 Q13, .int .i64 a.state]] w fun e w' => ∃ (Q33 : Option Addr), ∃ (Q35 : Nat), ∃ (Q34 : Nat), ∃ (Q30 : Option Addr), ∃ (Q32 : Nat), ∃ (Q31 : Nat), ∃ (Q24 : Option Addr), ∃ (Q26 : Nat), ∃ (Q25 : Nat), ∃ (Q27 : Option Addr), ∃ (Q29 : Nat), ∃ (Q28 : Nat), ∃ (Q36 : Option Addr), ∃ (Q38 : Nat), ∃ (Q37 : Nat), e = .returned (.agg #[.int .i64 a.id, .int .i64 a.age, .int .i64 a.proc, .int .i64 a.began, .slice Q33 Q35 Q34, .slice Q30 Q32 Q31, .slice Q24 Q26 Q25, .slice Q27 Q29 Q28, .slice Q36 Q38 Q37, .int .i64 a.state]) ∧ Mv [] w [ow 56 6 encK okK (.slice Q33 Q35 Q34) a.calls, ow 59 3 encR okR (.slice Q30 Q32 Q31) a.answers, ow 9 1 encS okS (.slice Q24 Q26 Q25) a.touch.reads, ow 9 1 encS okS (.slice Q27 Q29 Q28) a.touch.writes, ow 3 1 encI okI (.slice Q36 Q38 Q37) a.marks] w' := by
 have uU : True := (fun _ _ _ _ _ _ _ _ _ _ => trivial) Q51 Q49 Q52 Q50 Q53 p0 p1 p2 p3 p4
 clear uU
 have Q45 : RdA 6 encK okK (V H w []) w (.slice Q9 Q11 Q10) a.calls := RdA.start Q40 (fun _ _ => fps_nil _)
 obtain ⟨Q60, Q55, Q80, Q85⟩ := RdA.inv Q40
 have Q44 : RdA 3 encR okR (V H w []) w (.slice Q6 Q8 Q7) a.answers := RdA.start Q39 (fun _ _ => fps_nil _)
 obtain ⟨Q59, Q54, Q79, Q84⟩ := RdA.inv Q39
 have Q47 : RdA 1 encS okS (V H w []) w (.slice a_Ra a_Rn a_Rc) a.touch.reads := RdA.start Q42 (fun _ _ => fps_nil _)
 obtain ⟨Q62, Q57, Q82, Q87⟩ := RdA.inv Q42
 have Q48 : RdA 1 encS okS (V H w []) w (.slice a_Wa a_Wn a_Wc) a.touch.writes := RdA.start Q43 (fun _ _ => fps_nil _)
 obtain ⟨Q63, Q58, Q83, Q88⟩ := RdA.inv Q43
 have Q46 : RdA 1 encI okI (V H w []) w (.slice Q12 Q14 Q13) a.marks := RdA.start Q41 (fun _ _ => fps_nil _)
 obtain ⟨Q61, Q56, Q81, Q86⟩ := RdA.inv Q41
 refine calls_enter 36 Try.func6 rfl Try.ntmps6 (Nat.le_of_ble_eq_true rfl) (fun _ F0i => ?_)
 have F0 : Fr 36 [(0, .agg #[.int .i64 a.id, .int .i64 a.age, .int .i64 a.proc, .int .i64 a.began, .slice Q9 Q11 Q10, .slice Q6 Q8 Q7, .slice a_Ra a_Rn a_Rc, .slice a_Wa a_Wn a_Wc, .slice Q12 Q14 Q13, .int .i64 a.state])] _ := F0i
 clear F0i
 refine wp_seq (wp_region_lit (l_op (f_box F0 (At.nil w) rfl rfl rfl (F0.ev 0 rfl) rfl rfl fun b1 _ w1 F2 S1 => ?_)))
 refine l_op (f_alloc F2 S1.at' ZI_35 rfl rfl rfl rfl rfl fun b3 _ w3 F4 S3 => ?_)
 have F5 : Fr 36 [(2, .pointer (some ⟨b3, 0, none⟩)), (1, .pointer (some ⟨b1, 0, none⟩))] _ := F4.cut rfl
 clear F0 F2 F4
 have T6 : Mv _ _ [bx b3 [.int .i64 0, .int .i64 0, .int .i64 0, .int .i64 0, .slice none 0 0, .slice none 0 0, .slice none 0 0, .slice none 0 0, .slice none 0 0, .int .i64 0] 35, bx b1 [.int .i64 a.id, .int .i64 a.age, .int .i64 a.proc, .int .i64 a.began, .slice Q9 Q11 Q10, .slice Q6 Q8 Q7, .slice a_Ra a_Rn a_Rc, .slice a_Wa a_Wn a_Wc, .slice Q12 Q14 Q13, .int .i64 a.state] 29] _ := S3
 refine s_end (x_normal (wp_seq (wp_region_lit (l_op (f_alloc F5 T6.at' ZI_35 rfl rfl rfl rfl rfl fun b7 _ w7 F8 S7 => ?_)))))
 have F9 : Fr 36 [(3, .pointer (some ⟨b7, 0, none⟩)), (2, .pointer (some ⟨b3, 0, none⟩)), (1, .pointer (some ⟨b1, 0, none⟩))] _ := F8.cut rfl
 clear F5 F8
 have T10 : Mv _ _ [bx b7 [.int .i64 0, .int .i64 0, .int .i64 0, .int .i64 0, .slice none 0 0, .slice none 0 0, .slice none 0 0, .slice none 0 0, .slice none 0 0, .int .i64 0] 35, bx b3 [.int .i64 0, .int .i64 0, .int .i64 0, .int .i64 0, .slice none 0 0, .slice none 0 0, .slice none 0 0, .slice none 0 0, .slice none 0 0, .int .i64 0] 35, bx b1 [.int .i64 a.id, .int .i64 a.age, .int .i64 a.proc, .int .i64 a.began, .slice Q9 Q11 Q10, .slice Q6 Q8 Q7, .slice a_Ra a_Rn a_Rc, .slice a_Wa a_Wn a_Wc, .slice Q12 Q14 Q13, .int .i64 a.state] 29] _ := S7
 refine s_end (x_normal (wp_seq (wp_region_lit (l_op (f_val F9 rfl rfl (r_field FI_29_0 rfl (F9.ev 1 rfl) rfl) rfl fun _ F11 => ?_)))))
 refine l_op (f_val (v := .int .i64 a.id) F11 rfl rfl (r_loadB T10.at' 2 TI_3 rfl rfl (F11.ev 4 rfl) rfl rfl (fun _ => rfl) rfl) rfl fun _ F12 => ?_)
 refine l_op (f_val F12 rfl rfl (r_field FI_35_0 rfl (F12.ev 3 rfl) rfl) rfl fun _ F13 => ?_)
 refine l_op (s_store T10.at' 0 TI_3 rfl rfl rfl rfl rfl (F13.ev 6 rfl) (F13.ev 5 rfl) rfl rfl rfl rfl rfl fun w14 S14 => ?_)
 have F15 : Fr 36 [(6, .pointer (some ⟨b7, 0, none⟩)), (5, .int .i64 a.id), (3, .pointer (some ⟨b7, 0, none⟩)), (2, .pointer (some ⟨b3, 0, none⟩)), (1, .pointer (some ⟨b1, 0, none⟩))] _ := F13.cut rfl
 clear F9 F11 F12 F13
 have T16 : Mv _ _ [bx b7 [.int .i64 a.id, .int .i64 0, .int .i64 0, .int .i64 0, .slice none 0 0, .slice none 0 0, .slice none 0 0, .slice none 0 0, .slice none 0 0, .int .i64 0] 35, bx b3 [.int .i64 0, .int .i64 0, .int .i64 0, .int .i64 0, .slice none 0 0, .slice none 0 0, .slice none 0 0, .slice none 0 0, .slice none 0 0, .int .i64 0] 35, bx b1 [.int .i64 a.id, .int .i64 a.age, .int .i64 a.proc, .int .i64 a.began, .slice Q9 Q11 Q10, .slice Q6 Q8 Q7, .slice a_Ra a_Rn a_Rc, .slice a_Wa a_Wn a_Wc, .slice Q12 Q14 Q13, .int .i64 a.state] 29] _ := S14
 refine s_end (x_normal (wp_seq (wp_region_lit (l_op (f_val F15 rfl rfl (r_field FI_29_1 rfl (F15.ev 1 rfl) rfl) rfl fun _ F17 => ?_)))))
 refine l_op (f_val (v := .int .i64 a.age) F17 rfl rfl (r_loadB T16.at' 2 TI_3 rfl rfl (F17.ev 7 rfl) rfl rfl (fun _ => rfl) rfl) rfl fun _ F18 => ?_)
 refine l_op (f_val F18 rfl rfl (r_field FI_35_1 rfl (F18.ev 3 rfl) rfl) rfl fun _ F19 => ?_)
 refine l_op (s_store T16.at' 0 TI_3 rfl rfl rfl rfl rfl (F19.ev 9 rfl) (F19.ev 8 rfl) rfl rfl rfl rfl rfl fun w20 S20 => ?_)
 have F21 : Fr 36 [(9, .pointer (some ⟨b7, 1, none⟩)), (8, .int .i64 a.age), (3, .pointer (some ⟨b7, 0, none⟩)), (2, .pointer (some ⟨b3, 0, none⟩)), (1, .pointer (some ⟨b1, 0, none⟩))] _ := F19.cut rfl
 clear F15 F17 F18 F19
 have T22 : Mv _ _ [bx b7 [.int .i64 a.id, .int .i64 a.age, .int .i64 0, .int .i64 0, .slice none 0 0, .slice none 0 0, .slice none 0 0, .slice none 0 0, .slice none 0 0, .int .i64 0] 35, bx b3 [.int .i64 0, .int .i64 0, .int .i64 0, .int .i64 0, .slice none 0 0, .slice none 0 0, .slice none 0 0, .slice none 0 0, .slice none 0 0, .int .i64 0] 35, bx b1 [.int .i64 a.id, .int .i64 a.age, .int .i64 a.proc, .int .i64 a.began, .slice Q9 Q11 Q10, .slice Q6 Q8 Q7, .slice a_Ra a_Rn a_Rc, .slice a_Wa a_Wn a_Wc, .slice Q12 Q14 Q13, .int .i64 a.state] 29] _ := S20
 refine s_end (x_normal (wp_seq (wp_region_lit (l_op (f_val F21 rfl rfl (r_field FI_29_2 rfl (F21.ev 1 rfl) rfl) rfl fun _ F23 => ?_)))))
 refine l_op (f_val (v := .int .i64 a.proc) F23 rfl rfl (r_loadB T22.at' 2 TI_3 rfl rfl (F23.ev 10 rfl) rfl rfl (fun _ => rfl) rfl) rfl fun _ F24 => ?_)
 refine l_op (f_val F24 rfl rfl (r_field FI_35_2 rfl (F24.ev 3 rfl) rfl) rfl fun _ F25 => ?_)
 refine l_op (s_store T22.at' 0 TI_3 rfl rfl rfl rfl rfl (F25.ev 12 rfl) (F25.ev 11 rfl) rfl rfl rfl rfl rfl fun w26 S26 => ?_)
 have F27 : Fr 36 [(12, .pointer (some ⟨b7, 2, none⟩)), (11, .int .i64 a.proc), (3, .pointer (some ⟨b7, 0, none⟩)), (2, .pointer (some ⟨b3, 0, none⟩)), (1, .pointer (some ⟨b1, 0, none⟩))] _ := F25.cut rfl
 clear F21 F23 F24 F25
 have T28 : Mv _ _ [bx b7 [.int .i64 a.id, .int .i64 a.age, .int .i64 a.proc, .int .i64 0, .slice none 0 0, .slice none 0 0, .slice none 0 0, .slice none 0 0, .slice none 0 0, .int .i64 0] 35, bx b3 [.int .i64 0, .int .i64 0, .int .i64 0, .int .i64 0, .slice none 0 0, .slice none 0 0, .slice none 0 0, .slice none 0 0, .slice none 0 0, .int .i64 0] 35, bx b1 [.int .i64 a.id, .int .i64 a.age, .int .i64 a.proc, .int .i64 a.began, .slice Q9 Q11 Q10, .slice Q6 Q8 Q7, .slice a_Ra a_Rn a_Rc, .slice a_Wa a_Wn a_Wc, .slice Q12 Q14 Q13, .int .i64 a.state] 29] _ := S26
 refine s_end (x_normal (wp_seq (wp_region_lit (l_op (f_val F27 rfl rfl (r_field FI_29_3 rfl (F27.ev 1 rfl) rfl) rfl fun _ F29 => ?_)))))
 refine l_op (f_val (v := .int .i64 a.began) F29 rfl rfl (r_loadB T28.at' 2 TI_3 rfl rfl (F29.ev 13 rfl) rfl rfl (fun _ => rfl) rfl) rfl fun _ F30 => ?_)
 refine l_op (f_val F30 rfl rfl (r_field FI_35_3 rfl (F30.ev 3 rfl) rfl) rfl fun _ F31 => ?_)
 refine l_op (s_store T28.at' 0 TI_3 rfl rfl rfl rfl rfl (F31.ev 15 rfl) (F31.ev 14 rfl) rfl rfl rfl rfl rfl fun w32 S32 => ?_)
 have F33 : Fr 36 [(15, .pointer (some ⟨b7, 3, none⟩)), (14, .int .i64 a.began), (3, .pointer (some ⟨b7, 0, none⟩)), (2, .pointer (some ⟨b3, 0, none⟩)), (1, .pointer (some ⟨b1, 0, none⟩))] _ := F31.cut rfl
 clear F27 F29 F30 F31
 have T34 : Mv _ _ [bx b7 [.int .i64 a.id, .int .i64 a.age, .int .i64 a.proc, .int .i64 a.began, .slice none 0 0, .slice none 0 0, .slice none 0 0, .slice none 0 0, .slice none 0 0, .int .i64 0] 35, bx b3 [.int .i64 0, .int .i64 0, .int .i64 0, .int .i64 0, .slice none 0 0, .slice none 0 0, .slice none 0 0, .slice none 0 0, .slice none 0 0, .int .i64 0] 35, bx b1 [.int .i64 a.id, .int .i64 a.age, .int .i64 a.proc, .int .i64 a.began, .slice Q9 Q11 Q10, .slice Q6 Q8 Q7, .slice a_Ra a_Rn a_Rc, .slice a_Wa a_Wn a_Wc, .slice Q12 Q14 Q13, .int .i64 a.state] 29] _ := S32
 refine s_end (x_normal (wp_seq (wp_region_lit (l_op (f_val F33 rfl rfl (r_field FI_29_4 rfl (F33.ev 1 rfl) rfl) rfl fun _ F35 => ?_)))))
 refine l_op (f_val (v := .slice Q9 Q11 Q10) F35 rfl rfl (r_loadB T34.at' 2 TI_22 rfl rfl (F35.ev 16 rfl) rfl rfl (fun _ => rfl) rfl) rfl fun _ F36 => ?_)
 refine l_op (f_call F36 CF_18 rfl rfl rfl rfl (lc (F36.ev 17 rfl) rfl) (laws_toCallS_c (a := a.calls) (RdA.mv (Nat.succ_pos _) Q45 (S1.trans (T6.trans (T10.trans (T16.trans (T22.trans (T28.trans T34))))))) (by first | assumption | omega | (simp <;> omega))) ?_)
 rintro _ w37 ⟨Q0, Q2, Q1, rfl, m37⟩
 refine ⟨_, rfl, fun _ F38 => ?_⟩
 have S37 : Mv _ _ [ow 56 6 encK okK (.slice Q0 Q2 Q1) a.calls, bx b7 [.int .i64 a.id, .int .i64 a.age, .int .i64 a.proc, .int .i64 a.began, .slice none 0 0, .slice none 0 0, .slice none 0 0, .slice none 0 0, .slice none 0 0, .int .i64 0] 35, bx b3 [.int .i64 0, .int .i64 0, .int .i64 0, .int .i64 0, .slice none 0 0, .slice none 0 0, .slice none 0 0, .slice none 0 0, .slice none 0 0, .int .i64 0] 35, bx b1 [.int .i64 a.id, .int .i64 a.age, .int .i64 a.proc, .int .i64 a.began, .slice Q9 Q11 Q10, .slice Q6 Q8 Q7, .slice a_Ra a_Rn a_Rc, .slice a_Wa a_Wn a_Wc, .slice Q12 Q14 Q13, .int .i64 a.state] 29] _ := At.frame T34.at' [] rfl m37
 obtain ⟨Q64, Q69, Q74⟩ := At.ownInv S37.at' ET_31.hk 0 rfl
 clear m37
 refine l_op (f_val F38 rfl rfl (r_field FI_35_4 rfl (F38.ev 3 rfl) rfl) rfl fun _ F39 => ?_)
 refine l_op (s_store S37.at' 1 TI_31 rfl rfl rfl rfl rfl (F39.ev 19 rfl) (F39.ev 18 rfl) rfl rfl rfl rfl rfl fun w40 S40 => ?_)
 have F41 : Fr 36 [(19, .pointer (some ⟨b7, 4, none⟩)), (18, .slice Q0 Q2 Q1), (3, .pointer (some ⟨b7, 0, none⟩)), (2, .pointer (some ⟨b3, 0, none⟩)), (1, .pointer (some ⟨b1, 0, none⟩))] _ := F39.cut rfl
 clear F33 F35 F36 F38 F39
 have T42 : Mv _ _ [bx b7 [.int .i64 a.id, .int .i64 a.age, .int .i64 a.proc, .int .i64 a.began, .slice Q0 Q2 Q1, .slice none 0 0, .slice none 0 0, .slice none 0 0, .slice none 0 0, .int .i64 0] 35, ow 56 6 encK okK (.slice Q0 Q2 Q1) a.calls, bx b3 [.int .i64 0, .int .i64 0, .int .i64 0, .int .i64 0, .slice none 0 0, .slice none 0 0, .slice none 0 0, .slice none 0 0, .slice none 0 0, .int .i64 0] 35, bx b1 [.int .i64 a.id, .int .i64 a.age, .int .i64 a.proc, .int .i64 a.began, .slice Q9 Q11 Q10, .slice Q6 Q8 Q7, .slice a_Ra a_Rn a_Rc, .slice a_Wa a_Wn a_Wc, .slice Q12 Q14 Q13, .int .i64 a.state] 29] _ := S40
 refine s_end (x_normal (wp_seq (wp_region_lit (l_op (f_val F41 rfl rfl (r_field FI_29_5 rfl (F41.ev 1 rfl) rfl) rfl fun _ F43 => ?_)))))
 refine l_op (f_val (v := .slice Q6 Q8 Q7) F43 rfl rfl (r_loadB T42.at' 3 TI_23 rfl rfl (F43.ev 20 rfl) rfl rfl (fun _ => rfl) rfl) rfl fun _ F44 => ?_)
 refine l_op (f_call F44 CF_19 rfl rfl rfl rfl (lc (F44.ev 21 rfl) rfl) (laws_toAnswerS_c (a := a.answers) (RdA.mv (Nat.succ_pos _) Q44 (S1.trans (T6.trans (T10.trans (T16.trans (T22.trans (T28.trans (T34.trans (S37.trans T42))))))))) (by first | assumption | omega | (simp <;> omega))) ?_)
 rintro _ w45 ⟨Q3, Q5, Q4, rfl, m45⟩
 refine ⟨_, rfl, fun _ F46 => ?_⟩
 have S45 : Mv _ _ [ow 59 3 encR okR (.slice Q3 Q5 Q4) a.answers, bx b7 [.int .i64 a.id, .int .i64 a.age, .int .i64 a.proc, .int .i64 a.began, .slice Q0 Q2 Q1, .slice none 0 0, .slice none 0 0, .slice none 0 0, .slice none 0 0, .int .i64 0] 35, ow 56 6 encK okK (.slice Q0 Q2 Q1) a.calls, bx b3 [.int .i64 0, .int .i64 0, .int .i64 0, .int .i64 0, .slice none 0 0, .slice none 0 0, .slice none 0 0, .slice none 0 0, .slice none 0 0, .int .i64 0] 35, bx b1 [.int .i64 a.id, .int .i64 a.age, .int .i64 a.proc, .int .i64 a.began, .slice Q9 Q11 Q10, .slice Q6 Q8 Q7, .slice a_Ra a_Rn a_Rc, .slice a_Wa a_Wn a_Wc, .slice Q12 Q14 Q13, .int .i64 a.state] 29] _ := At.frame T42.at' [] rfl m45
 obtain ⟨Q65, Q70, Q75⟩ := At.ownInv S45.at' ET_32.hk 0 rfl
 clear m45
 refine l_op (f_val F46 rfl rfl (r_field FI_35_5 rfl (F46.ev 3 rfl) rfl) rfl fun _ F47 => ?_)
 refine l_op (s_store S45.at' 1 TI_32 rfl rfl rfl rfl rfl (F47.ev 23 rfl) (F47.ev 22 rfl) rfl rfl rfl rfl rfl fun w48 S48 => ?_)
 have F49 : Fr 36 [(23, .pointer (some ⟨b7, 5, none⟩)), (22, .slice Q3 Q5 Q4), (3, .pointer (some ⟨b7, 0, none⟩)), (2, .pointer (some ⟨b3, 0, none⟩)), (1, .pointer (some ⟨b1, 0, none⟩))] _ := F47.cut rfl
 clear F41 F43 F44 F46 F47
 have T50 : Mv _ _ [bx b7 [.int .i64 a.id, .int .i64 a.age, .int .i64 a.proc, .int .i64 a.began, .slice Q0 Q2 Q1, .slice Q3 Q5 Q4, .slice none 0 0, .slice none 0 0, .slice none 0 0, .int .i64 0] 35, ow 59 3 encR okR (.slice Q3 Q5 Q4) a.answers, ow 56 6 encK okK (.slice Q0 Q2 Q1) a.calls, bx b3 [.int .i64 0, .int .i64 0, .int .i64 0, .int .i64 0, .slice none 0 0, .slice none 0 0, .slice none 0 0, .slice none 0 0, .slice none 0 0, .int .i64 0] 35, bx b1 [.int .i64 a.id, .int .i64 a.age, .int .i64 a.proc, .int .i64 a.began, .slice Q9 Q11 Q10, .slice Q6 Q8 Q7, .slice a_Ra a_Rn a_Rc, .slice a_Wa a_Wn a_Wc, .slice Q12 Q14 Q13, .int .i64 a.state] 29] _ := S48
 refine s_end (x_normal (wp_seq (wp_region_lit (l_op (f_val F49 rfl rfl (r_field FI_29_6 rfl (F49.ev 1 rfl) rfl) rfl fun _ F51 => ?_)))))
 refine l_op (f_val (v := .agg #[.slice a_Ra a_Rn a_Rc, .slice a_Wa a_Wn a_Wc]) F51 rfl rfl (r_loadB T50.at' 4 TI_26 rfl rfl (F51.ev 24 rfl) rfl rfl (fun h => nomatch h) rfl) rfl fun _ F52 => ?_)
 refine l_op (f_call F52 CF_20 rfl rfl rfl rfl (lc (F52.ev 25 rfl) rfl) (laws_toTouch_c (a := a.touch) (RdA.mv (Nat.succ_pos _) Q47 (S1.trans (T6.trans (T10.trans (T16.trans (T22.trans (T28.trans (T34.trans (S37.trans (T42.trans (S45.trans T50))))))))))) (RdA.mv (Nat.succ_pos _) Q48 (S1.trans (T6.trans (T10.trans (T16.trans (T22.trans (T28.trans (T34.trans (S37.trans (T42.trans (S45.trans T50))))))))))) (by first | assumption | omega | (simp <;> omega)) (by first | assumption | omega | (simp <;> omega))) ?_)
 rintro _ w53 ⟨Q15, Q17, Q16, Q18, Q20, Q19, rfl, m53⟩
 refine ⟨_, rfl, fun _ F54 => ?_⟩
 have S53 : Mv _ _ [ow 9 1 encS okS (.slice Q15 Q17 Q16) a.touch.reads, ow 9 1 encS okS (.slice Q18 Q20 Q19) a.touch.writes, bx b7 [.int .i64 a.id, .int .i64 a.age, .int .i64 a.proc, .int .i64 a.began, .slice Q0 Q2 Q1, .slice Q3 Q5 Q4, .slice none 0 0, .slice none 0 0, .slice none 0 0, .int .i64 0] 35, ow 59 3 encR okR (.slice Q3 Q5 Q4) a.answers, ow 56 6 encK okK (.slice Q0 Q2 Q1) a.calls, bx b3 [.int .i64 0, .int .i64 0, .int .i64 0, .int .i64 0, .slice none 0 0, .slice none 0 0, .slice none 0 0, .slice none 0 0, .slice none 0 0, .int .i64 0] 35, bx b1 [.int .i64 a.id, .int .i64 a.age, .int .i64 a.proc, .int .i64 a.began, .slice Q9 Q11 Q10, .slice Q6 Q8 Q7, .slice a_Ra a_Rn a_Rc, .slice a_Wa a_Wn a_Wc, .slice Q12 Q14 Q13, .int .i64 a.state] 29] _ := At.frame T50.at' [] rfl m53
 obtain ⟨Q66, Q71, Q76⟩ := At.ownInv S53.at' ET_24.hk 0 rfl
 obtain ⟨Q67, Q72, Q77⟩ := At.ownInv S53.at' ET_24.hk 1 rfl
 clear m53
 refine l_op (f_val F54 rfl rfl (r_field FI_35_6 rfl (F54.ev 3 rfl) rfl) rfl fun _ F55 => ?_)
 refine l_op (s_store S53.at' 2 TI_33 rfl rfl rfl rfl rfl (F55.ev 27 rfl) (F55.ev 26 rfl) rfl rfl rfl rfl rfl fun w56 S56 => ?_)
 have F57 : Fr 36 [(27, .pointer (some ⟨b7, 6, none⟩)), (26, .agg #[.slice Q15 Q17 Q16, .slice Q18 Q20 Q19]), (3, .pointer (some ⟨b7, 0, none⟩)), (2, .pointer (some ⟨b3, 0, none⟩)), (1, .pointer (some ⟨b1, 0, none⟩))] _ := F55.cut rfl
 clear F49 F51 F52 F54 F55
 have T58 : Mv _ _ [bx b7 [.int .i64 a.id, .int .i64 a.age, .int .i64 a.proc, .int .i64 a.began, .slice Q0 Q2 Q1, .slice Q3 Q5 Q4, .slice Q15 Q17 Q16, .slice Q18 Q20 Q19, .slice none 0 0, .int .i64 0] 35, ow 9 1 encS okS (.slice Q15 Q17 Q16) a.touch.reads, ow 9 1 encS okS (.slice Q18 Q20 Q19) a.touch.writes, ow 59 3 encR okR (.slice Q3 Q5 Q4) a.answers, ow 56 6 encK okK (.slice Q0 Q2 Q1) a.calls, bx b3 [.int .i64 0, .int .i64 0, .int .i64 0, .int .i64 0, .slice none 0 0, .slice none 0 0, .slice none 0 0, .slice none 0 0, .slice none 0 0, .int .i64 0] 35, bx b1 [.int .i64 a.id, .int .i64 a.age, .int .i64 a.proc, .int .i64 a.began, .slice Q9 Q11 Q10, .slice Q6 Q8 Q7, .slice a_Ra a_Rn a_Rc, .slice a_Wa a_Wn a_Wc, .slice Q12 Q14 Q13, .int .i64 a.state] 29] _ := S56
 refine s_end (x_normal (wp_seq (wp_region_lit (l_op (f_val F57 rfl rfl (r_field FI_29_7 rfl (F57.ev 1 rfl) rfl) rfl fun _ F59 => ?_)))))
 refine l_op (f_val (v := .slice Q12 Q14 Q13) F59 rfl rfl (r_loadB T58.at' 6 TI_27 rfl rfl (F59.ev 28 rfl) rfl rfl (fun _ => rfl) rfl) rfl fun _ F60 => ?_)
 refine l_op (f_call F60 CF_21 rfl rfl rfl rfl (lc (F60.ev 29 rfl) rfl) (laws_toIntS_c (a := a.marks) (RdA.mv (Nat.succ_pos _) Q46 (S1.trans (T6.trans (T10.trans (T16.trans (T22.trans (T28.trans (T34.trans (S37.trans (T42.trans (S45.trans (T50.trans (S53.trans T58))))))))))))) (by first | assumption | omega | (simp <;> omega))) ?_)
 rintro _ w61 ⟨Q21, Q23, Q22, rfl, m61⟩
 refine ⟨_, rfl, fun _ F62 => ?_⟩
 have S61 : Mv _ _ [ow 3 1 encI okI (.slice Q21 Q23 Q22) a.marks, bx b7 [.int .i64 a.id, .int .i64 a.age, .int .i64 a.proc, .int .i64 a.began, .slice Q0 Q2 Q1, .slice Q3 Q5 Q4, .slice Q15 Q17 Q16, .slice Q18 Q20 Q19, .slice none 0 0, .int .i64 0] 35, ow 9 1 encS okS (.slice Q15 Q17 Q16) a.touch.reads, ow 9 1 encS okS (.slice Q18 Q20 Q19) a.touch.writes, ow 59 3 encR okR (.slice Q3 Q5 Q4) a.answers, ow 56 6 encK okK (.slice Q0 Q2 Q1) a.calls, bx b3 [.int .i64 0, .int .i64 0, .int .i64 0, .int .i64 0, .slice none 0 0, .slice none 0 0, .slice none 0 0, .slice none 0 0, .slice none 0 0, .int .i64 0] 35, bx b1 [.int .i64 a.id, .int .i64 a.age, .int .i64 a.proc, .int .i64 a.began, .slice Q9 Q11 Q10, .slice Q6 Q8 Q7, .slice a_Ra a_Rn a_Rc, .slice a_Wa a_Wn a_Wc, .slice Q12 Q14 Q13, .int .i64 a.state] 29] _ := At.frame T58.at' [] rfl m61
 obtain ⟨Q68, Q73, Q78⟩ := At.ownInv S61.at' ET_27.hk 0 rfl
 clear m61
 refine l_op (f_val F62 rfl rfl (r_field FI_35_7 rfl (F62.ev 3 rfl) rfl) rfl fun _ F63 => ?_)
 refine l_op (s_store S61.at' 1 TI_27 rfl rfl rfl rfl rfl (F63.ev 31 rfl) (F63.ev 30 rfl) rfl rfl rfl rfl rfl fun w64 S64 => ?_)
 have F65 : Fr 36 [(31, .pointer (some ⟨b7, 8, none⟩)), (30, .slice Q21 Q23 Q22), (3, .pointer (some ⟨b7, 0, none⟩)), (2, .pointer (some ⟨b3, 0, none⟩)), (1, .pointer (some ⟨b1, 0, none⟩))] _ := F63.cut rfl
 clear F57 F59 F60 F62 F63
 have T66 : Mv _ _ [bx b7 [.int .i64 a.id, .int .i64 a.age, .int .i64 a.proc, .int .i64 a.began, .slice Q0 Q2 Q1, .slice Q3 Q5 Q4, .slice Q15 Q17 Q16, .slice Q18 Q20 Q19, .slice Q21 Q23 Q22, .int .i64 0] 35, ow 3 1 encI okI (.slice Q21 Q23 Q22) a.marks, ow 9 1 encS okS (.slice Q15 Q17 Q16) a.touch.reads, ow 9 1 encS okS (.slice Q18 Q20 Q19) a.touch.writes, ow 59 3 encR okR (.slice Q3 Q5 Q4) a.answers, ow 56 6 encK okK (.slice Q0 Q2 Q1) a.calls, bx b3 [.int .i64 0, .int .i64 0, .int .i64 0, .int .i64 0, .slice none 0 0, .slice none 0 0, .slice none 0 0, .slice none 0 0, .slice none 0 0, .int .i64 0] 35, bx b1 [.int .i64 a.id, .int .i64 a.age, .int .i64 a.proc, .int .i64 a.began, .slice Q9 Q11 Q10, .slice Q6 Q8 Q7, .slice a_Ra a_Rn a_Rc, .slice a_Wa a_Wn a_Wc, .slice Q12 Q14 Q13, .int .i64 a.state] 29] _ := S64
 refine s_end (x_normal (wp_seq (wp_region_lit (l_op (f_val F65 rfl rfl (r_field FI_29_8 rfl (F65.ev 1 rfl) rfl) rfl fun _ F67 => ?_)))))
 refine l_op (f_val (v := .int .i64 a.state) F67 rfl rfl (r_loadB T66.at' 7 TI_3 rfl rfl (F67.ev 32 rfl) rfl rfl (fun _ => rfl) rfl) rfl fun _ F68 => ?_)
 refine l_op (f_val F68 rfl rfl (r_field FI_35_8 rfl (F68.ev 3 rfl) rfl) rfl fun _ F69 => ?_)
 refine l_op (s_store T66.at' 0 TI_3 rfl rfl rfl rfl rfl (F69.ev 34 rfl) (F69.ev 33 rfl) rfl rfl rfl rfl rfl fun w70 S70 => ?_)
 have F71 : Fr 36 [(34, .pointer (some ⟨b7, 9, none⟩)), (33, .int .i64 a.state), (3, .pointer (some ⟨b7, 0, none⟩)), (2, .pointer (some ⟨b3, 0, none⟩))] _ := F69.cut rfl
 clear F65 F67 F68 F69
 have T72 : Mv _ _ [bx b7 [.int .i64 a.id, .int .i64 a.age, .int .i64 a.proc, .int .i64 a.began, .slice Q0 Q2 Q1, .slice Q3 Q5 Q4, .slice Q15 Q17 Q16, .slice Q18 Q20 Q19, .slice Q21 Q23 Q22, .int .i64 a.state] 35, ow 3 1 encI okI (.slice Q21 Q23 Q22) a.marks, ow 9 1 encS okS (.slice Q15 Q17 Q16) a.touch.reads, ow 9 1 encS okS (.slice Q18 Q20 Q19) a.touch.writes, ow 59 3 encR okR (.slice Q3 Q5 Q4) a.answers, ow 56 6 encK okK (.slice Q0 Q2 Q1) a.calls, bx b3 [.int .i64 0, .int .i64 0, .int .i64 0, .int .i64 0, .slice none 0 0, .slice none 0 0, .slice none 0 0, .slice none 0 0, .slice none 0 0, .int .i64 0] 35, bx b1 [.int .i64 a.id, .int .i64 a.age, .int .i64 a.proc, .int .i64 a.began, .slice Q9 Q11 Q10, .slice Q6 Q8 Q7, .slice a_Ra a_Rn a_Rc, .slice a_Wa a_Wn a_Wc, .slice Q12 Q14 Q13, .int .i64 a.state] 29] _ := S70
 refine s_end (x_normal (wp_seq (wp_region_lit (l_op (f_val (v := .agg #[.int .i64 a.id, .int .i64 a.age, .int .i64 a.proc, .int .i64 a.began, .slice Q0 Q2 Q1, .slice Q3 Q5 Q4, .slice Q15 Q17 Q16, .slice Q18 Q20 Q19, .slice Q21 Q23 Q22, .int .i64 a.state]) F71 rfl rfl (r_loadB T72.at' 0 TI_35 rfl rfl (F71.ev 3 rfl) rfl rfl (fun h => nomatch h) rfl) rfl fun _ F73 => ?_)))))
 refine l_op (s_store T72.at' 6 TI_35 rfl rfl rfl rfl rfl (F73.ev 2 rfl) (F73.ev 35 rfl) rfl rfl rfl rfl rfl fun w74 S74 => ?_)
 have F75 : Fr 36 [(35, .agg #[.int .i64 a.id, .int .i64 a.age, .int .i64 a.proc, .int .i64 a.began, .slice Q0 Q2 Q1, .slice Q3 Q5 Q4, .slice Q15 Q17 Q16, .slice Q18 Q20 Q19, .slice Q21 Q23 Q22, .int .i64 a.state]), (2, .pointer (some ⟨b3, 0, none⟩))] _ := F73.cut rfl
 clear F71 F73
 have T76 : Mv _ _ [bx b3 [.int .i64 a.id, .int .i64 a.age, .int .i64 a.proc, .int .i64 a.began, .slice Q0 Q2 Q1, .slice Q3 Q5 Q4, .slice Q15 Q17 Q16, .slice Q18 Q20 Q19, .slice Q21 Q23 Q22, .int .i64 a.state] 35, bx b7 [.int .i64 a.id, .int .i64 a.age, .int .i64 a.proc, .int .i64 a.began, .slice Q0 Q2 Q1, .slice Q3 Q5 Q4, .slice Q15 Q17 Q16, .slice Q18 Q20 Q19, .slice Q21 Q23 Q22, .int .i64 a.state] 35, ow 3 1 encI okI (.slice Q21 Q23 Q22) a.marks, ow 9 1 encS okS (.slice Q15 Q17 Q16) a.touch.reads, ow 9 1 encS okS (.slice Q18 Q20 Q19) a.touch.writes, ow 59 3 encR okR (.slice Q3 Q5 Q4) a.answers, ow 56 6 encK okK (.slice Q0 Q2 Q1) a.calls, bx b1 [.int .i64 a.id, .int .i64 a.age, .int .i64 a.proc, .int .i64 a.began, .slice Q9 Q11 Q10, .slice Q6 Q8 Q7, .slice a_Ra a_Rn a_Rc, .slice a_Wa a_Wn a_Wc, .slice Q12 Q14 Q13, .int .i64 a.state] 29] _ := S74
 refine s_end (x_normal (wp_ret ?_))
 refine x_done (v := .agg #[.int .i64 a.id, .int .i64 a.age, .int .i64 a.proc, .int .i64 a.began, .slice Q0 Q2 Q1, .slice Q3 Q5 Q4, .slice Q15 Q17 Q16, .slice Q18 Q20 Q19, .slice Q21 Q23 Q22, .int .i64 a.state]) F75 (results_1 Try.results6 (.cell (F75.ev 2 rfl) (run_loadVar' TI_35 _ [.int .i64 a.id, .int .i64 a.age, .int .i64 a.proc, .int .i64 a.began, .slice Q0 Q2 Q1, .slice Q3 Q5 Q4, .slice Q15 Q17 Q16, .slice Q18 Q20 Q19, .slice Q21 Q23 Q22, .int .i64 a.state] rfl (fun h => nomatch h) (At.cells T76.at' 0 rfl 0 [.int .i64 a.id, .int .i64 a.age, .int .i64 a.proc, .int .i64 a.began, .slice Q0 Q2 Q1, .slice Q3 Q5 Q4, .slice Q15 Q17 Q16, .slice Q18 Q20 Q19, .slice Q21 Q23 Q22, .int .i64 a.state] rfl)))) ?_
 exact ⟨Q0, Q2, Q1, Q3, Q5, Q4, Q15, Q17, Q16, Q18, Q20, Q19, Q21, Q23, Q22, rfl, (Mv.pick (S1.trans (T6.trans (T10.trans (T16.trans (T22.trans (T28.trans (T34.trans (S37.trans (T42.trans (S45.trans (T50.trans (S53.trans (T58.trans (S61.trans (T66.trans (T72.trans T76)))))))))))))))) [6, 5, 3, 4, 2] rfl)⟩
theorem laws_eqTx_c {w : World} {H : Nat → Prop} {a : TxD} {Q3 : Option Addr} {Q5 Q4 : Nat} {Q0 : Option Addr} {Q2 Q1 : Nat} {a_Ra : Option Addr} {a_Rn a_Rc : Nat} {a_Wa : Option Addr} {a_Wn a_Wc : Nat} {Q6 : Option Addr} {Q8 Q7 : Nat} {b : TxD} {Q12 : Option Addr} {Q14 Q13 : Nat} {Q9 : Option Addr} {Q11 Q10 : Nat} {b_Ra : Option Addr} {b_Rn b_Rc : Nat} {b_Wa : Option Addr} {b_Wn b_Wc : Nat} {Q15 : Option Addr} {Q17 Q16 : Nat} (Q40 : i64ok a.id) (Q38 : i64ok a.age) (Q41 : i64ok a.proc) (Q39 : i64ok a.began) (Q19 : Rd 6 encK okK H w (.slice Q3 Q5 Q4) a.calls) (Q18 : Rd 3 encR okR H w (.slice Q0 Q2 Q1) a.answers) (Q21 : Rd 1 encS okS H w (.slice a_Ra a_Rn a_Rc) a.touch.reads) (Q22 : Rd 1 encS okS H w (.slice a_Wa a_Wn a_Wc) a.touch.writes) (Q20 : Rd 1 encI okI H w (.slice Q6 Q8 Q7) a.marks) (Q42 : i64ok a.state) (Q45 : i64ok b.id) (Q43 : i64ok b.age) (Q46 : i64ok b.proc) (Q44 : i64ok b.began) (Q24 : Rd 6 encK okK H w (.slice Q12 Q14 Q13) b.calls) (Q23 : Rd 3 encR okR H w (.slice Q9 Q11 Q10) b.answers) (Q26 : Rd 1 encS okS H w (.slice b_Ra b_Rn b_Rc) b.touch.reads) (Q27 : Rd 1 encS okS H w (.slice b_Wa b_Wn b_Wc) b.touch.writes) (Q25 : Rd 1 encI okI H w (.slice Q15 Q17 Q16) b.marks) (Q47 : i64ok b.state) (p0 : a = b) :
    Calls Try.prog 8 #[.agg #[.int .i64 a.id, .int .i64 a.age, .int .i64 a.proc, .int .i64 a.began, .slice Q3 Q5 Q4, .slice Q0 Q2 Q1, .slice a_Ra a_Rn a_Rc, .slice a_Wa a_Wn a_Wc, .slice Q6 Q8 Q7, .int .i64 a.state], .agg #[.int .i64 b.id, .int .i64 b.age, .int .i64 b.proc, .int .i64 b.began, .slice Q12 Q14 Q13, .slice Q9 Q11 Q10, .slice b_Ra b_Rn b_Rc, .slice b_Wa b_Wn b_Wc, .slice Q15 Q17 Q16, .int .i64 b.state]] w fun e w' => e = .returned (.bool true) ∧ Mv [] w [] w' := by
 have uU : True := (fun _ _ _ _ _ _ _ _ _ _ => trivial) Q40 Q38 Q41 Q39 Q42 Q45 Q43 Q46 Q44 Q47
 clear uU
 have Q29 : Rd 6 encK okK (V H w []) w (.slice Q3 Q5 Q4) a.calls := Rd.start Q19 (fun _ _ => fps_nil _)
 obtain ⟨Q59, Q49, Q69, Q79⟩ := Rd.inv Q19
 have Q28 : Rd 3 encR okR (V H w []) w (.slice Q0 Q2 Q1) a.answers := Rd.start Q18 (fun _ _ => fps_nil _)
 obtain ⟨Q58, Q48, Q68, Q78⟩ := Rd.inv Q18
 have Q31 : Rd 1 encS okS (V H w []) w (.slice a_Ra a_Rn a_Rc) a.touch.reads := Rd.start Q21 (fun _ _ => fps_nil _)
 obtain ⟨Q61, Q51, Q71, Q81⟩ := Rd.inv Q21
 have Q32 : Rd 1 encS okS (V H w []) w (.slice a_Wa a_Wn a_Wc) a.touch.writes := Rd.start Q22 (fun _ _ => fps_nil _)
 obtain ⟨Q62, Q52, Q72, Q82⟩ := Rd.inv Q22
 have Q30 : Rd 1 encI okI (V H w []) w (.slice Q6 Q8 Q7) a.marks := Rd.start Q20 (fun _ _ => fps_nil _)
 obtain ⟨Q60, Q50, Q70, Q80⟩ := Rd.inv Q20
 have Q34 : Rd 6 encK okK (V H w []) w (.slice Q12 Q14 Q13) b.calls := Rd.start Q24 (fun _ _ => fps_nil _)
 obtain ⟨Q64, Q54, Q74, Q84⟩ := Rd.inv Q24
 have Q33 : Rd 3 encR okR (V H w []) w (.slice Q9 Q11 Q10) b.answers := Rd.start Q23 (fun _ _ => fps_nil _)
 obtain ⟨Q63, Q53, Q73, Q83⟩ := Rd.inv Q23
 have Q36 : Rd 1 encS okS (V H w []) w (.slice b_Ra b_Rn b_Rc) b.touch.reads := Rd.start Q26 (fun _ _ => fps_nil _)
 obtain ⟨Q66, Q56, Q76, Q86⟩ := Rd.inv Q26
 have Q37 : Rd 1 encS okS (V H w []) w (.slice b_Wa b_Wn b_Wc) b.touch.writes := Rd.start Q27 (fun _ _ => fps_nil _)
 obtain ⟨Q67, Q57, Q77, Q87⟩ := Rd.inv Q27
 have Q35 : Rd 1 encI okI (V H w []) w (.slice Q15 Q17 Q16) b.marks := Rd.start Q25 (fun _ _ => fps_nil _)
 obtain ⟨Q65, Q55, Q75, Q85⟩ := Rd.inv Q25
 refine calls_enter 54 Try.func8 rfl Try.ntmps8 (Nat.le_of_ble_eq_true rfl) (fun _ F0i => ?_)
 have F0 : Fr 54 [(0, .agg #[.int .i64 a.id, .int .i64 a.age, .int .i64 a.proc, .int .i64 a.began, .slice Q3 Q5 Q4, .slice Q0 Q2 Q1, .slice a_Ra a_Rn a_Rc, .slice a_Wa a_Wn a_Wc, .slice Q6 Q8 Q7, .int .i64 a.state]), (1, .agg #[.int .i64 b.id, .int .i64 b.age, .int .i64 b.proc, .int .i64 b.began, .slice Q12 Q14 Q13, .slice Q9 Q11 Q10, .slice b_Ra b_Rn b_Rc, .slice b_Wa b_Wn b_Wc, .slice Q15 Q17 Q16, .int .i64 b.state])] _ := F0i
 clear F0i
 refine wp_seq (wp_region_lit (l_op (f_box F0 (At.nil w) rfl rfl rfl (F0.ev 0 rfl) rfl rfl fun b1 _ w1 F2 S1 => ?_)))
 refine l_op (f_box F2 S1.at' rfl rfl rfl (F2.ev 1 rfl) rfl rfl fun b3 _ w3 F4 S3 => ?_)
 refine l_op (f_val F4 rfl rfl (r_assign rfl rfl) rfl fun _ F5 => ?_)
 have F6 : Fr 54 [(4, .bool false), (3, .pointer (some ⟨b3, 0, none⟩)), (2, .pointer (some ⟨b1, 0, none⟩))] _ := F5.cut rfl
 clear F0 F2 F4 F5
 have T7 : Mv _ _ [bx b3 [.int .i64 b.id, .int .i64 b.age, .int .i64 b.proc, .int .i64 b.began, .slice Q12 Q14 Q13, .slice Q9 Q11 Q10, .slice b_Ra b_Rn b_Rc, .slice b_Wa b_Wn b_Wc, .slice Q15 Q17 Q16, .int .i64 b.state] 35, bx b1 [.int .i64 a.id, .int .i64 a.age, .int .i64 a.proc, .int .i64 a.began, .slice Q3 Q5 Q4, .slice Q0 Q2 Q1, .slice a_Ra a_Rn a_Rc, .slice a_Wa a_Wn a_Wc, .slice Q6 Q8 Q7, .int .i64 a.state] 35] _ := S3
 refine s_end (x_normal (wp_seq (wp_seq (wp_region_lit (l_op (f_val F6 rfl rfl (r_field FI_35_0 rfl (F6.ev 2 rfl) rfl) rfl fun _ F8 => ?_))))))
 refine l_op (f_val (v := .int .i64 a.id) F8 rfl rfl (r_loadB T7.at' 1 TI_3 rfl rfl (F8.ev 5 rfl) rfl rfl (fun _ => rfl) rfl) rfl fun _ F9 => ?_)
 refine l_op (f_val F9 rfl rfl (r_field FI_35_0 rfl (F9.ev 3 rfl) rfl) rfl fun _ F10 => ?_)
 refine l_op (f_val (v := .int .i64 b.id) F10 rfl rfl (r_loadB T7.at' 0 TI_3 rfl rfl (F10.ev 7 rfl) rfl rfl (fun _ => rfl) rfl) rfl fun _ F11 => ?_)
 refine l_op (f_val F11 rfl rfl (r_cmp (b := decide (a.id ≠ b.id)) (.inr (.inl rfl)) rfl (F11.ev 6 rfl) (F11.ev 8 rfl) (dec_of (by omega))) rfl fun _ F12 => ?_)
 rw [show (decide (a.id ≠ b.id)) = false from decide_eq_false (fun h => h (by rw [p0]))] at F12
 have F13 : Fr 54 [(9, .bool false), (3, .pointer (some ⟨b3, 0, none⟩)), (2, .pointer (some ⟨b1, 0, none⟩))] _ := F12.cut rfl
 clear F6 F8 F9 F10 F11 F12
 refine s_end (x_normal (wp_cond_false (F13.ev 9 rfl) (wp_skip (x_normal (wp_seq (wp_seq (wp_region_lit (l_op (f_val F13 rfl rfl (r_field FI_35_1 rfl (F13.ev 2 rfl) rfl) rfl fun _ F14 => ?_)))))))))
 refine l_op (f_val (v := .int .i64 a.age) F14 rfl rfl (r_loadB T7.at' 1 TI_3 rfl rfl (F14.ev 10 rfl) rfl rfl (fun _ => rfl) rfl) rfl fun _ F15 => ?_)
 refine l_op (f_val F15 rfl rfl (r_field FI_35_1 rfl (F15.ev 3 rfl) rfl) rfl fun _ F16 => ?_)
 refine l_op (f_val (v := .int .i64 b.age) F16 rfl rfl (r_loadB T7.at' 0 TI_3 rfl rfl (F16.ev 12 rfl) rfl rfl (fun _ => rfl) rfl) rfl fun _ F17 => ?_)
 refine l_op (f_val F17 rfl rfl (r_cmp (b := decide (a.age ≠ b.age)) (.inr (.inl rfl)) rfl (F17.ev 11 rfl) (F17.ev 13 rfl) (dec_of (by omega))) rfl fun _ F18 => ?_)
 rw [show (decide (a.age ≠ b.age)) = false from decide_eq_false (fun h => h (by rw [p0]))] at F18
 have F19 : Fr 54 [(14, .bool false), (3, .pointer (some ⟨b3, 0, none⟩)), (2, .pointer (some ⟨b1, 0, none⟩))] _ := F18.cut rfl
 clear F13 F14 F15 F16 F17 F18
 refine s_end (x_normal (wp_cond_false (F19.ev 14 rfl) (wp_skip (x_normal (wp_seq (wp_seq (wp_region_lit (l_op (f_val F19 rfl rfl (r_field FI_35_2 rfl (F19.ev 2 rfl) rfl) rfl fun _ F20 => ?_)))))))))
 refine l_op (f_val (v := .int .i64 a.proc) F20 rfl rfl (r_loadB T7.at' 1 TI_3 rfl rfl (F20.ev 15 rfl) rfl rfl (fun _ => rfl) rfl) rfl fun _ F21 => ?_)
 refine l_op (f_val F21 rfl rfl (r_field FI_35_2 rfl (F21.ev 3 rfl) rfl) rfl fun _ F22 => ?_)
 refine l_op (f_val (v := .int .i64 b.proc) F22 rfl rfl (r_loadB T7.at' 0 TI_3 rfl rfl (F22.ev 17 rfl) rfl rfl (fun _ => rfl) rfl) rfl fun _ F23 => ?_)
 refine l_op (f_val F23 rfl rfl (r_cmp (b := decide (a.proc ≠ b.proc)) (.inr (.inl rfl)) rfl (F23.ev 16 rfl) (F23.ev 18 rfl) (dec_of (by omega))) rfl fun _ F24 => ?_)
 rw [show (decide (a.proc ≠ b.proc)) = false from decide_eq_false (fun h => h (by rw [p0]))] at F24
 have F25 : Fr 54 [(19, .bool false), (3, .pointer (some ⟨b3, 0, none⟩)), (2, .pointer (some ⟨b1, 0, none⟩))] _ := F24.cut rfl
 clear F19 F20 F21 F22 F23 F24
 refine s_end (x_normal (wp_cond_false (F25.ev 19 rfl) (wp_skip (x_normal (wp_seq (wp_seq (wp_region_lit (l_op (f_val F25 rfl rfl (r_field FI_35_3 rfl (F25.ev 2 rfl) rfl) rfl fun _ F26 => ?_)))))))))
 refine l_op (f_val (v := .int .i64 a.began) F26 rfl rfl (r_loadB T7.at' 1 TI_3 rfl rfl (F26.ev 20 rfl) rfl rfl (fun _ => rfl) rfl) rfl fun _ F27 => ?_)
 refine l_op (f_val F27 rfl rfl (r_field FI_35_3 rfl (F27.ev 3 rfl) rfl) rfl fun _ F28 => ?_)
 refine l_op (f_val (v := .int .i64 b.began) F28 rfl rfl (r_loadB T7.at' 0 TI_3 rfl rfl (F28.ev 22 rfl) rfl rfl (fun _ => rfl) rfl) rfl fun _ F29 => ?_)
 refine l_op (f_val F29 rfl rfl (r_cmp (b := decide (a.began ≠ b.began)) (.inr (.inl rfl)) rfl (F29.ev 21 rfl) (F29.ev 23 rfl) (dec_of (by omega))) rfl fun _ F30 => ?_)
 rw [show (decide (a.began ≠ b.began)) = false from decide_eq_false (fun h => h (by rw [p0]))] at F30
 have F31 : Fr 54 [(24, .bool false), (3, .pointer (some ⟨b3, 0, none⟩)), (2, .pointer (some ⟨b1, 0, none⟩))] _ := F30.cut rfl
 clear F25 F26 F27 F28 F29 F30
 refine s_end (x_normal (wp_cond_false (F31.ev 24 rfl) (wp_skip (x_normal (wp_seq (wp_seq (wp_region_lit (l_op (f_val F31 rfl rfl (r_field FI_35_4 rfl (F31.ev 2 rfl) rfl) rfl fun _ F32 => ?_)))))))))
 refine l_op (f_val (v := .slice Q3 Q5 Q4) F32 rfl rfl (r_loadB T7.at' 1 TI_31 rfl rfl (F32.ev 25 rfl) rfl rfl (fun _ => rfl) rfl) rfl fun _ F33 => ?_)
 refine l_op (f_val F33 rfl rfl (r_field FI_35_4 rfl (F33.ev 3 rfl) rfl) rfl fun _ F34 => ?_)
 refine l_op (f_val (v := .slice Q12 Q14 Q13) F34 rfl rfl (r_loadB T7.at' 0 TI_31 rfl rfl (F34.ev 27 rfl) rfl rfl (fun _ => rfl) rfl) rfl fun _ F35 => ?_)
 refine l_op (f_call F35 CF_28 rfl rfl rfl rfl (lc (F35.ev 26 rfl) (lc (F35.ev 28 rfl) rfl)) (laws_eqCallS_c (a := a.calls) (b := b.calls) (Rd.mv (Nat.succ_pos _) Q29 (S1.trans T7)) (Rd.mv (Nat.succ_pos _) Q34 (S1.trans T7)) (by rw [p0])) ?_)
 rintro _ w36 ⟨rfl, m36⟩
 refine ⟨_, rfl, fun _ F37 => ?_⟩
 have S36 := At.frame0 T7.at' m36
 clear m36
 refine l_op (f_val F37 rfl rfl (r_not rfl (F37.ev 29 rfl)) rfl fun _ F38 => ?_)
 have F39 : Fr 54 [(30, .bool false), (3, .pointer (some ⟨b3, 0, none⟩)), (2, .pointer (some ⟨b1, 0, none⟩))] _ := F38.cut rfl
 clear F31 F32 F33 F34 F35 F37 F38
 have T40 : Mv _ _ [bx b3 [.int .i64 b.id, .int .i64 b.age, .int .i64 b.proc, .int .i64 b.began, .slice Q12 Q14 Q13, .slice Q9 Q11 Q10, .slice b_Ra b_Rn b_Rc, .slice b_Wa b_Wn b_Wc, .slice Q15 Q17 Q16, .int .i64 b.state] 35, bx b1 [.int .i64 a.id, .int .i64 a.age, .int .i64 a.proc, .int .i64 a.began, .slice Q3 Q5 Q4, .slice Q0 Q2 Q1, .slice a_Ra a_Rn a_Rc, .slice a_Wa a_Wn a_Wc, .slice Q6 Q8 Q7, .int .i64 a.state] 35] _ := S36
 refine s_end (x_normal (wp_cond_false (F39.ev 30 rfl) (wp_skip (x_normal (wp_seq (wp_seq (wp_region_lit (l_op (f_val F39 rfl rfl (r_field FI_35_5 rfl (F39.ev 2 rfl) rfl) rfl fun _ F41 => ?_)))))))))
 refine l_op (f_val (v := .slice Q0 Q2 Q1) F41 rfl rfl (r_loadB T40.at' 1 TI_32 rfl rfl (F41.ev 31 rfl) rfl rfl (fun _ => rfl) rfl) rfl fun _ F42 => ?_)
 refine l_op (f_val F42 rfl rfl (r_field FI_35_5 rfl (F42.ev 3 rfl) rfl) rfl fun _ F43 => ?_)
 refine l_op (f_val (v := .slice Q9 Q11 Q10) F43 rfl rfl (r_loadB T40.at' 0 TI_32 rfl rfl (F43.ev 33 rfl) rfl rfl (fun _ => rfl) rfl) rfl fun _ F44 => ?_)
 refine l_op (f_call F44 CF_29 rfl rfl rfl rfl (lc (F44.ev 32 rfl) (lc (F44.ev 34 rfl) rfl)) (laws_eqAnswerS_c (a := a.answers) (b := b.answers) (Rd.mv (Nat.succ_pos _) Q28 (S1.trans (T7.trans T40))) (Rd.mv (Nat.succ_pos _) Q33 (S1.trans (T7.trans T40))) (by rw [p0])) ?_)
 rintro _ w45 ⟨rfl, m45⟩
 refine ⟨_, rfl, fun _ F46 => ?_⟩
 have S45 := At.frame0 T40.at' m45
 clear m45
 refine l_op (f_val F46 rfl rfl (r_not rfl (F46.ev 35 rfl)) rfl fun _ F47 => ?_)
 have F48 : Fr 54 [(36, .bool false), (3, .pointer (some ⟨b3, 0, none⟩)), (2, .pointer (some ⟨b1, 0, none⟩))] _ := F47.cut rfl
 clear F39 F41 F42 F43 F44 F46 F47
 have T49 : Mv _ _ [bx b3 [.int .i64 b.id, .int .i64 b.age, .int .i64 b.proc, .int .i64 b.began, .slice Q12 Q14 Q13, .slice Q9 Q11 Q10, .slice b_Ra b_Rn b_Rc, .slice b_Wa b_Wn b_Wc, .slice Q15 Q17 Q16, .int .i64 b.state] 35, bx b1 [.int .i64 a.id, .int .i64 a.age, .int .i64 a.proc, .int .i64 a.began, .slice Q3 Q5 Q4, .slice Q0 Q2 Q1, .slice a_Ra a_Rn a_Rc, .slice a_Wa a_Wn a_Wc, .slice Q6 Q8 Q7, .int .i64 a.state] 35] _ := S45
 refine s_end (x_normal (wp_cond_false (F48.ev 36 rfl) (wp_skip (x_normal (wp_seq (wp_seq (wp_region_lit (l_op (f_val F48 rfl rfl (r_field FI_35_6 rfl (F48.ev 2 rfl) rfl) rfl fun _ F50 => ?_)))))))))
 refine l_op (f_val (v := .agg #[.slice a_Ra a_Rn a_Rc, .slice a_Wa a_Wn a_Wc]) F50 rfl rfl (r_loadB T49.at' 1 TI_33 rfl rfl (F50.ev 37 rfl) rfl rfl (fun h => nomatch h) rfl) rfl fun _ F51 => ?_)
 refine l_op (f_val F51 rfl rfl (r_field FI_35_6 rfl (F51.ev 3 rfl) rfl) rfl fun _ F52 => ?_)
 refine l_op (f_val (v := .agg #[.slice b_Ra b_Rn b_Rc, .slice b_Wa b_Wn b_Wc]) F52 rfl rfl (r_loadB T49.at' 0 TI_33 rfl rfl (F52.ev 39 rfl) rfl rfl (fun h => nomatch h) rfl) rfl fun _ F53 => ?_)
 refine l_op (f_call F53 CF_30 rfl rfl rfl rfl (lc (F53.ev 38 rfl) (lc (F53.ev 40 rfl) rfl)) (laws_eqTouch_c (a := a.touch) (b := b.touch) (Rd.mv (Nat.succ_pos _) Q31 (S1.trans (T7.trans (T40.trans T49)))) (Rd.mv (Nat.succ_pos _) Q32 (S1.trans (T7.trans (T40.trans T49)))) (Rd.mv (Nat.succ_pos _) Q36 (S1.trans (T7.trans (T40.trans T49)))) (Rd.mv (Nat.succ_pos _) Q37 (S1.trans (T7.trans (T40.trans T49)))) (by rw [p0])) ?_)
 rintro _ w54 ⟨rfl, m54⟩
 refine ⟨_, rfl, fun _ F55 => ?_⟩
 have S54 := At.frame0 T49.at' m54
 clear m54
 refine l_op (f_val F55 rfl rfl (r_not rfl (F55.ev 41 rfl)) rfl fun _ F56 => ?_)
 have F57 : Fr 54 [(42, .bool false), (3, .pointer (some ⟨b3, 0, none⟩)), (2, .pointer (some ⟨b1, 0, none⟩))] _ := F56.cut rfl
 clear F48 F50 F51 F52 F53 F55 F56
 have T58 : Mv _ _ [bx b3 [.int .i64 b.id, .int .i64 b.age, .int .i64 b.proc, .int .i64 b.began, .slice Q12 Q14 Q13, .slice Q9 Q11 Q10, .slice b_Ra b_Rn b_Rc, .slice b_Wa b_Wn b_Wc, .slice Q15 Q17 Q16, .int .i64 b.state] 35, bx b1 [.int .i64 a.id, .int .i64 a.age, .int .i64 a.proc, .int .i64 a.began, .slice Q3 Q5 Q4, .slice Q0 Q2 Q1, .slice a_Ra a_Rn a_Rc, .slice a_Wa a_Wn a_Wc, .slice Q6 Q8 Q7, .int .i64 a.state] 35] _ := S54
 refine s_end (x_normal (wp_cond_false (F57.ev 42 rfl) (wp_skip (x_normal (wp_seq (wp_seq (wp_region_lit (l_op (f_val F57 rfl rfl (r_field FI_35_7 rfl (F57.ev 2 rfl) rfl) rfl fun _ F59 => ?_)))))))))
 refine l_op (f_val (v := .slice Q6 Q8 Q7) F59 rfl rfl (r_loadB T58.at' 1 TI_27 rfl rfl (F59.ev 43 rfl) rfl rfl (fun _ => rfl) rfl) rfl fun _ F60 => ?_)
 refine l_op (f_val F60 rfl rfl (r_field FI_35_7 rfl (F60.ev 3 rfl) rfl) rfl fun _ F61 => ?_)
 refine l_op (f_val (v := .slice Q15 Q17 Q16) F61 rfl rfl (r_loadB T58.at' 0 TI_27 rfl rfl (F61.ev 45 rfl) rfl rfl (fun _ => rfl) rfl) rfl fun _ F62 => ?_)
 refine l_op (f_call F62 CF_31 rfl rfl rfl rfl (lc (F62.ev 44 rfl) (lc (F62.ev 46 rfl) rfl)) (laws_eqIntS_c (a := a.marks) (b := b.marks) (Rd.mv (Nat.succ_pos _) Q30 (S1.trans (T7.trans (T40.trans (T49.trans T58))))) (Rd.mv (Nat.succ_pos _) Q35 (S1.trans (T7.trans (T40.trans (T49.trans T58))))) (by rw [p0])) ?_)
 rintro _ w63 ⟨rfl, m63⟩
 refine ⟨_, rfl, fun _ F64 => ?_⟩
 have S63 := At.frame0 T58.at' m63
 clear m63
 refine l_op (f_val F64 rfl rfl (r_not rfl (F64.ev 47 rfl)) rfl fun _ F65 => ?_)
 have F66 : Fr 54 [(48, .bool false), (3, .pointer (some ⟨b3, 0, none⟩)), (2, .pointer (some ⟨b1, 0, none⟩))] _ := F65.cut rfl
 clear F57 F59 F60 F61 F62 F64 F65
 have T67 : Mv _ _ [bx b3 [.int .i64 b.id, .int .i64 b.age, .int .i64 b.proc, .int .i64 b.began, .slice Q12 Q14 Q13, .slice Q9 Q11 Q10, .slice b_Ra b_Rn b_Rc, .slice b_Wa b_Wn b_Wc, .slice Q15 Q17 Q16, .int .i64 b.state] 35, bx b1 [.int .i64 a.id, .int .i64 a.age, .int .i64 a.proc, .int .i64 a.began, .slice Q3 Q5 Q4, .slice Q0 Q2 Q1, .slice a_Ra a_Rn a_Rc, .slice a_Wa a_Wn a_Wc, .slice Q6 Q8 Q7, .int .i64 a.state] 35] _ := S63
 refine s_end (x_normal (wp_cond_false (F66.ev 48 rfl) (wp_skip (x_normal (wp_seq (wp_seq (wp_region_lit (l_op (f_val F66 rfl rfl (r_field FI_35_8 rfl (F66.ev 2 rfl) rfl) rfl fun _ F68 => ?_)))))))))
 refine l_op (f_val (v := .int .i64 a.state) F68 rfl rfl (r_loadB T67.at' 1 TI_3 rfl rfl (F68.ev 49 rfl) rfl rfl (fun _ => rfl) rfl) rfl fun _ F69 => ?_)
 refine l_op (f_val F69 rfl rfl (r_field FI_35_8 rfl (F69.ev 3 rfl) rfl) rfl fun _ F70 => ?_)
 refine l_op (f_val (v := .int .i64 b.state) F70 rfl rfl (r_loadB T67.at' 0 TI_3 rfl rfl (F70.ev 51 rfl) rfl rfl (fun _ => rfl) rfl) rfl fun _ F71 => ?_)
 refine l_op (f_val F71 rfl rfl (r_cmp (b := decide (a.state ≠ b.state)) (.inr (.inl rfl)) rfl (F71.ev 50 rfl) (F71.ev 52 rfl) (dec_of (by omega))) rfl fun _ F72 => ?_)
 rw [show (decide (a.state ≠ b.state)) = false from decide_eq_false (fun h => h (by rw [p0]))] at F72
 have F73 : Fr 54 [(53, .bool false)] _ := F72.cut rfl
 clear F66 F68 F69 F70 F71 F72
 refine s_end (x_normal (wp_cond_false (F73.ev 53 rfl) (wp_skip (x_normal (wp_seq (wp_region_lit (l_op (f_val F73 rfl rfl (r_assign rfl rfl) rfl fun _ F74 => ?_))))))))
 have F75 : Fr 54 [(4, .bool true)] _ := F74.cut rfl
 clear F73 F74
 refine s_end (x_normal (wp_ret ?_))
 refine x_done (v := .bool true) F75 (results_1 Try.results8 (.tmp (F75.ev 4 rfl))) ?_
 exact ⟨rfl, (Mv.pick (S1.trans (T7.trans (T40.trans (T49.trans (T58.trans T67))))) [] rfl)⟩
theorem laws_markTx_c {w : World} {H : Nat → Prop} {a : TxD} {Q2 : Option Addr} {Q3 Q7 : Nat} {a_calls_v : Nat} {Q0 : Option Addr} {Q1 Q6 : Nat} {a_answers_v : Nat} {a_Ra : Option Addr} {a_Rn a_Rc : Nat} {a_Wa : Option Addr} {a_Wn a_Wc : Nat} {Q4 : Option Addr} {Q5 Q8 : Nat} {a_marks_v : Nat} {k : Nat} (Q11 : i64ok a.id) (Q9 : i64ok a.age) (Q12 : i64ok a.proc) (Q10 : i64ok a.began) (Q13 : i64ok a.state) (h_k : i64ok (k : Int)) (p0 : k ≤ 1048576) (p1 : a.calls.length ≤ 2097152) (p2 : a.answers.length ≤ 2097152) (p3 : a.touch.reads.length ≤ 2097152) (p4 : a.touch.writes.length ≤ 2097152) (p5 : a.marks.length ≤ 2097152) (hA : At w [ow 56 6 encK okK (.slice Q2 Q3 Q7) a.calls, ow 59 3 encR okR (.slice Q0 Q1 Q6) a.answers, ow 9 1 encS okS (.slice a_Ra a_Rn a_Rc) a.touch.reads, ow 9 1 encS okS (.slice a_Wa a_Wn a_Wc) a.touch.writes, ow 3 1 encI okI (.slice Q4 Q5 Q8) a.marks]) :
    Calls Try.prog 9 #[.agg #[.int .i64 a.id, .int .i64 a.age, .int .i64 a.proc, .int .i64 a.began, .slice Q2 Q3 a_calls_v, .slice Q0 Q1 a_answers_v, .slice a_Ra a_Rn a_Rc, .slice a_Wa a_Wn a_Wc, .slice Q4 Q5 a_marks_v, .int .i64 a.state], .int .i64 ((k : Nat) : Int)] w fun e w' => e = .returned (.int .i64 ((k + cntX a : Nat) : Int)) ∧ Mv [ow 56 6 encK okK (.slice Q2 Q3 Q7) a.calls, ow 59 3 encR okR (.slice Q0 Q1 Q6) a.answers, ow 9 1 encS okS (.slice a_Ra a_Rn a_Rc) a.touch.reads, ow 9 1 encS okS (.slice a_Wa a_Wn a_Wc) a.touch.writes, ow 3 1 encI okI (.slice Q4 Q5 Q8) a.marks] w [ow 56 6 encK okK (.slice Q2 Q3 Q7) (marksX k a).calls, ow 59 3 encR okR (.slice Q0 Q1 Q6) (marksX k a).answers, ow 9 1 encS okS (.slice a_Ra a_Rn a_Rc) (marksX k a).touch.reads, ow 9 1 encS okS (.slice a_Wa a_Wn a_Wc) (marksX k a).touch.writes, ow 3 1 encI okI (.slice Q4 Q5 Q8) (marksX k a).marks] w' := by
 have uU : True := (fun _ _ _ _ _ _ _ _ _ _ _ _ _ => trivial) H Q11 Q9 Q12 Q10 Q13 h_k p0 p1 p2 p3 p4 p5
 clear uU
 obtain ⟨lo0, lp0, lq0⟩ := At.ownInv hA ET_31.hk 0 rfl
 obtain ⟨lo1, lp1, lq1⟩ := At.ownInv hA ET_32.hk 1 rfl
 obtain ⟨lo2, lp2, lq2⟩ := At.ownInv hA ET_24.hk 2 rfl
 obtain ⟨lo3, lp3, lq3⟩ := At.ownInv hA ET_24.hk 3 rfl
 obtain ⟨lo4, lp4, lq4⟩ := At.ownInv hA ET_27.hk 4 rfl
 refine calls_enter 22 Try.func9 rfl Try.ntmps9 (Nat.le_of_ble_eq_true rfl) (fun _ F0i => ?_)
 have F0 : Fr 22 [(0, .agg #[.int .i64 a.id, .int .i64 a.age, .int .i64 a.proc, .int .i64 a.began, .slice Q2 Q3 a_calls_v, .slice Q0 Q1 a_answers_v, .slice a_Ra a_Rn a_Rc, .slice a_Wa a_Wn a_Wc, .slice Q4 Q5 a_marks_v, .int .i64 a.state]), (1, .int .i64 ((k : Nat) : Int))] _ := F0i
 clear F0i
 refine wp_seq (wp_region_lit (l_op (f_box F0 hA rfl rfl rfl (F0.ev 0 rfl) rfl rfl fun b1 _ w1 F2 S1 => ?_)))
 refine l_op (f_val F2 rfl rfl (r_assign rfl rfl) rfl fun _ F3 => ?_)
 have F4 : Fr 22 [(4, .int .i64 0), (2, .pointer (some ⟨b1, 0, none⟩)), (1, .int .i64 ((k : Nat) : Int))] _ := F3.cut rfl
 clear F0 F2 F3
 have T5 : Mv _ _ [bx b1 [.int .i64 a.id, .int .i64 a.age, .int .i64 a.proc, .int .i64 a.began, .slice Q2 Q3 a_calls_v, .slice Q0 Q1 a_answers_v, .slice a_Ra a_Rn a_Rc, .slice a_Wa a_Wn a_Wc, .slice Q4 Q5 a_marks_v, .int .i64 a.state] 35, ow 56 6 encK okK (.slice Q2 Q3 Q7) a.calls, ow 59 3 encR okR (.slice Q0 Q1 Q6) a.answers, ow 9 1 encS okS (.slice a_Ra a_Rn a_Rc) a.touch.reads, ow 9 1 encS okS (.slice a_Wa a_Wn a_Wc) a.touch.writes, ow 3 1 encI okI (.slice Q4 Q5 Q8) a.marks] _ := S1
 refine s_end (x_normal (wp_seq (wp_region_lit (l_op (f_val F4 rfl rfl (r_field FI_35_4 rfl (F4.ev 2 rfl) rfl) rfl fun _ F6 => ?_)))))
 refine l_op (f_val (v := .slice Q2 Q3 a_calls_v) F6 rfl rfl (r_loadB T5.at' 0 TI_31 rfl rfl (F6.ev 5 rfl) rfl rfl (fun _ => rfl) rfl) rfl fun _ F7 => ?_)
 refine l_op (f_mv F7 rfl rfl rfl rfl rfl fun _ F8 => ?_)
 refine l_op (f_call F8 CF_32 rfl rfl rfl rfl (lc (F8.ev 6 rfl) (lc (F8.ev 7 rfl) rfl)) (laws_markCallS_c (H := fun _ => True) (a := a.calls) (k := k) ⟨by omega, by first | assumption | omega | (unfold cntT; omega)⟩ (by first | assumption | omega | (unfold cntT; omega)) (At.pick (is := [1]) T5.at' rfl)) ?_)
 rintro _ w9 ⟨rfl, m9⟩
 refine ⟨_, rfl, fun _ F10 => ?_⟩
 have S9 : Mv _ _ [ow 56 6 encK okK (.slice Q2 Q3 Q7) (marksOf markK k a.calls.length), bx b1 [.int .i64 a.id, .int .i64 a.age, .int .i64 a.proc, .int .i64 a.began, .slice Q2 Q3 a_calls_v, .slice Q0 Q1 a_answers_v, .slice a_Ra a_Rn a_Rc, .slice a_Wa a_Wn a_Wc, .slice Q4 Q5 a_marks_v, .int .i64 a.state] 35, ow 59 3 encR okR (.slice Q0 Q1 Q6) a.answers, ow 9 1 encS okS (.slice a_Ra a_Rn a_Rc) a.touch.reads, ow 9 1 encS okS (.slice a_Wa a_Wn a_Wc) a.touch.writes, ow 3 1 encI okI (.slice Q4 Q5 Q8) a.marks] _ := At.frame T5.at' [1] rfl m9
 obtain ⟨Q18, Q23, Q28⟩ := At.ownInv S9.at' ET_31.hk 0 rfl
 clear m9
 refine l_op (f_as F10 rfl rfl rfl rfl rfl fun _ F11 => ?_)
 have F12 : Fr 22 [(1, .int .i64 ((k + 6 * a.calls.length : Nat) : Int)), (2, .pointer (some ⟨b1, 0, none⟩))] _ := F11.cut rfl
 clear F4 F6 F7 F8 F10 F11
 refine s_end (x_normal (wp_seq (wp_region_lit (l_op (f_val F12 rfl rfl (r_field FI_35_5 rfl (F12.ev 2 rfl) rfl) rfl fun _ F13 => ?_)))))
 refine l_op (f_val (v := .slice Q0 Q1 a_answers_v) F13 rfl rfl (r_loadB S9.at' 1 TI_32 rfl rfl (F13.ev 9 rfl) rfl rfl (fun _ => rfl) rfl) rfl fun _ F14 => ?_)
 refine l_op (f_mv F14 rfl rfl rfl rfl rfl fun _ F15 => ?_)
 refine l_op (f_call F15 CF_33 rfl rfl rfl rfl (lc (F15.ev 10 rfl) (lc (F15.ev 11 rfl) rfl)) (laws_markAnswerS_c (H := fun _ => True) (a := a.answers) (k := k + 6 * a.calls.length) ⟨by omega, by first | assumption | omega | (unfold cntT; omega)⟩ (by first | assumption | omega | (unfold cntT; omega)) (At.pick (is := [2]) S9.at' rfl)) ?_)
 rintro _ w16 ⟨rfl, m16⟩
 refine ⟨_, rfl, fun _ F17 => ?_⟩
 have S16 : Mv _ _ [ow 59 3 encR okR (.slice Q0 Q1 Q6) (marksOf markR (k + 6 * a.calls.length) a.answers.length), ow 56 6 encK okK (.slice Q2 Q3 Q7) (marksOf markK k a.calls.length), bx b1 [.int .i64 a.id, .int .i64 a.age, .int .i64 a.proc, .int .i64 a.began, .slice Q2 Q3 a_calls_v, .slice Q0 Q1 a_answers_v, .slice a_Ra a_Rn a_Rc, .slice a_Wa a_Wn a_Wc, .slice Q4 Q5 a_marks_v, .int .i64 a.state] 35, ow 9 1 encS okS (.slice a_Ra a_Rn a_Rc) a.touch.reads, ow 9 1 encS okS (.slice a_Wa a_Wn a_Wc) a.touch.writes, ow 3 1 encI okI (.slice Q4 Q5 Q8) a.marks] _ := At.frame S9.at' [2] rfl m16
 obtain ⟨Q14, Q19, Q24⟩ := At.ownInv S16.at' ET_32.hk 0 rfl
 clear m16
 refine l_op (f_as F17 rfl rfl rfl rfl rfl fun _ F18 => ?_)
 have F19 : Fr 22 [(1, .int .i64 (((k + 6 * a.calls.length) + 3 * a.answers.length : Nat) : Int)), (2, .pointer (some ⟨b1, 0, none⟩))] _ := F18.cut rfl
 clear F12 F13 F14 F15 F17 F18
 refine s_end (x_normal (wp_seq (wp_region_lit (l_op (f_val F19 rfl rfl (r_field FI_35_6 rfl (F19.ev 2 rfl) rfl) rfl fun _ F20 => ?_)))))
 refine l_op (f_val (v := .agg #[.slice a_Ra a_Rn a_Rc, .slice a_Wa a_Wn a_Wc]) F20 rfl rfl (r_loadB S16.at' 2 TI_33 rfl rfl (F20.ev 13 rfl) rfl rfl (fun h => nomatch h) rfl) rfl fun _ F21 => ?_)
 refine l_op (f_mv F21 rfl rfl rfl rfl rfl fun _ F22 => ?_)
 refine l_op (f_call F22 CF_34 rfl rfl rfl rfl (lc (F22.ev 14 rfl) (lc (F22.ev 15 rfl) rfl)) (laws_markTouch_c (H := fun _ => True) (a := a.touch) (k := (k + 6 * a.calls.length) + 3 * a.answers.length) ⟨by omega, by first | assumption | omega | (unfold cntT; omega)⟩ (by first | assumption | omega | (unfold cntT; omega)) (by first | assumption | omega | (unfold cntT; omega)) (by first | assumption | omega | (unfold cntT; omega)) (At.pick (is := [3, 4]) S16.at' rfl)) ?_)
 rintro _ w23 ⟨rfl, m23⟩
 refine ⟨_, rfl, fun _ F24 => ?_⟩
 have S23 : Mv _ _ [ow 9 1 encS okS (.slice a_Ra a_Rn a_Rc) (marksT ((k + 6 * a.calls.length) + 3 * a.answers.length) a.touch).reads, ow 9 1 encS okS (.slice a_Wa a_Wn a_Wc) (marksT ((k + 6 * a.calls.length) + 3 * a.answers.length) a.touch).writes, ow 59 3 encR okR (.slice Q0 Q1 Q6) (marksOf markR (k + 6 * a.calls.length) a.answers.length), ow 56 6 encK okK (.slice Q2 Q3 Q7) (marksOf markK k a.calls.length), bx b1 [.int .i64 a.id, .int .i64 a.age, .int .i64 a.proc, .int .i64 a.began, .slice Q2 Q3 a_calls_v, .slice Q0 Q1 a_answers_v, .slice a_Ra a_Rn a_Rc, .slice a_Wa a_Wn a_Wc, .slice Q4 Q5 a_marks_v, .int .i64 a.state] 35, ow 3 1 encI okI (.slice Q4 Q5 Q8) a.marks] _ := At.frame S16.at' [3, 4] rfl m23
 obtain ⟨Q15, Q20, Q25⟩ := At.ownInv S23.at' ET_24.hk 0 rfl
 obtain ⟨Q16, Q21, Q26⟩ := At.ownInv S23.at' ET_24.hk 1 rfl
 clear m23
 refine l_op (f_as F24 rfl rfl rfl rfl rfl fun _ F25 => ?_)
 have F26 : Fr 22 [(1, .int .i64 ((((k + 6 * a.calls.length) + 3 * a.answers.length) + cntT a.touch : Nat) : Int)), (2, .pointer (some ⟨b1, 0, none⟩))] _ := F25.cut rfl
 clear F19 F20 F21 F22 F24 F25
 refine s_end (x_normal (wp_seq (wp_region_lit (l_op (f_val F26 rfl rfl (r_field FI_35_7 rfl (F26.ev 2 rfl) rfl) rfl fun _ F27 => ?_)))))
 refine l_op (f_val (v := .slice Q4 Q5 a_marks_v) F27 rfl rfl (r_loadB S23.at' 4 TI_27 rfl rfl (F27.ev 17 rfl) rfl rfl (fun _ => rfl) rfl) rfl fun _ F28 => ?_)
 refine l_op (f_mv F28 rfl rfl rfl rfl rfl fun _ F29 => ?_)
 refine l_op (f_call F29 CF_35 rfl rfl rfl rfl (lc (F29.ev 18 rfl) (lc (F29.ev 19 rfl) rfl)) (laws_markIntS_c (H := fun _ => True) (a := a.marks) (k := ((k + 6 * a.calls.length) + 3 * a.answers.length) + cntT a.touch) ⟨by omega, by first | assumption | omega | (unfold cntT; omega)⟩ (by first | assumption | omega | (unfold cntT; omega)) (At.pick (is := [5]) S23.at' rfl)) ?_)
 rintro _ w30 ⟨rfl, m30⟩
 refine ⟨_, rfl, fun _ F31 => ?_⟩
 have S30 : Mv _ _ [ow 3 1 encI okI (.slice Q4 Q5 Q8) (marksOf markI (((k + 6 * a.calls.length) + 3 * a.answers.length) + cntT a.touch) a.marks.length), ow 9 1 encS okS (.slice a_Ra a_Rn a_Rc) (marksT ((k + 6 * a.calls.length) + 3 * a.answers.length) a.touch).reads, ow 9 1 encS okS (.slice a_Wa a_Wn a_Wc) (marksT ((k + 6 * a.calls.length) + 3 * a.answers.length) a.touch).writes, ow 59 3 encR okR (.slice Q0 Q1 Q6) (marksOf markR (k + 6 * a.calls.length) a.answers.length), ow 56 6 encK okK (.slice Q2 Q3 Q7) (marksOf markK k a.calls.length), bx b1 [.int .i64 a.id, .int .i64 a.age, .int .i64 a.proc, .int .i64 a.began, .slice Q2 Q3 a_calls_v, .slice Q0 Q1 a_answers_v, .slice a_Ra a_Rn a_Rc, .slice a_Wa a_Wn a_Wc, .slice Q4 Q5 a_marks_v, .int .i64 a.state] 35] _ := At.frame S23.at' [5] rfl m30
 obtain ⟨Q17, Q22, Q27⟩ := At.ownInv S30.at' ET_27.hk 0 rfl
 clear m30
 refine l_op (f_as F31 rfl rfl rfl rfl rfl fun _ F32 => ?_)
 have F33 : Fr 22 [(1, .int .i64 (((((k + 6 * a.calls.length) + 3 * a.answers.length) + cntT a.touch) + a.marks.length : Nat) : Int))] _ := F32.cut rfl
 clear F26 F27 F28 F29 F31 F32
 refine s_end (x_normal (wp_seq (wp_region_lit (l_op (f_mv F33 rfl rfl rfl rfl rfl fun _ F34 => ?_)))))
 refine l_op (f_as F34 rfl rfl rfl rfl rfl fun _ F35 => ?_)
 have F36 : Fr 22 [(4, .int .i64 (((((k + 6 * a.calls.length) + 3 * a.answers.length) + cntT a.touch) + a.marks.length : Nat) : Int))] _ := F35.cut rfl
 clear F33 F34 F35
 refine s_end (x_normal (wp_ret ?_))
 refine x_done (v := .int .i64 (((((k + 6 * a.calls.length) + 3 * a.answers.length) + cntT a.touch) + a.marks.length : Nat) : Int)) F36 (results_1 Try.results9 (.tmp (F36.ev 4 rfl))) ?_
 exact ⟨(by rw [(show (((((k + 6 * a.calls.length) + 3 * a.answers.length) + cntT a.touch) + a.marks.length : Nat) : Int) = ((k + cntX a : Nat) : Int) from by first | rfl | (unfold cntX; omega))]), (Mv.cast (Mv.pick (T5.trans (S9.trans (S16.trans (S23.trans S30)))) [4, 3, 1, 2, 0] rfl) (by rw [(show (marksOf markK k a.calls.length) = (marksX k a).calls from by first | rfl | (unfold cntX; omega)), (show (marksOf markR (k + 6 * a.calls.length) a.answers.length) = (marksX k a).answers from by first | rfl | (unfold cntX; omega)), (show (marksT ((k + 6 * a.calls.length) + 3 * a.answers.length) a.touch).reads = (marksX k a).touch.reads from by first | rfl | (unfold cntX; omega)), (show (marksT ((k + 6 * a.calls.length) + 3 * a.answers.length) a.touch).writes = (marksX k a).touch.writes from by first | rfl | (unfold cntX; omega)), (show (marksOf markI (((k + 6 * a.calls.length) + 3 * a.answers.length) + cntT a.touch) a.marks.length) = (marksX k a).marks from by first | rfl | (unfold cntX; omega))]; all_goals rfl))⟩
theorem laws_heldTx_c {w : World} {H : Nat → Prop} {a : TxD} {Q3 : Option Addr} {Q5 Q4 : Nat} {Q0 : Option Addr} {Q2 Q1 : Nat} {a_Ra : Option Addr} {a_Rn a_Rc : Nat} {a_Wa : Option Addr} {a_Wn a_Wc : Nat} {Q6 : Option Addr} {Q8 Q7 : Nat} {k : Nat} {d : TxD} (Q21 : i64ok a.id) (Q19 : i64ok a.age) (Q22 : i64ok a.proc) (Q20 : i64ok a.began) (Q10 : Rd 6 encK okK H w (.slice Q3 Q5 Q4) a.calls) (Q9 : Rd 3 encR okR H w (.slice Q0 Q2 Q1) a.answers) (Q12 : Rd 1 encS okS H w (.slice a_Ra a_Rn a_Rc) a.touch.reads) (Q13 : Rd 1 encS okS H w (.slice a_Wa a_Wn a_Wc) a.touch.writes) (Q11 : Rd 1 encI okI H w (.slice Q6 Q8 Q7) a.marks) (Q23 : i64ok a.state) (h_k : i64ok (k : Int)) (p0 : a = marksX k d) (p1 : k ≤ 1048576) (p2 : d.calls.length ≤ 2097152) (p3 : d.answers.length ≤ 2097152) (p4 : d.touch.reads.length ≤ 2097152) (p5 : d.touch.writes.length ≤ 2097152) (p6 : d.marks.length ≤ 2097152) :
    Calls Try.prog 10 #[.agg #[.int .i64 a.id, .int .i64 a.age, .int .i64 a.proc, .int .i64 a.began, .slice Q3 Q5 Q4, .slice Q0 Q2 Q1, .slice a_Ra a_Rn a_Rc, .slice a_Wa a_Wn a_Wc, .slice Q6 Q8 Q7, .int .i64 a.state], .int .i64 ((k : Nat) : Int)] w fun e w' => e = .returned (.int .i64 ((k + cntX d : Nat) : Int)) ∧ Mv [] w [] w' := by
 have uU : True := (fun _ _ _ _ _ _ _ _ _ _ _ _ => trivial) Q21 Q19 Q22 Q20 Q23 h_k p1 p2 p3 p4 p5 p6
 clear uU
 have Q15 : Rd 6 encK okK (V H w []) w (.slice Q3 Q5 Q4) a.calls := Rd.start Q10 (fun _ _ => fps_nil _)
 obtain ⟨Q30, Q25, Q35, Q40⟩ := Rd.inv Q10
 have Q14 : Rd 3 encR okR (V H w []) w (.slice Q0 Q2 Q1) a.answers := Rd.start Q9 (fun _ _ => fps_nil _)
 obtain ⟨Q29, Q24, Q34, Q39⟩ := Rd.inv Q9
 have Q17 : Rd 1 encS okS (V H w []) w (.slice a_Ra a_Rn a_Rc) a.touch.reads := Rd.start Q12 (fun _ _ => fps_nil _)
 obtain ⟨Q32, Q27, Q37, Q42⟩ := Rd.inv Q12
 have Q18 : Rd 1 encS okS (V H w []) w (.slice a_Wa a_Wn a_Wc) a.touch.writes := Rd.start Q13 (fun _ _ => fps_nil _)
 obtain ⟨Q33, Q28, Q38, Q43⟩ := Rd.inv Q13
 have Q16 : Rd 1 encI okI (V H w []) w (.slice Q6 Q8 Q7) a.marks := Rd.start Q11 (fun _ _ => fps_nil _)
 obtain ⟨Q31, Q26, Q36, Q41⟩ := Rd.inv Q11
 refine calls_enter 30 Try.func10 rfl Try.ntmps10 (Nat.le_of_ble_eq_true rfl) (fun _ F0i => ?_)
 have F0 : Fr 30 [(0, .agg #[.int .i64 a.id, .int .i64 a.age, .int .i64 a.proc, .int .i64 a.began, .slice Q3 Q5 Q4, .slice Q0 Q2 Q1, .slice a_Ra a_Rn a_Rc, .slice a_Wa a_Wn a_Wc, .slice Q6 Q8 Q7, .int .i64 a.state]), (1, .int .i64 ((k : Nat) : Int))] _ := F0i
 clear F0i
 refine wp_seq (wp_region_lit (l_op (f_box F0 (At.nil w) rfl rfl rfl (F0.ev 0 rfl) rfl rfl fun b1 _ w1 F2 S1 => ?_)))
 refine l_op (f_val F2 rfl rfl (r_assign rfl rfl) rfl fun _ F3 => ?_)
 have F4 : Fr 30 [(4, .int .i64 0), (2, .pointer (some ⟨b1, 0, none⟩)), (1, .int .i64 ((k : Nat) : Int))] _ := F3.cut rfl
 clear F0 F2 F3
 have T5 : Mv _ _ [bx b1 [.int .i64 a.id, .int .i64 a.age, .int .i64 a.proc, .int .i64 a.began, .slice Q3 Q5 Q4, .slice Q0 Q2 Q1, .slice a_Ra a_Rn a_Rc, .slice a_Wa a_Wn a_Wc, .slice Q6 Q8 Q7, .int .i64 a.state] 35] _ := S1
 refine s_end (x_normal (wp_seq (wp_region_lit (l_op (f_val F4 rfl rfl (r_field FI_35_4 rfl (F4.ev 2 rfl) rfl) rfl fun _ F6 => ?_)))))
 refine l_op (f_val (v := .slice Q3 Q5 Q4) F6 rfl rfl (r_loadB T5.at' 0 TI_31 rfl rfl (F6.ev 5 rfl) rfl rfl (fun _ => rfl) rfl) rfl fun _ F7 => ?_)
 refine l_op (f_mv F7 rfl rfl rfl rfl rfl fun _ F8 => ?_)
 refine l_op (f_call F8 CF_36 rfl rfl rfl rfl (lc (F8.ev 6 rfl) (lc (F8.ev 7 rfl) rfl)) (laws_heldCallS_c (n := d.calls.length) (a := a.calls) (k := k) (Rd.mv (Nat.succ_pos _) Q15 T5) ⟨by omega, by first | assumption | omega | (unfold cntT; omega)⟩ (by rw [p0]; rfl) (by first | assumption | omega | (unfold cntT; omega))) ?_)
 rintro _ w9 ⟨rfl, m9⟩
 refine ⟨_, rfl, fun _ F10 => ?_⟩
 have S9 := At.frame0 T5.at' m9
 clear m9
 refine l_op (f_as F10 rfl rfl rfl rfl rfl fun _ F11 => ?_)
 have F12 : Fr 30 [(1, .int .i64 ((k + 6 * d.calls.length : Nat) : Int)), (2, .pointer (some ⟨b1, 0, none⟩))] _ := F11.cut rfl
 clear F4 F6 F7 F8 F10 F11
 have T13 : Mv _ _ [bx b1 [.int .i64 a.id, .int .i64 a.age, .int .i64 a.proc, .int .i64 a.began, .slice Q3 Q5 Q4, .slice Q0 Q2 Q1, .slice a_Ra a_Rn a_Rc, .slice a_Wa a_Wn a_Wc, .slice Q6 Q8 Q7, .int .i64 a.state] 35] _ := S9
 refine s_end (x_normal (wp_seq (wp_seq (wp_region_lit (l_op (f_mv F12 rfl rfl rfl rfl rfl fun _ F14 => ?_))))))
 refine l_op (f_val F14 rfl rfl (r_cmp (b := false) (.inr (.inr (.inl rfl))) rfl (F14.ev 9 rfl) rfl (cmp_lt0 _ _ (by omega))) rfl fun _ F15 => ?_)
 have F16 : Fr 30 [(10, .bool false), (1, .int .i64 ((k + 6 * d.calls.length : Nat) : Int)), (2, .pointer (some ⟨b1, 0, none⟩))] _ := F15.cut rfl
 clear F12 F14 F15
 refine s_end (x_normal (wp_cond_false (F16.ev 10 rfl) (wp_skip (x_normal (wp_seq (wp_region_lit (l_op (f_val F16 rfl rfl (r_field FI_35_5 rfl (F16.ev 2 rfl) rfl) rfl fun _ F17 => ?_))))))))
 refine l_op (f_val (v := .slice Q0 Q2 Q1) F17 rfl rfl (r_loadB T13.at' 0 TI_32 rfl rfl (F17.ev 11 rfl) rfl rfl (fun _ => rfl) rfl) rfl fun _ F18 => ?_)
 refine l_op (f_mv F18 rfl rfl rfl rfl rfl fun _ F19 => ?_)
 refine l_op (f_call F19 CF_37 rfl rfl rfl rfl (lc (F19.ev 12 rfl) (lc (F19.ev 13 rfl) rfl)) (laws_heldAnswerS_c (n := d.answers.length) (a := a.answers) (k := k + 6 * d.calls.length) (Rd.mv (Nat.succ_pos _) Q14 (T5.trans T13)) ⟨by omega, by first | assumption | omega | (unfold cntT; omega)⟩ (by rw [p0]; rfl) (by first | assumption | omega | (unfold cntT; omega))) ?_)
 rintro _ w20 ⟨rfl, m20⟩
 refine ⟨_, rfl, fun _ F21 => ?_⟩
 have S20 := At.frame0 T13.at' m20
 clear m20
 refine l_op (f_as F21 rfl rfl rfl rfl rfl fun _ F22 => ?_)
 have F23 : Fr 30 [(1, .int .i64 (((k + 6 * d.calls.length) + 3 * d.answers.length : Nat) : Int)), (2, .pointer (some ⟨b1, 0, none⟩))] _ := F22.cut rfl
 clear F16 F17 F18 F19 F21 F22
 have T24 : Mv _ _ [bx b1 [.int .i64 a.id, .int .i64 a.age, .int .i64 a.proc, .int .i64 a.began, .slice Q3 Q5 Q4, .slice Q0 Q2 Q1, .slice a_Ra a_Rn a_Rc, .slice a_Wa a_Wn a_Wc, .slice Q6 Q8 Q7, .int .i64 a.state] 35] _ := S20
 refine s_end (x_normal (wp_seq (wp_seq (wp_region_lit (l_op (f_mv F23 rfl rfl rfl rfl rfl fun _ F25 => ?_))))))
 refine l_op (f_val F25 rfl rfl (r_cmp (b := false) (.inr (.inr (.inl rfl))) rfl (F25.ev 15 rfl) rfl (cmp_lt0 _ _ (by omega))) rfl fun _ F26 => ?_)
 have F27 : Fr 30 [(16, .bool false), (1, .int .i64 (((k + 6 * d.calls.length) + 3 * d.answers.length : Nat) : Int)), (2, .pointer (some ⟨b1, 0, none⟩))] _ := F26.cut rfl
 clear F23 F25 F26
 refine s_end (x_normal (wp_cond_false (F27.ev 16 rfl) (wp_skip (x_normal (wp_seq (wp_region_lit (l_op (f_val F27 rfl rfl (r_field FI_35_6 rfl (F27.ev 2 rfl) rfl) rfl fun _ F28 => ?_))))))))
 refine l_op (f_val (v := .agg #[.slice a_Ra a_Rn a_Rc, .slice a_Wa a_Wn a_Wc]) F28 rfl rfl (r_loadB T24.at' 0 TI_33 rfl rfl (F28.ev 17 rfl) rfl rfl (fun h => nomatch h) rfl) rfl fun _ F29 => ?_)
 refine l_op (f_mv F29 rfl rfl rfl rfl rfl fun _ F30 => ?_)
 refine l_op (f_call F30 CF_38 rfl rfl rfl rfl (lc (F30.ev 18 rfl) (lc (F30.ev 19 rfl) rfl)) (laws_heldTouch_c (d := d.touch) (a := a.touch) (k := (k + 6 * d.calls.length) + 3 * d.answers.length) (Rd.mv (Nat.succ_pos _) Q17 (T5.trans (T13.trans T24))) (Rd.mv (Nat.succ_pos _) Q18 (T5.trans (T13.trans T24))) ⟨by omega, by first | assumption | omega | (unfold cntT; omega)⟩ (by rw [p0]; rfl) (by first | assumption | omega | (unfold cntT; omega)) (by first | assumption | omega | (unfold cntT; omega)) (by first | assumption | omega | (unfold cntT; omega))) ?_)
 rintro _ w31 ⟨rfl, m31⟩
 refine ⟨_, rfl, fun _ F32 => ?_⟩
 have S31 := At.frame0 T24.at' m31
 clear m31
 refine l_op (f_as F32 rfl rfl rfl rfl rfl fun _ F33 => ?_)
 have F34 : Fr 30 [(1, .int .i64 ((((k + 6 * d.calls.length) + 3 * d.answers.length) + cntT d.touch : Nat) : Int)), (2, .pointer (some ⟨b1, 0, none⟩))] _ := F33.cut rfl
 clear F27 F28 F29 F30 F32 F33
 have T35 : Mv _ _ [bx b1 [.int .i64 a.id, .int .i64 a.age, .int .i64 a.proc, .int .i64 a.began, .slice Q3 Q5 Q4, .slice Q0 Q2 Q1, .slice a_Ra a_Rn a_Rc, .slice a_Wa a_Wn a_Wc, .slice Q6 Q8 Q7, .int .i64 a.state] 35] _ := S31
 refine s_end (x_normal (wp_seq (wp_seq (wp_region_lit (l_op (f_mv F34 rfl rfl rfl rfl rfl fun _ F36 => ?_))))))
 refine l_op (f_val F36 rfl rfl (r_cmp (b := false) (.inr (.inr (.inl rfl))) rfl (F36.ev 21 rfl) rfl (cmp_lt0 _ _ (by omega))) rfl fun _ F37 => ?_)
 have F38 : Fr 30 [(22, .bool false), (1, .int .i64 ((((k + 6 * d.calls.length) + 3 * d.answers.length) + cntT d.touch : Nat) : Int)), (2, .pointer (some ⟨b1, 0, none⟩))] _ := F37.cut rfl
 clear F34 F36 F37
 refine s_end (x_normal (wp_cond_false (F38.ev 22 rfl) (wp_skip (x_normal (wp_seq (wp_region_lit (l_op (f_val F38 rfl rfl (r_field FI_35_7 rfl (F38.ev 2 rfl) rfl) rfl fun _ F39 => ?_))))))))
 refine l_op (f_val (v := .slice Q6 Q8 Q7) F39 rfl rfl (r_loadB T35.at' 0 TI_27 rfl rfl (F39.ev 23 rfl) rfl rfl (fun _ => rfl) rfl) rfl fun _ F40 => ?_)
 refine l_op (f_mv F40 rfl rfl rfl rfl rfl fun _ F41 => ?_)
 refine l_op (f_call F41 CF_39 rfl rfl rfl rfl (lc (F41.ev 24 rfl) (lc (F41.ev 25 rfl) rfl)) (laws_heldIntS_c (n := d.marks.length) (a := a.marks) (k := ((k + 6 * d.calls.length) + 3 * d.answers.length) + cntT d.touch) (Rd.mv (Nat.succ_pos _) Q16 (T5.trans (T13.trans (T24.trans T35)))) ⟨by omega, by first | assumption | omega | (unfold cntT; omega)⟩ (by rw [p0]; rfl) (by first | assumption | omega | (unfold cntT; omega))) ?_)
 rintro _ w42 ⟨rfl, m42⟩
 refine ⟨_, rfl, fun _ F43 => ?_⟩
 have S42 := At.frame0 T35.at' m42
 clear m42
 refine l_op (f_as F43 rfl rfl rfl rfl rfl fun _ F44 => ?_)
 have F45 : Fr 30 [(1, .int .i64 (((((k + 6 * d.calls.length) + 3 * d.answers.length) + cntT d.touch) + d.marks.length : Nat) : Int))] _ := F44.cut rfl
 clear F38 F39 F40 F41 F43 F44
 have T46 : Mv _ _ [bx b1 [.int .i64 a.id, .int .i64 a.age, .int .i64 a.proc, .int .i64 a.began, .slice Q3 Q5 Q4, .slice Q0 Q2 Q1, .slice a_Ra a_Rn a_Rc, .slice a_Wa a_Wn a_Wc, .slice Q6 Q8 Q7, .int .i64 a.state] 35] _ := S42
 refine s_end (x_normal (wp_seq (wp_seq (wp_region_lit (l_op (f_mv F45 rfl rfl rfl rfl rfl fun _ F47 => ?_))))))
 refine l_op (f_val F47 rfl rfl (r_cmp (b := false) (.inr (.inr (.inl rfl))) rfl (F47.ev 27 rfl) rfl (cmp_lt0 _ _ (by omega))) rfl fun _ F48 => ?_)
 have F49 : Fr 30 [(28, .bool false), (1, .int .i64 (((((k + 6 * d.calls.length) + 3 * d.answers.length) + cntT d.touch) + d.marks.length : Nat) : Int))] _ := F48.cut rfl
 clear F45 F47 F48
 refine s_end (x_normal (wp_cond_false (F49.ev 28 rfl) (wp_skip (x_normal (wp_seq (wp_region_lit (l_op (f_mv F49 rfl rfl rfl rfl rfl fun _ F50 => ?_))))))))
 refine l_op (f_as F50 rfl rfl rfl rfl rfl fun _ F51 => ?_)
 have F52 : Fr 30 [(4, .int .i64 (((((k + 6 * d.calls.length) + 3 * d.answers.length) + cntT d.touch) + d.marks.length : Nat) : Int))] _ := F51.cut rfl
 clear F49 F50 F51
 refine s_end (x_normal (wp_ret ?_))
 refine x_done (v := .int .i64 (((((k + 6 * d.calls.length) + 3 * d.answers.length) + cntT d.touch) + d.marks.length : Nat) : Int)) F52 (results_1 Try.results10 (.tmp (F52.ev 4 rfl))) ?_
 exact ⟨(by rw [(show (((((k + 6 * d.calls.length) + 3 * d.answers.length) + cntT d.touch) + d.marks.length : Nat) : Int) = ((k + cntX d : Nat) : Int) from by (unfold cntX; omega))]), (Mv.pick (T5.trans (T13.trans (T24.trans (T35.trans T46)))) [] rfl)⟩
end Go.Proofs.Ytkebmooffbkpgaa
