/-
  Walks: transactions in the laws' hands.
-/
import Derived.Test.YtgfilegkabbliaaGenXa
namespace Go.Proofs.Ytgfilegkabbliaa
open Go.ChangeShapes Go.WideShapes Go.ChangeAt Go.RowKit
set_option maxRecDepth 100000
set_option maxHeartbeats 1000000
theorem laws_szTx_c {w : World} {H : Nat → Prop} {a : TxD} {a_calls_a : Option Addr} {a_calls_n a_calls_c : Nat} {a_answers_a : Option Addr} {a_answers_n a_answers_c : Nat} {a_Ra : Option Addr} {a_Rn a_Rc : Nat} {a_Wa : Option Addr} {a_Wn a_Wc : Nat} {a_marks_a : Option Addr} {a_marks_n a_marks_c : Nat} {left : Int} (h_a_id : i64ok a.id) (h_a_age : i64ok a.age) (h_a_proc : i64ok a.proc) (h_a_began : i64ok a.began) (v_a_calls : RdA 6 encK okK H w (.slice a_calls_a a_calls_n a_calls_c) a.calls) (v_a_answers : RdA 3 encR okR H w (.slice a_answers_a a_answers_n a_answers_c) a.answers) (v_a_touch_reads : RdA 1 encS okS H w (.slice a_Ra a_Rn a_Rc) a.touch.reads) (v_a_touch_writes : RdA 1 encS okS H w (.slice a_Wa a_Wn a_Wc) a.touch.writes) (v_a_marks : RdA 1 encI okI H w (.slice a_marks_a a_marks_n a_marks_c) a.marks) (h_a_state : i64ok a.state) (h_left : i64ok left) (p0 : 0 ≤ left) (p1 : left ≤ 1048576) :
    Calls Try.prog 53 #[.agg #[.int .i64 a.id, .int .i64 a.age, .int .i64 a.proc, .int .i64 a.began, .slice a_calls_a a_calls_n a_calls_c, .slice a_answers_a a_answers_n a_answers_c, .slice a_Ra a_Rn a_Rc, .slice a_Wa a_Wn a_Wc, .slice a_marks_a a_marks_n a_marks_c, .int .i64 a.state], .int .i64 left] w fun e w' => e = .returned (.int .i64 (subOr left (szTxD a))) ∧ Mv [] w [] w' ∧ i64ok (subOr left (szTxD a)) := by
 have uU : True := (fun _ _ _ _ _ => trivial) h_a_id h_a_age h_a_proc h_a_began h_a_state
 clear uU
 have V_v_a_calls : RdA 6 encK okK (V H w []) w (.slice a_calls_a a_calls_n a_calls_c) a.calls := RdA.start v_a_calls (fun _ _ => fps_nil _)
 obtain ⟨ln_a_calls, le_a_calls, mx_a_calls, ni_a_calls⟩ := RdA.inv v_a_calls
 have V_v_a_answers : RdA 3 encR okR (V H w []) w (.slice a_answers_a a_answers_n a_answers_c) a.answers := RdA.start v_a_answers (fun _ _ => fps_nil _)
 obtain ⟨ln_a_answers, le_a_answers, mx_a_answers, ni_a_answers⟩ := RdA.inv v_a_answers
 have V_v_a_touch_reads : RdA 1 encS okS (V H w []) w (.slice a_Ra a_Rn a_Rc) a.touch.reads := RdA.start v_a_touch_reads (fun _ _ => fps_nil _)
 obtain ⟨ln_a_touch_reads, le_a_touch_reads, mx_a_touch_reads, ni_a_touch_reads⟩ := RdA.inv v_a_touch_reads
 have V_v_a_touch_writes : RdA 1 encS okS (V H w []) w (.slice a_Wa a_Wn a_Wc) a.touch.writes := RdA.start v_a_touch_writes (fun _ _ => fps_nil _)
 obtain ⟨ln_a_touch_writes, le_a_touch_writes, mx_a_touch_writes, ni_a_touch_writes⟩ := RdA.inv v_a_touch_writes
 have V_v_a_marks : RdA 1 encI okI (V H w []) w (.slice a_marks_a a_marks_n a_marks_c) a.marks := RdA.start v_a_marks (fun _ _ => fps_nil _)
 obtain ⟨ln_a_marks, le_a_marks, mx_a_marks, ni_a_marks⟩ := RdA.inv v_a_marks
 refine calls_enter 30 Try.func53 rfl Try.ntmps53 (Nat.le_of_ble_eq_true rfl) (fun _ F0i => ?_)
 have F0 : Fr 30 [(0, .agg #[.int .i64 a.id, .int .i64 a.age, .int .i64 a.proc, .int .i64 a.began, .slice a_calls_a a_calls_n a_calls_c, .slice a_answers_a a_answers_n a_answers_c, .slice a_Ra a_Rn a_Rc, .slice a_Wa a_Wn a_Wc, .slice a_marks_a a_marks_n a_marks_c, .int .i64 a.state]), (1, .int .i64 left)] _ := F0i
 clear F0i
 refine wp_seq (wp_region_lit (l_op (f_box F0 (At.nil w) rfl rfl rfl (F0.ev 0 rfl) rfl rfl fun b1 _ w1 F2 S1 => ?_)))
 refine l_op (f_val F2 rfl rfl (r_assign rfl rfl) rfl fun _ F3 => ?_)
 have F4 : Fr 30 [(4, .int .i64 0), (2, .pointer (some ⟨b1, 0, none⟩)), (1, .int .i64 left)] _ := F3.cut rfl
 clear F0 F2 F3
 have T5 : Mv _ _ [bx b1 [.int .i64 a.id, .int .i64 a.age, .int .i64 a.proc, .int .i64 a.began, .slice a_calls_a a_calls_n a_calls_c, .slice a_answers_a a_answers_n a_answers_c, .slice a_Ra a_Rn a_Rc, .slice a_Wa a_Wn a_Wc, .slice a_marks_a a_marks_n a_marks_c, .int .i64 a.state] 93] _ := S1
 refine s_end (x_normal (wp_seq (wp_region_lit (l_op (f_val F4 rfl rfl (r_field FI_93_4 rfl (F4.ev 2 rfl) rfl) rfl fun _ F6 => ?_)))))
 refine l_op (f_val (v := .slice a_calls_a a_calls_n a_calls_c) F6 rfl rfl (r_loadB T5.at' 0 TI_89 rfl rfl (F6.ev 5 rfl) rfl rfl (fun _ => rfl) rfl) rfl fun _ F7 => ?_)
 refine l_op (f_mv F7 rfl rfl rfl rfl rfl fun _ F8 => ?_)
 refine l_op (f_call F8 CF_109 rfl rfl rfl rfl (lc (F8.ev 6 rfl) (lc (F8.ev 7 rfl) rfl)) (laws_szCallS_c (a := a.calls) (left := left) (RdA.mv (Nat.succ_pos _) V_v_a_calls T5) h_left (by first | assumption | omega | (simp <;> omega)) (by first | assumption | omega | (simp <;> omega))) ?_)
 rintro _ w9 ⟨rfl, m9, q9_0⟩
 refine ⟨_, rfl, fun _ F10 => ?_⟩
 have S9 := At.frame0 T5.at' m9
 clear m9
 refine l_op (f_as F10 rfl rfl rfl rfl rfl fun _ F11 => ?_)
 have F12 : Fr 30 [(1, .int .i64 (subOr left (szCalls a.calls))), (2, .pointer (some ⟨b1, 0, none⟩))] _ := F11.cut rfl
 clear F4 F6 F7 F8 F10 F11
 have T13 : Mv _ _ [bx b1 [.int .i64 a.id, .int .i64 a.age, .int .i64 a.proc, .int .i64 a.began, .slice a_calls_a a_calls_n a_calls_c, .slice a_answers_a a_answers_n a_answers_c, .slice a_Ra a_Rn a_Rc, .slice a_Wa a_Wn a_Wc, .slice a_marks_a a_marks_n a_marks_c, .int .i64 a.state] 93] _ := S9
 refine s_end (x_normal (wp_seq (wp_seq (wp_region_lit (l_op (f_mv F12 rfl rfl rfl rfl rfl fun _ F14 => ?_))))))
 refine l_op (f_val F14 rfl rfl (r_cmp (b := decide ((subOr left (szCalls a.calls)) < 0)) (.inr (.inr (.inl rfl))) rfl (F14.ev 9 rfl) rfl (dec_of (by omega))) rfl fun _ F15 => ?_)
 have F16 : Fr 30 [(10, .bool (decide ((subOr left (szCalls a.calls)) < 0))), (1, .int .i64 (subOr left (szCalls a.calls))), (2, .pointer (some ⟨b1, 0, none⟩))] _ := F15.cut rfl
 clear F12 F14 F15
 refine s_end (x_normal (x_cond (p := (subOr left (szCalls a.calls)) < 0) (F16.ev 10 rfl) (fun h17 => ?_) (fun h17 => ?_)))
 · skip
   refine wp_seq (wp_region_lit (l_op (f_val F16 rfl rfl (r_assign rfl rfl) rfl fun _ F18 => ?_)))
   have F19 : Fr 30 [(4, .int .i64 (-1))] _ := F18.cut rfl
   clear F16 F18
   refine s_end (x_normal (wp_ret (x_then_ret ?_)))
   refine x_done (v := .int .i64 (-1)) F19 (results_1 Try.results53 (.tmp (F19.ev 4 rfl))) ?_
   exact ⟨(by rw [(show (-1) = (subOr left (szTxD a)) from by unfold szTxD; first | exact sz4_a (by assumption) | exact sz4_b (by assumption) (by assumption) | exact sz4_c (by assumption) (by assumption) (by assumption) | exact sz4_d (by assumption) (by assumption) (by assumption) | (rw [← sz4_d (by assumption) (by assumption) (by assumption)]; exact subOr_neg1 (by assumption)))]), (Mv.pick (T5.trans T13) [] rfl), subOr_i64 p0 p1⟩
 · skip
   refine wp_skip (x_normal (wp_seq (wp_region_lit (l_op (f_val F16 rfl rfl (r_field FI_93_5 rfl (F16.ev 2 rfl) rfl) rfl fun _ F20 => ?_)))))
   refine l_op (f_val (v := .slice a_answers_a a_answers_n a_answers_c) F20 rfl rfl (r_loadB T13.at' 0 TI_90 rfl rfl (F20.ev 11 rfl) rfl rfl (fun _ => rfl) rfl) rfl fun _ F21 => ?_)
   refine l_op (f_mv F21 rfl rfl rfl rfl rfl fun _ F22 => ?_)
   refine l_op (f_call F22 CF_110 rfl rfl rfl rfl (lc (F22.ev 12 rfl) (lc (F22.ev 13 rfl) rfl)) (laws_szAnswerS_c (a := a.answers) (left := (subOr left (szCalls a.calls))) (RdA.mv (Nat.succ_pos _) V_v_a_answers (T5.trans T13)) (by first | assumption | exact ⟨by omega, by omega⟩ | (unfold i64ok at *; omega)) (by first | assumption | omega | (simp <;> omega)) (by have q1 := subOr_bd left (szCalls a.calls) p0; omega)) ?_)
   rintro _ w23 ⟨rfl, m23, q23_0⟩
   refine ⟨_, rfl, fun _ F24 => ?_⟩
   have S23 := At.frame0 T13.at' m23
   clear m23
   refine l_op (f_as F24 rfl rfl rfl rfl rfl fun _ F25 => ?_)
   have F26 : Fr 30 [(1, .int .i64 (subOr (subOr left (szCalls a.calls)) (szAnss a.answers))), (2, .pointer (some ⟨b1, 0, none⟩))] _ := F25.cut rfl
   clear F16 F20 F21 F22 F24 F25
   have T27 : Mv _ _ [bx b1 [.int .i64 a.id, .int .i64 a.age, .int .i64 a.proc, .int .i64 a.began, .slice a_calls_a a_calls_n a_calls_c, .slice a_answers_a a_answers_n a_answers_c, .slice a_Ra a_Rn a_Rc, .slice a_Wa a_Wn a_Wc, .slice a_marks_a a_marks_n a_marks_c, .int .i64 a.state] 93] _ := S23
   refine s_end (x_normal (wp_seq (wp_seq (wp_region_lit (l_op (f_mv F26 rfl rfl rfl rfl rfl fun _ F28 => ?_))))))
   refine l_op (f_val F28 rfl rfl (r_cmp (b := decide ((subOr (subOr left (szCalls a.calls)) (szAnss a.answers)) < 0)) (.inr (.inr (.inl rfl))) rfl (F28.ev 15 rfl) rfl (dec_of (by omega))) rfl fun _ F29 => ?_)
   have F30 : Fr 30 [(16, .bool (decide ((subOr (subOr left (szCalls a.calls)) (szAnss a.answers)) < 0))), (1, .int .i64 (subOr (subOr left (szCalls a.calls)) (szAnss a.answers))), (2, .pointer (some ⟨b1, 0, none⟩))] _ := F29.cut rfl
   clear F26 F28 F29
   refine s_end (x_normal (x_cond (p := (subOr (subOr left (szCalls a.calls)) (szAnss a.answers)) < 0) (F30.ev 16 rfl) (fun h31 => ?_) (fun h31 => ?_)))
   · skip
     refine wp_seq (wp_region_lit (l_op (f_val F30 rfl rfl (r_assign rfl rfl) rfl fun _ F32 => ?_)))
     have F33 : Fr 30 [(4, .int .i64 (-1))] _ := F32.cut rfl
     clear F30 F32
     refine s_end (x_normal (wp_ret (x_then_ret ?_)))
     refine x_done (v := .int .i64 (-1)) F33 (results_1 Try.results53 (.tmp (F33.ev 4 rfl))) ?_
     exact ⟨(by rw [(show (-1) = (subOr left (szTxD a)) from by unfold szTxD; first | exact sz4_a (by assumption) | exact sz4_b (by assumption) (by assumption) | exact sz4_c (by assumption) (by assumption) (by assumption) | exact sz4_d (by assumption) (by assumption) (by assumption) | (rw [← sz4_d (by assumption) (by assumption) (by assumption)]; exact subOr_neg1 (by assumption)))]), (Mv.pick (T5.trans (T13.trans T27)) [] rfl), subOr_i64 p0 p1⟩
   · skip
     refine wp_skip (x_normal (wp_seq (wp_region_lit (l_op (f_val F30 rfl rfl (r_field FI_93_6 rfl (F30.ev 2 rfl) rfl) rfl fun _ F34 => ?_)))))
     refine l_op (f_val (v := .agg #[.slice a_Ra a_Rn a_Rc, .slice a_Wa a_Wn a_Wc]) F34 rfl rfl (r_loadB T27.at' 0 TI_91 rfl rfl (F34.ev 17 rfl) rfl rfl (fun h => nomatch h) rfl) rfl fun _ F35 => ?_)
     refine l_op (f_mv F35 rfl rfl rfl rfl rfl fun _ F36 => ?_)
     refine l_op (f_call F36 CF_111 rfl rfl rfl rfl (lc (F36.ev 18 rfl) (lc (F36.ev 19 rfl) rfl)) (laws_szTouch_c (a := a.touch) (left := (subOr (subOr left (szCalls a.calls)) (szAnss a.answers))) (RdA.mv (Nat.succ_pos _) V_v_a_touch_reads (T5.trans (T13.trans T27))) (RdA.mv (Nat.succ_pos _) V_v_a_touch_writes (T5.trans (T13.trans T27))) (by first | assumption | exact ⟨by omega, by omega⟩ | (unfold i64ok at *; omega)) (by first | assumption | omega | (simp <;> omega)) (by have q1 := subOr_bd left (szCalls a.calls) p0; have q2 := subOr_bd (subOr left (szCalls a.calls)) (szAnss a.answers) (by omega); omega)) ?_)
     rintro _ w37 ⟨rfl, m37, q37_0⟩
     refine ⟨_, rfl, fun _ F38 => ?_⟩
     have S37 := At.frame0 T27.at' m37
     clear m37
     refine l_op (f_as F38 rfl rfl rfl rfl rfl fun _ F39 => ?_)
     have F40 : Fr 30 [(1, .int .i64 (subOr (subOr (subOr left (szCalls a.calls)) (szAnss a.answers)) (szTouchD a.touch))), (2, .pointer (some ⟨b1, 0, none⟩))] _ := F39.cut rfl
     clear F30 F34 F35 F36 F38 F39
     have T41 : Mv _ _ [bx b1 [.int .i64 a.id, .int .i64 a.age, .int .i64 a.proc, .int .i64 a.began, .slice a_calls_a a_calls_n a_calls_c, .slice a_answers_a a_answers_n a_answers_c, .slice a_Ra a_Rn a_Rc, .slice a_Wa a_Wn a_Wc, .slice a_marks_a a_marks_n a_marks_c, .int .i64 a.state] 93] _ := S37
     refine s_end (x_normal (wp_seq (wp_seq (wp_region_lit (l_op (f_mv F40 rfl rfl rfl rfl rfl fun _ F42 => ?_))))))
     refine l_op (f_val F42 rfl rfl (r_cmp (b := decide ((subOr (subOr (subOr left (szCalls a.calls)) (szAnss a.answers)) (szTouchD a.touch)) < 0)) (.inr (.inr (.inl rfl))) rfl (F42.ev 21 rfl) rfl (dec_of (by omega))) rfl fun _ F43 => ?_)
     have F44 : Fr 30 [(22, .bool (decide ((subOr (subOr (subOr left (szCalls a.calls)) (szAnss a.answers)) (szTouchD a.touch)) < 0))), (1, .int .i64 (subOr (subOr (subOr left (szCalls a.calls)) (szAnss a.answers)) (szTouchD a.touch))), (2, .pointer (some ⟨b1, 0, none⟩))] _ := F43.cut rfl
     clear F40 F42 F43
     refine s_end (x_normal (x_cond (p := (subOr (subOr (subOr left (szCalls a.calls)) (szAnss a.answers)) (szTouchD a.touch)) < 0) (F44.ev 22 rfl) (fun h45 => ?_) (fun h45 => ?_)))
     · skip
       refine wp_seq (wp_region_lit (l_op (f_val F44 rfl rfl (r_assign rfl rfl) rfl fun _ F46 => ?_)))
       have F47 : Fr 30 [(4, .int .i64 (-1))] _ := F46.cut rfl
       clear F44 F46
       refine s_end (x_normal (wp_ret (x_then_ret ?_)))
       refine x_done (v := .int .i64 (-1)) F47 (results_1 Try.results53 (.tmp (F47.ev 4 rfl))) ?_
       exact ⟨(by rw [(show (-1) = (subOr left (szTxD a)) from by unfold szTxD; first | exact sz4_a (by assumption) | exact sz4_b (by assumption) (by assumption) | exact sz4_c (by assumption) (by assumption) (by assumption) | exact sz4_d (by assumption) (by assumption) (by assumption) | (rw [← sz4_d (by assumption) (by assumption) (by assumption)]; exact subOr_neg1 (by assumption)))]), (Mv.pick (T5.trans (T13.trans (T27.trans T41))) [] rfl), subOr_i64 p0 p1⟩
     · skip
       refine wp_skip (x_normal (wp_seq (wp_region_lit (l_op (f_val F44 rfl rfl (r_field FI_93_7 rfl (F44.ev 2 rfl) rfl) rfl fun _ F48 => ?_)))))
       refine l_op (f_val (v := .slice a_marks_a a_marks_n a_marks_c) F48 rfl rfl (r_loadB T41.at' 0 TI_53 rfl rfl (F48.ev 23 rfl) rfl rfl (fun _ => rfl) rfl) rfl fun _ F49 => ?_)
       refine l_op (f_mv F49 rfl rfl rfl rfl rfl fun _ F50 => ?_)
       refine l_op (f_call F50 CF_112 rfl rfl rfl rfl (lc (F50.ev 24 rfl) (lc (F50.ev 25 rfl) rfl)) (laws_szIntS_c (a := a.marks) (left := (subOr (subOr (subOr left (szCalls a.calls)) (szAnss a.answers)) (szTouchD a.touch))) (RdA.mv (Nat.succ_pos _) V_v_a_marks (T5.trans (T13.trans (T27.trans T41)))) (by first | assumption | exact ⟨by omega, by omega⟩ | (unfold i64ok at *; omega)) (by first | assumption | omega | (simp <;> omega)) (by have q1 := subOr_bd left (szCalls a.calls) p0; have q2 := subOr_bd (subOr left (szCalls a.calls)) (szAnss a.answers) (by omega); have q3 := subOr_bd (subOr (subOr left (szCalls a.calls)) (szAnss a.answers)) (szTouchD a.touch) (by omega); omega)) ?_)
       rintro _ w51 ⟨rfl, m51, q51_0⟩
       refine ⟨_, rfl, fun _ F52 => ?_⟩
       have S51 := At.frame0 T41.at' m51
       clear m51
       refine l_op (f_as F52 rfl rfl rfl rfl rfl fun _ F53 => ?_)
       have F54 : Fr 30 [(1, .int .i64 (subOr (subOr (subOr (subOr left (szCalls a.calls)) (szAnss a.answers)) (szTouchD a.touch)) a.marks.length))] _ := F53.cut rfl
       clear F44 F48 F49 F50 F52 F53
       have T55 : Mv _ _ [bx b1 [.int .i64 a.id, .int .i64 a.age, .int .i64 a.proc, .int .i64 a.began, .slice a_calls_a a_calls_n a_calls_c, .slice a_answers_a a_answers_n a_answers_c, .slice a_Ra a_Rn a_Rc, .slice a_Wa a_Wn a_Wc, .slice a_marks_a a_marks_n a_marks_c, .int .i64 a.state] 93] _ := S51
       refine s_end (x_normal (wp_seq (wp_seq (wp_region_lit (l_op (f_mv F54 rfl rfl rfl rfl rfl fun _ F56 => ?_))))))
       refine l_op (f_val F56 rfl rfl (r_cmp (b := decide ((subOr (subOr (subOr (subOr left (szCalls a.calls)) (szAnss a.answers)) (szTouchD a.touch)) a.marks.length) < 0)) (.inr (.inr (.inl rfl))) rfl (F56.ev 27 rfl) rfl (dec_of (by omega))) rfl fun _ F57 => ?_)
       have F58 : Fr 30 [(28, .bool (decide ((subOr (subOr (subOr (subOr left (szCalls a.calls)) (szAnss a.answers)) (szTouchD a.touch)) a.marks.length) < 0))), (1, .int .i64 (subOr (subOr (subOr (subOr left (szCalls a.calls)) (szAnss a.answers)) (szTouchD a.touch)) a.marks.length))] _ := F57.cut rfl
       clear F54 F56 F57
       refine s_end (x_normal (x_cond (p := (subOr (subOr (subOr (subOr left (szCalls a.calls)) (szAnss a.answers)) (szTouchD a.touch)) a.marks.length) < 0) (F58.ev 28 rfl) (fun h59 => ?_) (fun h59 => ?_)))
       · skip
         refine wp_seq (wp_region_lit (l_op (f_val F58 rfl rfl (r_assign rfl rfl) rfl fun _ F60 => ?_)))
         have F61 : Fr 30 [(4, .int .i64 (-1))] _ := F60.cut rfl
         clear F58 F60
         refine s_end (x_normal (wp_ret (x_then_ret ?_)))
         refine x_done (v := .int .i64 (-1)) F61 (results_1 Try.results53 (.tmp (F61.ev 4 rfl))) ?_
         exact ⟨(by rw [(show (-1) = (subOr left (szTxD a)) from by unfold szTxD; first | exact sz4_a (by assumption) | exact sz4_b (by assumption) (by assumption) | exact sz4_c (by assumption) (by assumption) (by assumption) | exact sz4_d (by assumption) (by assumption) (by assumption) | (rw [← sz4_d (by assumption) (by assumption) (by assumption)]; exact subOr_neg1 (by assumption)))]), (Mv.pick (T5.trans (T13.trans (T27.trans (T41.trans T55)))) [] rfl), subOr_i64 p0 p1⟩
       · skip
         refine wp_skip (x_normal (wp_seq (wp_region_lit (l_op (f_mv F58 rfl rfl rfl rfl rfl fun _ F62 => ?_)))))
         refine l_op (f_as F62 rfl rfl rfl rfl rfl fun _ F63 => ?_)
         have F64 : Fr 30 [(4, .int .i64 (subOr (subOr (subOr (subOr left (szCalls a.calls)) (szAnss a.answers)) (szTouchD a.touch)) a.marks.length))] _ := F63.cut rfl
         clear F58 F62 F63
         refine s_end (x_normal (wp_ret ?_))
         refine x_done (v := .int .i64 (subOr (subOr (subOr (subOr left (szCalls a.calls)) (szAnss a.answers)) (szTouchD a.touch)) a.marks.length)) F64 (results_1 Try.results53 (.tmp (F64.ev 4 rfl))) ?_
         exact ⟨(by rw [(show (subOr (subOr (subOr (subOr left (szCalls a.calls)) (szAnss a.answers)) (szTouchD a.touch)) a.marks.length) = (subOr left (szTxD a)) from by unfold szTxD; first | exact sz4_a (by assumption) | exact sz4_b (by assumption) (by assumption) | exact sz4_c (by assumption) (by assumption) (by assumption) | exact sz4_d (by assumption) (by assumption) (by assumption) | (rw [← sz4_d (by assumption) (by assumption) (by assumption)]; exact subOr_neg1 (by assumption)))]), (Mv.pick (T5.trans (T13.trans (T27.trans (T41.trans T55)))) [] rfl), subOr_i64 p0 p1⟩
theorem laws_toTx_c {w : World} {H : Nat → Prop} {a : TxD} {a_calls_a : Option Addr} {a_calls_n a_calls_c : Nat} {a_answers_a : Option Addr} {a_answers_n a_answers_c : Nat} {a_Ra : Option Addr} {a_Rn a_Rc : Nat} {a_Wa : Option Addr} {a_Wn a_Wc : Nat} {a_marks_a : Option Addr} {a_marks_n a_marks_c : Nat} (h_a_id : i64ok a.id) (h_a_age : i64ok a.age) (h_a_proc : i64ok a.proc) (h_a_began : i64ok a.began) (v_a_calls : RdA 6 encK okK H w (.slice a_calls_a a_calls_n a_calls_c) a.calls) (v_a_answers : RdA 3 encR okR H w (.slice a_answers_a a_answers_n a_answers_c) a.answers) (v_a_touch_reads : RdA 1 encS okS H w (.slice a_Ra a_Rn a_Rc) a.touch.reads) (v_a_touch_writes : RdA 1 encS okS H w (.slice a_Wa a_Wn a_Wc) a.touch.writes) (v_a_marks : RdA 1 encI okI H w (.slice a_marks_a a_marks_n a_marks_c) a.marks) (h_a_state : i64ok a.state) (p0 : a.calls.length ≤ 1048576) (p1 : a.answers.length ≤ 1048576) (p2 : a.touch.reads.length ≤ 1048576) (p3 : a.touch.writes.length ≤ 1048576) (p4 : a.marks.length ≤ 1048576) :
    Calls Try.prog 55 #[.agg #[.int .i64 a.id, .int .i64 a.age, .int .i64 a.proc, .int .i64 a.began, .slice a_calls_a a_calls_n a_calls_c, .slice a_answers_a a_answers_n a_answers_c, .slice a_Ra a_Rn a_Rc, .slice a_Wa a_Wn a_Wc, .slice a_marks_a a_marks_n a_marks_c, .int .i64 a.state]] w fun e w' => ∃ (r0_calls_a : Option Addr), ∃ (r0_calls_n : Nat), ∃ (r0_calls_c : Nat), ∃ (r0_answers_a : Option Addr), ∃ (r0_answers_n : Nat), ∃ (r0_answers_c : Nat), ∃ (r0_Ra : Option Addr), ∃ (r0_Rn : Nat), ∃ (r0_Rc : Nat), ∃ (r0_Wa : Option Addr), ∃ (r0_Wn : Nat), ∃ (r0_Wc : Nat), ∃ (r0_marks_a : Option Addr), ∃ (r0_marks_n : Nat), ∃ (r0_marks_c : Nat), e = .returned (.agg #[.int .i64 a.id, .int .i64 a.age, .int .i64 a.proc, .int .i64 a.began, .slice r0_calls_a r0_calls_n r0_calls_c, .slice r0_answers_a r0_answers_n r0_answers_c, .slice r0_Ra r0_Rn r0_Rc, .slice r0_Wa r0_Wn r0_Wc, .slice r0_marks_a r0_marks_n r0_marks_c, .int .i64 a.state]) ∧ Mv [] w [ow 148 6 encK okK (.slice r0_calls_a r0_calls_n r0_calls_c) a.calls, ow 151 3 encR okR (.slice r0_answers_a r0_answers_n r0_answers_c) a.answers, ow 9 1 encS okS (.slice r0_Ra r0_Rn r0_Rc) a.touch.reads, ow 9 1 encS okS (.slice r0_Wa r0_Wn r0_Wc) a.touch.writes, ow 3 1 encI okI (.slice r0_marks_a r0_marks_n r0_marks_c) a.marks] w' := by
 have uU : True := (fun _ _ _ _ _ _ _ _ _ _ => trivial) h_a_id h_a_age h_a_proc h_a_began h_a_state p0 p1 p2 p3 p4
 clear uU
 have V_v_a_calls : RdA 6 encK okK (V H w []) w (.slice a_calls_a a_calls_n a_calls_c) a.calls := RdA.start v_a_calls (fun _ _ => fps_nil _)
 obtain ⟨ln_a_calls, le_a_calls, mx_a_calls, ni_a_calls⟩ := RdA.inv v_a_calls
 have V_v_a_answers : RdA 3 encR okR (V H w []) w (.slice a_answers_a a_answers_n a_answers_c) a.answers := RdA.start v_a_answers (fun _ _ => fps_nil _)
 obtain ⟨ln_a_answers, le_a_answers, mx_a_answers, ni_a_answers⟩ := RdA.inv v_a_answers
 have V_v_a_touch_reads : RdA 1 encS okS (V H w []) w (.slice a_Ra a_Rn a_Rc) a.touch.reads := RdA.start v_a_touch_reads (fun _ _ => fps_nil _)
 obtain ⟨ln_a_touch_reads, le_a_touch_reads, mx_a_touch_reads, ni_a_touch_reads⟩ := RdA.inv v_a_touch_reads
 have V_v_a_touch_writes : RdA 1 encS okS (V H w []) w (.slice a_Wa a_Wn a_Wc) a.touch.writes := RdA.start v_a_touch_writes (fun _ _ => fps_nil _)
 obtain ⟨ln_a_touch_writes, le_a_touch_writes, mx_a_touch_writes, ni_a_touch_writes⟩ := RdA.inv v_a_touch_writes
 have V_v_a_marks : RdA 1 encI okI (V H w []) w (.slice a_marks_a a_marks_n a_marks_c) a.marks := RdA.start v_a_marks (fun _ _ => fps_nil _)
 obtain ⟨ln_a_marks, le_a_marks, mx_a_marks, ni_a_marks⟩ := RdA.inv v_a_marks
 refine calls_enter 36 Try.func55 rfl Try.ntmps55 (Nat.le_of_ble_eq_true rfl) (fun _ F0i => ?_)
 have F0 : Fr 36 [(0, .agg #[.int .i64 a.id, .int .i64 a.age, .int .i64 a.proc, .int .i64 a.began, .slice a_calls_a a_calls_n a_calls_c, .slice a_answers_a a_answers_n a_answers_c, .slice a_Ra a_Rn a_Rc, .slice a_Wa a_Wn a_Wc, .slice a_marks_a a_marks_n a_marks_c, .int .i64 a.state])] _ := F0i
 clear F0i
 refine wp_seq (wp_region_lit (l_op (f_box F0 (At.nil w) rfl rfl rfl (F0.ev 0 rfl) rfl rfl fun b1 _ w1 F2 S1 => ?_)))
 refine l_op (f_alloc F2 S1.at' ZI_71 rfl rfl rfl rfl rfl fun b3 _ w3 F4 S3 => ?_)
 have F5 : Fr 36 [(2, .pointer (some ⟨b3, 0, none⟩)), (1, .pointer (some ⟨b1, 0, none⟩))] _ := F4.cut rfl
 clear F0 F2 F4
 have T6 : Mv _ _ [bx b3 [.int .i64 0, .int .i64 0, .int .i64 0, .int .i64 0, .slice none 0 0, .slice none 0 0, .slice none 0 0, .slice none 0 0, .slice none 0 0, .int .i64 0] 71, bx b1 [.int .i64 a.id, .int .i64 a.age, .int .i64 a.proc, .int .i64 a.began, .slice a_calls_a a_calls_n a_calls_c, .slice a_answers_a a_answers_n a_answers_c, .slice a_Ra a_Rn a_Rc, .slice a_Wa a_Wn a_Wc, .slice a_marks_a a_marks_n a_marks_c, .int .i64 a.state] 93] _ := S3
 refine s_end (x_normal (wp_seq (wp_region_lit (l_op (f_alloc F5 T6.at' ZI_71 rfl rfl rfl rfl rfl fun b7 _ w7 F8 S7 => ?_)))))
 have F9 : Fr 36 [(3, .pointer (some ⟨b7, 0, none⟩)), (2, .pointer (some ⟨b3, 0, none⟩)), (1, .pointer (some ⟨b1, 0, none⟩))] _ := F8.cut rfl
 clear F5 F8
 have T10 : Mv _ _ [bx b7 [.int .i64 0, .int .i64 0, .int .i64 0, .int .i64 0, .slice none 0 0, .slice none 0 0, .slice none 0 0, .slice none 0 0, .slice none 0 0, .int .i64 0] 71, bx b3 [.int .i64 0, .int .i64 0, .int .i64 0, .int .i64 0, .slice none 0 0, .slice none 0 0, .slice none 0 0, .slice none 0 0, .slice none 0 0, .int .i64 0] 71, bx b1 [.int .i64 a.id, .int .i64 a.age, .int .i64 a.proc, .int .i64 a.began, .slice a_calls_a a_calls_n a_calls_c, .slice a_answers_a a_answers_n a_answers_c, .slice a_Ra a_Rn a_Rc, .slice a_Wa a_Wn a_Wc, .slice a_marks_a a_marks_n a_marks_c, .int .i64 a.state] 93] _ := S7
 refine s_end (x_normal (wp_seq (wp_region_lit (l_op (f_val F9 rfl rfl (r_field FI_93_0 rfl (F9.ev 1 rfl) rfl) rfl fun _ F11 => ?_)))))
 refine l_op (f_val (v := .int .i64 a.id) F11 rfl rfl (r_loadB T10.at' 2 TI_3 rfl rfl (F11.ev 4 rfl) rfl rfl (fun _ => rfl) rfl) rfl fun _ F12 => ?_)
 refine l_op (f_val F12 rfl rfl (r_field FI_71_0 rfl (F12.ev 3 rfl) rfl) rfl fun _ F13 => ?_)
 refine l_op (s_store T10.at' 0 TI_3 rfl rfl rfl rfl rfl (F13.ev 6 rfl) (F13.ev 5 rfl) rfl rfl rfl rfl rfl fun w14 S14 => ?_)
 have F15 : Fr 36 [(6, .pointer (some ⟨b7, 0, none⟩)), (5, .int .i64 a.id), (3, .pointer (some ⟨b7, 0, none⟩)), (2, .pointer (some ⟨b3, 0, none⟩)), (1, .pointer (some ⟨b1, 0, none⟩))] _ := F13.cut rfl
 clear F9 F11 F12 F13
 have T16 : Mv _ _ [bx b7 [.int .i64 a.id, .int .i64 0, .int .i64 0, .int .i64 0, .slice none 0 0, .slice none 0 0, .slice none 0 0, .slice none 0 0, .slice none 0 0, .int .i64 0] 71, bx b3 [.int .i64 0, .int .i64 0, .int .i64 0, .int .i64 0, .slice none 0 0, .slice none 0 0, .slice none 0 0, .slice none 0 0, .slice none 0 0, .int .i64 0] 71, bx b1 [.int .i64 a.id, .int .i64 a.age, .int .i64 a.proc, .int .i64 a.began, .slice a_calls_a a_calls_n a_calls_c, .slice a_answers_a a_answers_n a_answers_c, .slice a_Ra a_Rn a_Rc, .slice a_Wa a_Wn a_Wc, .slice a_marks_a a_marks_n a_marks_c, .int .i64 a.state] 93] _ := S14
 refine s_end (x_normal (wp_seq (wp_region_lit (l_op (f_val F15 rfl rfl (r_field FI_93_1 rfl (F15.ev 1 rfl) rfl) rfl fun _ F17 => ?_)))))
 refine l_op (f_val (v := .int .i64 a.age) F17 rfl rfl (r_loadB T16.at' 2 TI_3 rfl rfl (F17.ev 7 rfl) rfl rfl (fun _ => rfl) rfl) rfl fun _ F18 => ?_)
 refine l_op (f_val F18 rfl rfl (r_field FI_71_1 rfl (F18.ev 3 rfl) rfl) rfl fun _ F19 => ?_)
 refine l_op (s_store T16.at' 0 TI_3 rfl rfl rfl rfl rfl (F19.ev 9 rfl) (F19.ev 8 rfl) rfl rfl rfl rfl rfl fun w20 S20 => ?_)
 have F21 : Fr 36 [(9, .pointer (some ⟨b7, 1, none⟩)), (8, .int .i64 a.age), (3, .pointer (some ⟨b7, 0, none⟩)), (2, .pointer (some ⟨b3, 0, none⟩)), (1, .pointer (some ⟨b1, 0, none⟩))] _ := F19.cut rfl
 clear F15 F17 F18 F19
 have T22 : Mv _ _ [bx b7 [.int .i64 a.id, .int .i64 a.age, .int .i64 0, .int .i64 0, .slice none 0 0, .slice none 0 0, .slice none 0 0, .slice none 0 0, .slice none 0 0, .int .i64 0] 71, bx b3 [.int .i64 0, .int .i64 0, .int .i64 0, .int .i64 0, .slice none 0 0, .slice none 0 0, .slice none 0 0, .slice none 0 0, .slice none 0 0, .int .i64 0] 71, bx b1 [.int .i64 a.id, .int .i64 a.age, .int .i64 a.proc, .int .i64 a.began, .slice a_calls_a a_calls_n a_calls_c, .slice a_answers_a a_answers_n a_answers_c, .slice a_Ra a_Rn a_Rc, .slice a_Wa a_Wn a_Wc, .slice a_marks_a a_marks_n a_marks_c, .int .i64 a.state] 93] _ := S20
 refine s_end (x_normal (wp_seq (wp_region_lit (l_op (f_val F21 rfl rfl (r_field FI_93_2 rfl (F21.ev 1 rfl) rfl) rfl fun _ F23 => ?_)))))
 refine l_op (f_val (v := .int .i64 a.proc) F23 rfl rfl (r_loadB T22.at' 2 TI_3 rfl rfl (F23.ev 10 rfl) rfl rfl (fun _ => rfl) rfl) rfl fun _ F24 => ?_)
 refine l_op (f_val F24 rfl rfl (r_field FI_71_2 rfl (F24.ev 3 rfl) rfl) rfl fun _ F25 => ?_)
 refine l_op (s_store T22.at' 0 TI_3 rfl rfl rfl rfl rfl (F25.ev 12 rfl) (F25.ev 11 rfl) rfl rfl rfl rfl rfl fun w26 S26 => ?_)
 have F27 : Fr 36 [(12, .pointer (some ⟨b7, 2, none⟩)), (11, .int .i64 a.proc), (3, .pointer (some ⟨b7, 0, none⟩)), (2, .pointer (some ⟨b3, 0, none⟩)), (1, .pointer (some ⟨b1, 0, none⟩))] _ := F25.cut rfl
 clear F21 F23 F24 F25
 have T28 : Mv _ _ [bx b7 [.int .i64 a.id, .int .i64 a.age, .int .i64 a.proc, .int .i64 0, .slice none 0 0, .slice none 0 0, .slice none 0 0, .slice none 0 0, .slice none 0 0, .int .i64 0] 71, bx b3 [.int .i64 0, .int .i64 0, .int .i64 0, .int .i64 0, .slice none 0 0, .slice none 0 0, .slice none 0 0, .slice none 0 0, .slice none 0 0, .int .i64 0] 71, bx b1 [.int .i64 a.id, .int .i64 a.age, .int .i64 a.proc, .int .i64 a.began, .slice a_calls_a a_calls_n a_calls_c, .slice a_answers_a a_answers_n a_answers_c, .slice a_Ra a_Rn a_Rc, .slice a_Wa a_Wn a_Wc, .slice a_marks_a a_marks_n a_marks_c, .int .i64 a.state] 93] _ := S26
 refine s_end (x_normal (wp_seq (wp_region_lit (l_op (f_val F27 rfl rfl (r_field FI_93_3 rfl (F27.ev 1 rfl) rfl) rfl fun _ F29 => ?_)))))
 refine l_op (f_val (v := .int .i64 a.began) F29 rfl rfl (r_loadB T28.at' 2 TI_3 rfl rfl (F29.ev 13 rfl) rfl rfl (fun _ => rfl) rfl) rfl fun _ F30 => ?_)
 refine l_op (f_val F30 rfl rfl (r_field FI_71_3 rfl (F30.ev 3 rfl) rfl) rfl fun _ F31 => ?_)
 refine l_op (s_store T28.at' 0 TI_3 rfl rfl rfl rfl rfl (F31.ev 15 rfl) (F31.ev 14 rfl) rfl rfl rfl rfl rfl fun w32 S32 => ?_)
 have F33 : Fr 36 [(15, .pointer (some ⟨b7, 3, none⟩)), (14, .int .i64 a.began), (3, .pointer (some ⟨b7, 0, none⟩)), (2, .pointer (some ⟨b3, 0, none⟩)), (1, .pointer (some ⟨b1, 0, none⟩))] _ := F31.cut rfl
 clear F27 F29 F30 F31
 have T34 : Mv _ _ [bx b7 [.int .i64 a.id, .int .i64 a.age, .int .i64 a.proc, .int .i64 a.began, .slice none 0 0, .slice none 0 0, .slice none 0 0, .slice none 0 0, .slice none 0 0, .int .i64 0] 71, bx b3 [.int .i64 0, .int .i64 0, .int .i64 0, .int .i64 0, .slice none 0 0, .slice none 0 0, .slice none 0 0, .slice none 0 0, .slice none 0 0, .int .i64 0] 71, bx b1 [.int .i64 a.id, .int .i64 a.age, .int .i64 a.proc, .int .i64 a.began, .slice a_calls_a a_calls_n a_calls_c, .slice a_answers_a a_answers_n a_answers_c, .slice a_Ra a_Rn a_Rc, .slice a_Wa a_Wn a_Wc, .slice a_marks_a a_marks_n a_marks_c, .int .i64 a.state] 93] _ := S32
 refine s_end (x_normal (wp_seq (wp_region_lit (l_op (f_val F33 rfl rfl (r_field FI_93_4 rfl (F33.ev 1 rfl) rfl) rfl fun _ F35 => ?_)))))
 refine l_op (f_val (v := .slice a_calls_a a_calls_n a_calls_c) F35 rfl rfl (r_loadB T34.at' 2 TI_89 rfl rfl (F35.ev 16 rfl) rfl rfl (fun _ => rfl) rfl) rfl fun _ F36 => ?_)
 refine l_op (f_call F36 CF_113 rfl rfl rfl rfl (lc (F36.ev 17 rfl) rfl) (laws_toCallS_c (a := a.calls) (RdA.mv (Nat.succ_pos _) V_v_a_calls (S1.trans (T6.trans (T10.trans (T16.trans (T22.trans (T28.trans T34))))))) (by first | assumption | omega | (simp <;> omega))) ?_)
 rintro _ w37 ⟨r0_a_37, r0_n_37, r0_c_37, rfl, m37⟩
 refine ⟨_, rfl, fun _ F38 => ?_⟩
 have S37 : Mv _ _ [ow 148 6 encK okK (.slice r0_a_37 r0_n_37 r0_c_37) a.calls, bx b7 [.int .i64 a.id, .int .i64 a.age, .int .i64 a.proc, .int .i64 a.began, .slice none 0 0, .slice none 0 0, .slice none 0 0, .slice none 0 0, .slice none 0 0, .int .i64 0] 71, bx b3 [.int .i64 0, .int .i64 0, .int .i64 0, .int .i64 0, .slice none 0 0, .slice none 0 0, .slice none 0 0, .slice none 0 0, .slice none 0 0, .int .i64 0] 71, bx b1 [.int .i64 a.id, .int .i64 a.age, .int .i64 a.proc, .int .i64 a.began, .slice a_calls_a a_calls_n a_calls_c, .slice a_answers_a a_answers_n a_answers_c, .slice a_Ra a_Rn a_Rc, .slice a_Wa a_Wn a_Wc, .slice a_marks_a a_marks_n a_marks_c, .int .i64 a.state] 93] _ := At.frame T34.at' [] rfl m37
 obtain ⟨lo37_0, lp37_0, lq37_0⟩ := At.ownInv S37.at' ET_66.hk 0 rfl
 clear m37
 refine l_op (f_val F38 rfl rfl (r_field FI_71_4 rfl (F38.ev 3 rfl) rfl) rfl fun _ F39 => ?_)
 refine l_op (s_store S37.at' 1 TI_66 rfl rfl rfl rfl rfl (F39.ev 19 rfl) (F39.ev 18 rfl) rfl rfl rfl rfl rfl fun w40 S40 => ?_)
 have F41 : Fr 36 [(19, .pointer (some ⟨b7, 4, none⟩)), (18, .slice r0_a_37 r0_n_37 r0_c_37), (3, .pointer (some ⟨b7, 0, none⟩)), (2, .pointer (some ⟨b3, 0, none⟩)), (1, .pointer (some ⟨b1, 0, none⟩))] _ := F39.cut rfl
 clear F33 F35 F36 F38 F39
 have T42 : Mv _ _ [bx b7 [.int .i64 a.id, .int .i64 a.age, .int .i64 a.proc, .int .i64 a.began, .slice r0_a_37 r0_n_37 r0_c_37, .slice none 0 0, .slice none 0 0, .slice none 0 0, .slice none 0 0, .int .i64 0] 71, ow 148 6 encK okK (.slice r0_a_37 r0_n_37 r0_c_37) a.calls, bx b3 [.int .i64 0, .int .i64 0, .int .i64 0, .int .i64 0, .slice none 0 0, .slice none 0 0, .slice none 0 0, .slice none 0 0, .slice none 0 0, .int .i64 0] 71, bx b1 [.int .i64 a.id, .int .i64 a.age, .int .i64 a.proc, .int .i64 a.began, .slice a_calls_a a_calls_n a_calls_c, .slice a_answers_a a_answers_n a_answers_c, .slice a_Ra a_Rn a_Rc, .slice a_Wa a_Wn a_Wc, .slice a_marks_a a_marks_n a_marks_c, .int .i64 a.state] 93] _ := S40
 refine s_end (x_normal (wp_seq (wp_region_lit (l_op (f_val F41 rfl rfl (r_field FI_93_5 rfl (F41.ev 1 rfl) rfl) rfl fun _ F43 => ?_)))))
 refine l_op (f_val (v := .slice a_answers_a a_answers_n a_answers_c) F43 rfl rfl (r_loadB T42.at' 3 TI_90 rfl rfl (F43.ev 20 rfl) rfl rfl (fun _ => rfl) rfl) rfl fun _ F44 => ?_)
 refine l_op (f_call F44 CF_114 rfl rfl rfl rfl (lc (F44.ev 21 rfl) rfl) (laws_toAnswerS_c (a := a.answers) (RdA.mv (Nat.succ_pos _) V_v_a_answers (S1.trans (T6.trans (T10.trans (T16.trans (T22.trans (T28.trans (T34.trans (S37.trans T42))))))))) (by first | assumption | omega | (simp <;> omega))) ?_)
 rintro _ w45 ⟨r0_a_45, r0_n_45, r0_c_45, rfl, m45⟩
 refine ⟨_, rfl, fun _ F46 => ?_⟩
 have S45 : Mv _ _ [ow 151 3 encR okR (.slice r0_a_45 r0_n_45 r0_c_45) a.answers, bx b7 [.int .i64 a.id, .int .i64 a.age, .int .i64 a.proc, .int .i64 a.began, .slice r0_a_37 r0_n_37 r0_c_37, .slice none 0 0, .slice none 0 0, .slice none 0 0, .slice none 0 0, .int .i64 0] 71, ow 148 6 encK okK (.slice r0_a_37 r0_n_37 r0_c_37) a.calls, bx b3 [.int .i64 0, .int .i64 0, .int .i64 0, .int .i64 0, .slice none 0 0, .slice none 0 0, .slice none 0 0, .slice none 0 0, .slice none 0 0, .int .i64 0] 71, bx b1 [.int .i64 a.id, .int .i64 a.age, .int .i64 a.proc, .int .i64 a.began, .slice a_calls_a a_calls_n a_calls_c, .slice a_answers_a a_answers_n a_answers_c, .slice a_Ra a_Rn a_Rc, .slice a_Wa a_Wn a_Wc, .slice a_marks_a a_marks_n a_marks_c, .int .i64 a.state] 93] _ := At.frame T42.at' [] rfl m45
 obtain ⟨lo45_0, lp45_0, lq45_0⟩ := At.ownInv S45.at' ET_67.hk 0 rfl
 clear m45
 refine l_op (f_val F46 rfl rfl (r_field FI_71_5 rfl (F46.ev 3 rfl) rfl) rfl fun _ F47 => ?_)
 refine l_op (s_store S45.at' 1 TI_67 rfl rfl rfl rfl rfl (F47.ev 23 rfl) (F47.ev 22 rfl) rfl rfl rfl rfl rfl fun w48 S48 => ?_)
 have F49 : Fr 36 [(23, .pointer (some ⟨b7, 5, none⟩)), (22, .slice r0_a_45 r0_n_45 r0_c_45), (3, .pointer (some ⟨b7, 0, none⟩)), (2, .pointer (some ⟨b3, 0, none⟩)), (1, .pointer (some ⟨b1, 0, none⟩))] _ := F47.cut rfl
 clear F41 F43 F44 F46 F47
 have T50 : Mv _ _ [bx b7 [.int .i64 a.id, .int .i64 a.age, .int .i64 a.proc, .int .i64 a.began, .slice r0_a_37 r0_n_37 r0_c_37, .slice r0_a_45 r0_n_45 r0_c_45, .slice none 0 0, .slice none 0 0, .slice none 0 0, .int .i64 0] 71, ow 151 3 encR okR (.slice r0_a_45 r0_n_45 r0_c_45) a.answers, ow 148 6 encK okK (.slice r0_a_37 r0_n_37 r0_c_37) a.calls, bx b3 [.int .i64 0, .int .i64 0, .int .i64 0, .int .i64 0, .slice none 0 0, .slice none 0 0, .slice none 0 0, .slice none 0 0, .slice none 0 0, .int .i64 0] 71, bx b1 [.int .i64 a.id, .int .i64 a.age, .int .i64 a.proc, .int .i64 a.began, .slice a_calls_a a_calls_n a_calls_c, .slice a_answers_a a_answers_n a_answers_c, .slice a_Ra a_Rn a_Rc, .slice a_Wa a_Wn a_Wc, .slice a_marks_a a_marks_n a_marks_c, .int .i64 a.state] 93] _ := S48
 refine s_end (x_normal (wp_seq (wp_region_lit (l_op (f_val F49 rfl rfl (r_field FI_93_6 rfl (F49.ev 1 rfl) rfl) rfl fun _ F51 => ?_)))))
 refine l_op (f_val (v := .agg #[.slice a_Ra a_Rn a_Rc, .slice a_Wa a_Wn a_Wc]) F51 rfl rfl (r_loadB T50.at' 4 TI_91 rfl rfl (F51.ev 24 rfl) rfl rfl (fun h => nomatch h) rfl) rfl fun _ F52 => ?_)
 refine l_op (f_call F52 CF_115 rfl rfl rfl rfl (lc (F52.ev 25 rfl) rfl) (laws_toTouch_c (a := a.touch) (RdA.mv (Nat.succ_pos _) V_v_a_touch_reads (S1.trans (T6.trans (T10.trans (T16.trans (T22.trans (T28.trans (T34.trans (S37.trans (T42.trans (S45.trans T50))))))))))) (RdA.mv (Nat.succ_pos _) V_v_a_touch_writes (S1.trans (T6.trans (T10.trans (T16.trans (T22.trans (T28.trans (T34.trans (S37.trans (T42.trans (S45.trans T50))))))))))) (by first | assumption | omega | (simp <;> omega)) (by first | assumption | omega | (simp <;> omega))) ?_)
 rintro _ w53 ⟨r0_Ra_53, r0_Rn_53, r0_Rc_53, r0_Wa_53, r0_Wn_53, r0_Wc_53, rfl, m53⟩
 refine ⟨_, rfl, fun _ F54 => ?_⟩
 have S53 : Mv _ _ [ow 9 1 encS okS (.slice r0_Ra_53 r0_Rn_53 r0_Rc_53) a.touch.reads, ow 9 1 encS okS (.slice r0_Wa_53 r0_Wn_53 r0_Wc_53) a.touch.writes, bx b7 [.int .i64 a.id, .int .i64 a.age, .int .i64 a.proc, .int .i64 a.began, .slice r0_a_37 r0_n_37 r0_c_37, .slice r0_a_45 r0_n_45 r0_c_45, .slice none 0 0, .slice none 0 0, .slice none 0 0, .int .i64 0] 71, ow 151 3 encR okR (.slice r0_a_45 r0_n_45 r0_c_45) a.answers, ow 148 6 encK okK (.slice r0_a_37 r0_n_37 r0_c_37) a.calls, bx b3 [.int .i64 0, .int .i64 0, .int .i64 0, .int .i64 0, .slice none 0 0, .slice none 0 0, .slice none 0 0, .slice none 0 0, .slice none 0 0, .int .i64 0] 71, bx b1 [.int .i64 a.id, .int .i64 a.age, .int .i64 a.proc, .int .i64 a.began, .slice a_calls_a a_calls_n a_calls_c, .slice a_answers_a a_answers_n a_answers_c, .slice a_Ra a_Rn a_Rc, .slice a_Wa a_Wn a_Wc, .slice a_marks_a a_marks_n a_marks_c, .int .i64 a.state] 93] _ := At.frame T50.at' [] rfl m53
 obtain ⟨lo53_0, lp53_0, lq53_0⟩ := At.ownInv S53.at' ET_62.hk 0 rfl
 obtain ⟨lo53_1, lp53_1, lq53_1⟩ := At.ownInv S53.at' ET_62.hk 1 rfl
 clear m53
 refine l_op (f_val F54 rfl rfl (r_field FI_71_6 rfl (F54.ev 3 rfl) rfl) rfl fun _ F55 => ?_)
 refine l_op (s_store S53.at' 2 TI_69 rfl rfl rfl rfl rfl (F55.ev 27 rfl) (F55.ev 26 rfl) rfl rfl rfl rfl rfl fun w56 S56 => ?_)
 have F57 : Fr 36 [(27, .pointer (some ⟨b7, 6, none⟩)), (26, .agg #[.slice r0_Ra_53 r0_Rn_53 r0_Rc_53, .slice r0_Wa_53 r0_Wn_53 r0_Wc_53]), (3, .pointer (some ⟨b7, 0, none⟩)), (2, .pointer (some ⟨b3, 0, none⟩)), (1, .pointer (some ⟨b1, 0, none⟩))] _ := F55.cut rfl
 clear F49 F51 F52 F54 F55
 have T58 : Mv _ _ [bx b7 [.int .i64 a.id, .int .i64 a.age, .int .i64 a.proc, .int .i64 a.began, .slice r0_a_37 r0_n_37 r0_c_37, .slice r0_a_45 r0_n_45 r0_c_45, .slice r0_Ra_53 r0_Rn_53 r0_Rc_53, .slice r0_Wa_53 r0_Wn_53 r0_Wc_53, .slice none 0 0, .int .i64 0] 71, ow 9 1 encS okS (.slice r0_Ra_53 r0_Rn_53 r0_Rc_53) a.touch.reads, ow 9 1 encS okS (.slice r0_Wa_53 r0_Wn_53 r0_Wc_53) a.touch.writes, ow 151 3 encR okR (.slice r0_a_45 r0_n_45 r0_c_45) a.answers, ow 148 6 encK okK (.slice r0_a_37 r0_n_37 r0_c_37) a.calls, bx b3 [.int .i64 0, .int .i64 0, .int .i64 0, .int .i64 0, .slice none 0 0, .slice none 0 0, .slice none 0 0, .slice none 0 0, .slice none 0 0, .int .i64 0] 71, bx b1 [.int .i64 a.id, .int .i64 a.age, .int .i64 a.proc, .int .i64 a.began, .slice a_calls_a a_calls_n a_calls_c, .slice a_answers_a a_answers_n a_answers_c, .slice a_Ra a_Rn a_Rc, .slice a_Wa a_Wn a_Wc, .slice a_marks_a a_marks_n a_marks_c, .int .i64 a.state] 93] _ := S56
 refine s_end (x_normal (wp_seq (wp_region_lit (l_op (f_val F57 rfl rfl (r_field FI_93_7 rfl (F57.ev 1 rfl) rfl) rfl fun _ F59 => ?_)))))
 refine l_op (f_val (v := .slice a_marks_a a_marks_n a_marks_c) F59 rfl rfl (r_loadB T58.at' 6 TI_53 rfl rfl (F59.ev 28 rfl) rfl rfl (fun _ => rfl) rfl) rfl fun _ F60 => ?_)
 refine l_op (f_call F60 CF_34 rfl rfl rfl rfl (lc (F60.ev 29 rfl) rfl) (laws_toIntS_c (a := a.marks) (RdA.mv (Nat.succ_pos _) V_v_a_marks (S1.trans (T6.trans (T10.trans (T16.trans (T22.trans (T28.trans (T34.trans (S37.trans (T42.trans (S45.trans (T50.trans (S53.trans T58))))))))))))) (by first | assumption | omega | (simp <;> omega))) ?_)
 rintro _ w61 ⟨r0_a_61, r0_n_61, r0_c_61, rfl, m61⟩
 refine ⟨_, rfl, fun _ F62 => ?_⟩
 have S61 : Mv _ _ [ow 3 1 encI okI (.slice r0_a_61 r0_n_61 r0_c_61) a.marks, bx b7 [.int .i64 a.id, .int .i64 a.age, .int .i64 a.proc, .int .i64 a.began, .slice r0_a_37 r0_n_37 r0_c_37, .slice r0_a_45 r0_n_45 r0_c_45, .slice r0_Ra_53 r0_Rn_53 r0_Rc_53, .slice r0_Wa_53 r0_Wn_53 r0_Wc_53, .slice none 0 0, .int .i64 0] 71, ow 9 1 encS okS (.slice r0_Ra_53 r0_Rn_53 r0_Rc_53) a.touch.reads, ow 9 1 encS okS (.slice r0_Wa_53 r0_Wn_53 r0_Wc_53) a.touch.writes, ow 151 3 encR okR (.slice r0_a_45 r0_n_45 r0_c_45) a.answers, ow 148 6 encK okK (.slice r0_a_37 r0_n_37 r0_c_37) a.calls, bx b3 [.int .i64 0, .int .i64 0, .int .i64 0, .int .i64 0, .slice none 0 0, .slice none 0 0, .slice none 0 0, .slice none 0 0, .slice none 0 0, .int .i64 0] 71, bx b1 [.int .i64 a.id, .int .i64 a.age, .int .i64 a.proc, .int .i64 a.began, .slice a_calls_a a_calls_n a_calls_c, .slice a_answers_a a_answers_n a_answers_c, .slice a_Ra a_Rn a_Rc, .slice a_Wa a_Wn a_Wc, .slice a_marks_a a_marks_n a_marks_c, .int .i64 a.state] 93] _ := At.frame T58.at' [] rfl m61
 obtain ⟨lo61_0, lp61_0, lq61_0⟩ := At.ownInv S61.at' ET_53.hk 0 rfl
 clear m61
 refine l_op (f_val F62 rfl rfl (r_field FI_71_7 rfl (F62.ev 3 rfl) rfl) rfl fun _ F63 => ?_)
 refine l_op (s_store S61.at' 1 TI_53 rfl rfl rfl rfl rfl (F63.ev 31 rfl) (F63.ev 30 rfl) rfl rfl rfl rfl rfl fun w64 S64 => ?_)
 have F65 : Fr 36 [(31, .pointer (some ⟨b7, 8, none⟩)), (30, .slice r0_a_61 r0_n_61 r0_c_61), (3, .pointer (some ⟨b7, 0, none⟩)), (2, .pointer (some ⟨b3, 0, none⟩)), (1, .pointer (some ⟨b1, 0, none⟩))] _ := F63.cut rfl
 clear F57 F59 F60 F62 F63
 have T66 : Mv _ _ [bx b7 [.int .i64 a.id, .int .i64 a.age, .int .i64 a.proc, .int .i64 a.began, .slice r0_a_37 r0_n_37 r0_c_37, .slice r0_a_45 r0_n_45 r0_c_45, .slice r0_Ra_53 r0_Rn_53 r0_Rc_53, .slice r0_Wa_53 r0_Wn_53 r0_Wc_53, .slice r0_a_61 r0_n_61 r0_c_61, .int .i64 0] 71, ow 3 1 encI okI (.slice r0_a_61 r0_n_61 r0_c_61) a.marks, ow 9 1 encS okS (.slice r0_Ra_53 r0_Rn_53 r0_Rc_53) a.touch.reads, ow 9 1 encS okS (.slice r0_Wa_53 r0_Wn_53 r0_Wc_53) a.touch.writes, ow 151 3 encR okR (.slice r0_a_45 r0_n_45 r0_c_45) a.answers, ow 148 6 encK okK (.slice r0_a_37 r0_n_37 r0_c_37) a.calls, bx b3 [.int .i64 0, .int .i64 0, .int .i64 0, .int .i64 0, .slice none 0 0, .slice none 0 0, .slice none 0 0, .slice none 0 0, .slice none 0 0, .int .i64 0] 71, bx b1 [.int .i64 a.id, .int .i64 a.age, .int .i64 a.proc, .int .i64 a.began, .slice a_calls_a a_calls_n a_calls_c, .slice a_answers_a a_answers_n a_answers_c, .slice a_Ra a_Rn a_Rc, .slice a_Wa a_Wn a_Wc, .slice a_marks_a a_marks_n a_marks_c, .int .i64 a.state] 93] _ := S64
 refine s_end (x_normal (wp_seq (wp_region_lit (l_op (f_val F65 rfl rfl (r_field FI_93_8 rfl (F65.ev 1 rfl) rfl) rfl fun _ F67 => ?_)))))
 refine l_op (f_val (v := .int .i64 a.state) F67 rfl rfl (r_loadB T66.at' 7 TI_3 rfl rfl (F67.ev 32 rfl) rfl rfl (fun _ => rfl) rfl) rfl fun _ F68 => ?_)
 refine l_op (f_val F68 rfl rfl (r_field FI_71_8 rfl (F68.ev 3 rfl) rfl) rfl fun _ F69 => ?_)
 refine l_op (s_store T66.at' 0 TI_3 rfl rfl rfl rfl rfl (F69.ev 34 rfl) (F69.ev 33 rfl) rfl rfl rfl rfl rfl fun w70 S70 => ?_)
 have F71 : Fr 36 [(34, .pointer (some ⟨b7, 9, none⟩)), (33, .int .i64 a.state), (3, .pointer (some ⟨b7, 0, none⟩)), (2, .pointer (some ⟨b3, 0, none⟩))] _ := F69.cut rfl
 clear F65 F67 F68 F69
 have T72 : Mv _ _ [bx b7 [.int .i64 a.id, .int .i64 a.age, .int .i64 a.proc, .int .i64 a.began, .slice r0_a_37 r0_n_37 r0_c_37, .slice r0_a_45 r0_n_45 r0_c_45, .slice r0_Ra_53 r0_Rn_53 r0_Rc_53, .slice r0_Wa_53 r0_Wn_53 r0_Wc_53, .slice r0_a_61 r0_n_61 r0_c_61, .int .i64 a.state] 71, ow 3 1 encI okI (.slice r0_a_61 r0_n_61 r0_c_61) a.marks, ow 9 1 encS okS (.slice r0_Ra_53 r0_Rn_53 r0_Rc_53) a.touch.reads, ow 9 1 encS okS (.slice r0_Wa_53 r0_Wn_53 r0_Wc_53) a.touch.writes, ow 151 3 encR okR (.slice r0_a_45 r0_n_45 r0_c_45) a.answers, ow 148 6 encK okK (.slice r0_a_37 r0_n_37 r0_c_37) a.calls, bx b3 [.int .i64 0, .int .i64 0, .int .i64 0, .int .i64 0, .slice none 0 0, .slice none 0 0, .slice none 0 0, .slice none 0 0, .slice none 0 0, .int .i64 0] 71, bx b1 [.int .i64 a.id, .int .i64 a.age, .int .i64 a.proc, .int .i64 a.began, .slice a_calls_a a_calls_n a_calls_c, .slice a_answers_a a_answers_n a_answers_c, .slice a_Ra a_Rn a_Rc, .slice a_Wa a_Wn a_Wc, .slice a_marks_a a_marks_n a_marks_c, .int .i64 a.state] 93] _ := S70
 refine s_end (x_normal (wp_seq (wp_region_lit (l_op (f_val (v := .agg #[.int .i64 a.id, .int .i64 a.age, .int .i64 a.proc, .int .i64 a.began, .slice r0_a_37 r0_n_37 r0_c_37, .slice r0_a_45 r0_n_45 r0_c_45, .slice r0_Ra_53 r0_Rn_53 r0_Rc_53, .slice r0_Wa_53 r0_Wn_53 r0_Wc_53, .slice r0_a_61 r0_n_61 r0_c_61, .int .i64 a.state]) F71 rfl rfl (r_loadB T72.at' 0 TI_71 rfl rfl (F71.ev 3 rfl) rfl rfl (fun h => nomatch h) rfl) rfl fun _ F73 => ?_)))))
 refine l_op (s_store T72.at' 6 TI_71 rfl rfl rfl rfl rfl (F73.ev 2 rfl) (F73.ev 35 rfl) rfl rfl rfl rfl rfl fun w74 S74 => ?_)
 have F75 : Fr 36 [(35, .agg #[.int .i64 a.id, .int .i64 a.age, .int .i64 a.proc, .int .i64 a.began, .slice r0_a_37 r0_n_37 r0_c_37, .slice r0_a_45 r0_n_45 r0_c_45, .slice r0_Ra_53 r0_Rn_53 r0_Rc_53, .slice r0_Wa_53 r0_Wn_53 r0_Wc_53, .slice r0_a_61 r0_n_61 r0_c_61, .int .i64 a.state]), (2, .pointer (some ⟨b3, 0, none⟩))] _ := F73.cut rfl
 clear F71 F73
 have T76 : Mv _ _ [bx b3 [.int .i64 a.id, .int .i64 a.age, .int .i64 a.proc, .int .i64 a.began, .slice r0_a_37 r0_n_37 r0_c_37, .slice r0_a_45 r0_n_45 r0_c_45, .slice r0_Ra_53 r0_Rn_53 r0_Rc_53, .slice r0_Wa_53 r0_Wn_53 r0_Wc_53, .slice r0_a_61 r0_n_61 r0_c_61, .int .i64 a.state] 71, bx b7 [.int .i64 a.id, .int .i64 a.age, .int .i64 a.proc, .int .i64 a.began, .slice r0_a_37 r0_n_37 r0_c_37, .slice r0_a_45 r0_n_45 r0_c_45, .slice r0_Ra_53 r0_Rn_53 r0_Rc_53, .slice r0_Wa_53 r0_Wn_53 r0_Wc_53, .slice r0_a_61 r0_n_61 r0_c_61, .int .i64 a.state] 71, ow 3 1 encI okI (.slice r0_a_61 r0_n_61 r0_c_61) a.marks, ow 9 1 encS okS (.slice r0_Ra_53 r0_Rn_53 r0_Rc_53) a.touch.reads, ow 9 1 encS okS (.slice r0_Wa_53 r0_Wn_53 r0_Wc_53) a.touch.writes, ow 151 3 encR okR (.slice r0_a_45 r0_n_45 r0_c_45) a.answers, ow 148 6 encK okK (.slice r0_a_37 r0_n_37 r0_c_37) a.calls, bx b1 [.int .i64 a.id, .int .i64 a.age, .int .i64 a.proc, .int .i64 a.began, .slice a_calls_a a_calls_n a_calls_c, .slice a_answers_a a_answers_n a_answers_c, .slice a_Ra a_Rn a_Rc, .slice a_Wa a_Wn a_Wc, .slice a_marks_a a_marks_n a_marks_c, .int .i64 a.state] 93] _ := S74
 refine s_end (x_normal (wp_ret ?_))
 refine x_done (v := .agg #[.int .i64 a.id, .int .i64 a.age, .int .i64 a.proc, .int .i64 a.began, .slice r0_a_37 r0_n_37 r0_c_37, .slice r0_a_45 r0_n_45 r0_c_45, .slice r0_Ra_53 r0_Rn_53 r0_Rc_53, .slice r0_Wa_53 r0_Wn_53 r0_Wc_53, .slice r0_a_61 r0_n_61 r0_c_61, .int .i64 a.state]) F75 (results_1 Try.results55 (.cell (F75.ev 2 rfl) (run_loadVar' TI_71 _ [.int .i64 a.id, .int .i64 a.age, .int .i64 a.proc, .int .i64 a.began, .slice r0_a_37 r0_n_37 r0_c_37, .slice r0_a_45 r0_n_45 r0_c_45, .slice r0_Ra_53 r0_Rn_53 r0_Rc_53, .slice r0_Wa_53 r0_Wn_53 r0_Wc_53, .slice r0_a_61 r0_n_61 r0_c_61, .int .i64 a.state] rfl (fun h => nomatch h) (At.cells T76.at' 0 rfl 0 [.int .i64 a.id, .int .i64 a.age, .int .i64 a.proc, .int .i64 a.began, .slice r0_a_37 r0_n_37 r0_c_37, .slice r0_a_45 r0_n_45 r0_c_45, .slice r0_Ra_53 r0_Rn_53 r0_Rc_53, .slice r0_Wa_53 r0_Wn_53 r0_Wc_53, .slice r0_a_61 r0_n_61 r0_c_61, .int .i64 a.state] rfl)))) ?_
 exact ⟨r0_a_37, r0_n_37, r0_c_37, r0_a_45, r0_n_45, r0_c_45, r0_Ra_53, r0_Rn_53, r0_Rc_53, r0_Wa_53, r0_Wn_53, r0_Wc_53, r0_a_61, r0_n_61, r0_c_61, rfl, (Mv.pick (S1.trans (T6.trans (T10.trans (T16.trans (T22.trans (T28.trans (T34.trans (S37.trans (T42.trans (S45.trans (T50.trans (S53.trans (T58.trans (S61.trans (T66.trans (T72.trans T76)))))))))))))))) [6, 5, 3, 4, 2] rfl)⟩
theorem laws_eqTx_c {w : World} {H : Nat → Prop} {a : TxD} {a_calls_a : Option Addr} {a_calls_n a_calls_c : Nat} {a_answers_a : Option Addr} {a_answers_n a_answers_c : Nat} {a_Ra : Option Addr} {a_Rn a_Rc : Nat} {a_Wa : Option Addr} {a_Wn a_Wc : Nat} {a_marks_a : Option Addr} {a_marks_n a_marks_c : Nat} {b : TxD} {b_calls_a : Option Addr} {b_calls_n b_calls_c : Nat} {b_answers_a : Option Addr} {b_answers_n b_answers_c : Nat} {b_Ra : Option Addr} {b_Rn b_Rc : Nat} {b_Wa : Option Addr} {b_Wn b_Wc : Nat} {b_marks_a : Option Addr} {b_marks_n b_marks_c : Nat} (h_a_id : i64ok a.id) (h_a_age : i64ok a.age) (h_a_proc : i64ok a.proc) (h_a_began : i64ok a.began) (v_a_calls : Rd 6 encK okK H w (.slice a_calls_a a_calls_n a_calls_c) a.calls) (v_a_answers : Rd 3 encR okR H w (.slice a_answers_a a_answers_n a_answers_c) a.answers) (v_a_touch_reads : Rd 1 encS okS H w (.slice a_Ra a_Rn a_Rc) a.touch.reads) (v_a_touch_writes : Rd 1 encS okS H w (.slice a_Wa a_Wn a_Wc) a.touch.writes) (v_a_marks : Rd 1 encI okI H w (.slice a_marks_a a_marks_n a_marks_c) a.marks) (h_a_state : i64ok a.state) (h_b_id : i64ok b.id) (h_b_age : i64ok b.age) (h_b_proc : i64ok b.proc) (h_b_began : i64ok b.began) (v_b_calls : Rd 6 encK okK H w (.slice b_calls_a b_calls_n b_calls_c) b.calls) (v_b_answers : Rd 3 encR okR H w (.slice b_answers_a b_answers_n b_answers_c) b.answers) (v_b_touch_reads : Rd 1 encS okS H w (.slice b_Ra b_Rn b_Rc) b.touch.reads) (v_b_touch_writes : Rd 1 encS okS H w (.slice b_Wa b_Wn b_Wc) b.touch.writes) (v_b_marks : Rd 1 encI okI H w (.slice b_marks_a b_marks_n b_marks_c) b.marks) (h_b_state : i64ok b.state) (p0 : a = b) :
    Calls Try.prog 44 #[.agg #[.int .i64 a.id, .int .i64 a.age, .int .i64 a.proc, .int .i64 a.began, .slice a_calls_a a_calls_n a_calls_c, .slice a_answers_a a_answers_n a_answers_c, .slice a_Ra a_Rn a_Rc, .slice a_Wa a_Wn a_Wc, .slice a_marks_a a_marks_n a_marks_c, .int .i64 a.state], .agg #[.int .i64 b.id, .int .i64 b.age, .int .i64 b.proc, .int .i64 b.began, .slice b_calls_a b_calls_n b_calls_c, .slice b_answers_a b_answers_n b_answers_c, .slice b_Ra b_Rn b_Rc, .slice b_Wa b_Wn b_Wc, .slice b_marks_a b_marks_n b_marks_c, .int .i64 b.state]] w fun e w' => e = .returned (.bool true) ∧ Mv [] w [] w' := by
 have uU : True := (fun _ _ _ _ _ _ _ _ _ _ => trivial) h_a_id h_a_age h_a_proc h_a_began h_a_state h_b_id h_b_age h_b_proc h_b_began h_b_state
 clear uU
 have V_v_a_calls : Rd 6 encK okK (V H w []) w (.slice a_calls_a a_calls_n a_calls_c) a.calls := Rd.start v_a_calls (fun _ _ => fps_nil _)
 obtain ⟨ln_a_calls, le_a_calls, mx_a_calls, ni_a_calls⟩ := Rd.inv v_a_calls
 have V_v_a_answers : Rd 3 encR okR (V H w []) w (.slice a_answers_a a_answers_n a_answers_c) a.answers := Rd.start v_a_answers (fun _ _ => fps_nil _)
 obtain ⟨ln_a_answers, le_a_answers, mx_a_answers, ni_a_answers⟩ := Rd.inv v_a_answers
 have V_v_a_touch_reads : Rd 1 encS okS (V H w []) w (.slice a_Ra a_Rn a_Rc) a.touch.reads := Rd.start v_a_touch_reads (fun _ _ => fps_nil _)
 obtain ⟨ln_a_touch_reads, le_a_touch_reads, mx_a_touch_reads, ni_a_touch_reads⟩ := Rd.inv v_a_touch_reads
 have V_v_a_touch_writes : Rd 1 encS okS (V H w []) w (.slice a_Wa a_Wn a_Wc) a.touch.writes := Rd.start v_a_touch_writes (fun _ _ => fps_nil _)
 obtain ⟨ln_a_touch_writes, le_a_touch_writes, mx_a_touch_writes, ni_a_touch_writes⟩ := Rd.inv v_a_touch_writes
 have V_v_a_marks : Rd 1 encI okI (V H w []) w (.slice a_marks_a a_marks_n a_marks_c) a.marks := Rd.start v_a_marks (fun _ _ => fps_nil _)
 obtain ⟨ln_a_marks, le_a_marks, mx_a_marks, ni_a_marks⟩ := Rd.inv v_a_marks
 have V_v_b_calls : Rd 6 encK okK (V H w []) w (.slice b_calls_a b_calls_n b_calls_c) b.calls := Rd.start v_b_calls (fun _ _ => fps_nil _)
 obtain ⟨ln_b_calls, le_b_calls, mx_b_calls, ni_b_calls⟩ := Rd.inv v_b_calls
 have V_v_b_answers : Rd 3 encR okR (V H w []) w (.slice b_answers_a b_answers_n b_answers_c) b.answers := Rd.start v_b_answers (fun _ _ => fps_nil _)
 obtain ⟨ln_b_answers, le_b_answers, mx_b_answers, ni_b_answers⟩ := Rd.inv v_b_answers
 have V_v_b_touch_reads : Rd 1 encS okS (V H w []) w (.slice b_Ra b_Rn b_Rc) b.touch.reads := Rd.start v_b_touch_reads (fun _ _ => fps_nil _)
 obtain ⟨ln_b_touch_reads, le_b_touch_reads, mx_b_touch_reads, ni_b_touch_reads⟩ := Rd.inv v_b_touch_reads
 have V_v_b_touch_writes : Rd 1 encS okS (V H w []) w (.slice b_Wa b_Wn b_Wc) b.touch.writes := Rd.start v_b_touch_writes (fun _ _ => fps_nil _)
 obtain ⟨ln_b_touch_writes, le_b_touch_writes, mx_b_touch_writes, ni_b_touch_writes⟩ := Rd.inv v_b_touch_writes
 have V_v_b_marks : Rd 1 encI okI (V H w []) w (.slice b_marks_a b_marks_n b_marks_c) b.marks := Rd.start v_b_marks (fun _ _ => fps_nil _)
 obtain ⟨ln_b_marks, le_b_marks, mx_b_marks, ni_b_marks⟩ := Rd.inv v_b_marks
 refine calls_enter 54 Try.func44 rfl Try.ntmps44 (Nat.le_of_ble_eq_true rfl) (fun _ F0i => ?_)
 have F0 : Fr 54 [(0, .agg #[.int .i64 a.id, .int .i64 a.age, .int .i64 a.proc, .int .i64 a.began, .slice a_calls_a a_calls_n a_calls_c, .slice a_answers_a a_answers_n a_answers_c, .slice a_Ra a_Rn a_Rc, .slice a_Wa a_Wn a_Wc, .slice a_marks_a a_marks_n a_marks_c, .int .i64 a.state]), (1, .agg #[.int .i64 b.id, .int .i64 b.age, .int .i64 b.proc, .int .i64 b.began, .slice b_calls_a b_calls_n b_calls_c, .slice b_answers_a b_answers_n b_answers_c, .slice b_Ra b_Rn b_Rc, .slice b_Wa b_Wn b_Wc, .slice b_marks_a b_marks_n b_marks_c, .int .i64 b.state])] _ := F0i
 clear F0i
 refine wp_seq (wp_region_lit (l_op (f_box F0 (At.nil w) rfl rfl rfl (F0.ev 0 rfl) rfl rfl fun b1 _ w1 F2 S1 => ?_)))
 refine l_op (f_box F2 S1.at' rfl rfl rfl (F2.ev 1 rfl) rfl rfl fun b3 _ w3 F4 S3 => ?_)
 refine l_op (f_val F4 rfl rfl (r_assign rfl rfl) rfl fun _ F5 => ?_)
 have F6 : Fr 54 [(4, .bool false), (3, .pointer (some ⟨b3, 0, none⟩)), (2, .pointer (some ⟨b1, 0, none⟩))] _ := F5.cut rfl
 clear F0 F2 F4 F5
 have T7 : Mv _ _ [bx b3 [.int .i64 b.id, .int .i64 b.age, .int .i64 b.proc, .int .i64 b.began, .slice b_calls_a b_calls_n b_calls_c, .slice b_answers_a b_answers_n b_answers_c, .slice b_Ra b_Rn b_Rc, .slice b_Wa b_Wn b_Wc, .slice b_marks_a b_marks_n b_marks_c, .int .i64 b.state] 71, bx b1 [.int .i64 a.id, .int .i64 a.age, .int .i64 a.proc, .int .i64 a.began, .slice a_calls_a a_calls_n a_calls_c, .slice a_answers_a a_answers_n a_answers_c, .slice a_Ra a_Rn a_Rc, .slice a_Wa a_Wn a_Wc, .slice a_marks_a a_marks_n a_marks_c, .int .i64 a.state] 71] _ := S3
 refine s_end (x_normal (wp_seq (wp_seq (wp_region_lit (l_op (f_val F6 rfl rfl (r_field FI_71_0 rfl (F6.ev 2 rfl) rfl) rfl fun _ F8 => ?_))))))
 refine l_op (f_val (v := .int .i64 a.id) F8 rfl rfl (r_loadB T7.at' 1 TI_3 rfl rfl (F8.ev 5 rfl) rfl rfl (fun _ => rfl) rfl) rfl fun _ F9 => ?_)
 refine l_op (f_val F9 rfl rfl (r_field FI_71_0 rfl (F9.ev 3 rfl) rfl) rfl fun _ F10 => ?_)
 refine l_op (f_val (v := .int .i64 b.id) F10 rfl rfl (r_loadB T7.at' 0 TI_3 rfl rfl (F10.ev 7 rfl) rfl rfl (fun _ => rfl) rfl) rfl fun _ F11 => ?_)
 refine l_op (f_val F11 rfl rfl (r_cmp (b := decide (a.id ≠ b.id)) (.inr (.inl rfl)) rfl (F11.ev 6 rfl) (F11.ev 8 rfl) (dec_of (by omega))) rfl fun _ F12 => ?_)
 rw [show (decide (a.id ≠ b.id)) = false from decide_eq_false (fun h => h (by rw [p0]))] at F12
 have F13 : Fr 54 [(9, .bool false), (3, .pointer (some ⟨b3, 0, none⟩)), (2, .pointer (some ⟨b1, 0, none⟩))] _ := F12.cut rfl
 clear F6 F8 F9 F10 F11 F12
 refine s_end (x_normal (wp_cond_false (F13.ev 9 rfl) (wp_skip (x_normal (wp_seq (wp_seq (wp_region_lit (l_op (f_val F13 rfl rfl (r_field FI_71_1 rfl (F13.ev 2 rfl) rfl) rfl fun _ F14 => ?_)))))))))
 refine l_op (f_val (v := .int .i64 a.age) F14 rfl rfl (r_loadB T7.at' 1 TI_3 rfl rfl (F14.ev 10 rfl) rfl rfl (fun _ => rfl) rfl) rfl fun _ F15 => ?_)
 refine l_op (f_val F15 rfl rfl (r_field FI_71_1 rfl (F15.ev 3 rfl) rfl) rfl fun _ F16 => ?_)
 refine l_op (f_val (v := .int .i64 b.age) F16 rfl rfl (r_loadB T7.at' 0 TI_3 rfl rfl (F16.ev 12 rfl) rfl rfl (fun _ => rfl) rfl) rfl fun _ F17 => ?_)
 refine l_op (f_val F17 rfl rfl (r_cmp (b := decide (a.age ≠ b.age)) (.inr (.inl rfl)) rfl (F17.ev 11 rfl) (F17.ev 13 rfl) (dec_of (by omega))) rfl fun _ F18 => ?_)
 rw [show (decide (a.age ≠ b.age)) = false from decide_eq_false (fun h => h (by rw [p0]))] at F18
 have F19 : Fr 54 [(14, .bool false), (3, .pointer (some ⟨b3, 0, none⟩)), (2, .pointer (some ⟨b1, 0, none⟩))] _ := F18.cut rfl
 clear F13 F14 F15 F16 F17 F18
 refine s_end (x_normal (wp_cond_false (F19.ev 14 rfl) (wp_skip (x_normal (wp_seq (wp_seq (wp_region_lit (l_op (f_val F19 rfl rfl (r_field FI_71_2 rfl (F19.ev 2 rfl) rfl) rfl fun _ F20 => ?_)))))))))
 refine l_op (f_val (v := .int .i64 a.proc) F20 rfl rfl (r_loadB T7.at' 1 TI_3 rfl rfl (F20.ev 15 rfl) rfl rfl (fun _ => rfl) rfl) rfl fun _ F21 => ?_)
 refine l_op (f_val F21 rfl rfl (r_field FI_71_2 rfl (F21.ev 3 rfl) rfl) rfl fun _ F22 => ?_)
 refine l_op (f_val (v := .int .i64 b.proc) F22 rfl rfl (r_loadB T7.at' 0 TI_3 rfl rfl (F22.ev 17 rfl) rfl rfl (fun _ => rfl) rfl) rfl fun _ F23 => ?_)
 refine l_op (f_val F23 rfl rfl (r_cmp (b := decide (a.proc ≠ b.proc)) (.inr (.inl rfl)) rfl (F23.ev 16 rfl) (F23.ev 18 rfl) (dec_of (by omega))) rfl fun _ F24 => ?_)
 rw [show (decide (a.proc ≠ b.proc)) = false from decide_eq_false (fun h => h (by rw [p0]))] at F24
 have F25 : Fr 54 [(19, .bool false), (3, .pointer (some ⟨b3, 0, none⟩)), (2, .pointer (some ⟨b1, 0, none⟩))] _ := F24.cut rfl
 clear F19 F20 F21 F22 F23 F24
 refine s_end (x_normal (wp_cond_false (F25.ev 19 rfl) (wp_skip (x_normal (wp_seq (wp_seq (wp_region_lit (l_op (f_val F25 rfl rfl (r_field FI_71_3 rfl (F25.ev 2 rfl) rfl) rfl fun _ F26 => ?_)))))))))
 refine l_op (f_val (v := .int .i64 a.began) F26 rfl rfl (r_loadB T7.at' 1 TI_3 rfl rfl (F26.ev 20 rfl) rfl rfl (fun _ => rfl) rfl) rfl fun _ F27 => ?_)
 refine l_op (f_val F27 rfl rfl (r_field FI_71_3 rfl (F27.ev 3 rfl) rfl) rfl fun _ F28 => ?_)
 refine l_op (f_val (v := .int .i64 b.began) F28 rfl rfl (r_loadB T7.at' 0 TI_3 rfl rfl (F28.ev 22 rfl) rfl rfl (fun _ => rfl) rfl) rfl fun _ F29 => ?_)
 refine l_op (f_val F29 rfl rfl (r_cmp (b := decide (a.began ≠ b.began)) (.inr (.inl rfl)) rfl (F29.ev 21 rfl) (F29.ev 23 rfl) (dec_of (by omega))) rfl fun _ F30 => ?_)
 rw [show (decide (a.began ≠ b.began)) = false from decide_eq_false (fun h => h (by rw [p0]))] at F30
 have F31 : Fr 54 [(24, .bool false), (3, .pointer (some ⟨b3, 0, none⟩)), (2, .pointer (some ⟨b1, 0, none⟩))] _ := F30.cut rfl
 clear F25 F26 F27 F28 F29 F30
 refine s_end (x_normal (wp_cond_false (F31.ev 24 rfl) (wp_skip (x_normal (wp_seq (wp_seq (wp_region_lit (l_op (f_val F31 rfl rfl (r_field FI_71_4 rfl (F31.ev 2 rfl) rfl) rfl fun _ F32 => ?_)))))))))
 refine l_op (f_val (v := .slice a_calls_a a_calls_n a_calls_c) F32 rfl rfl (r_loadB T7.at' 1 TI_66 rfl rfl (F32.ev 25 rfl) rfl rfl (fun _ => rfl) rfl) rfl fun _ F33 => ?_)
 refine l_op (f_val F33 rfl rfl (r_field FI_71_4 rfl (F33.ev 3 rfl) rfl) rfl fun _ F34 => ?_)
 refine l_op (f_val (v := .slice b_calls_a b_calls_n b_calls_c) F34 rfl rfl (r_loadB T7.at' 0 TI_66 rfl rfl (F34.ev 27 rfl) rfl rfl (fun _ => rfl) rfl) rfl fun _ F35 => ?_)
 refine l_op (f_call F35 CF_96 rfl rfl rfl rfl (lc (F35.ev 26 rfl) (lc (F35.ev 28 rfl) rfl)) (laws_eqCallS_c (a := a.calls) (b := b.calls) (Rd.mv (Nat.succ_pos _) V_v_a_calls (S1.trans T7)) (Rd.mv (Nat.succ_pos _) V_v_b_calls (S1.trans T7)) (by rw [p0])) ?_)
 rintro _ w36 ⟨rfl, m36⟩
 refine ⟨_, rfl, fun _ F37 => ?_⟩
 have S36 := At.frame0 T7.at' m36
 clear m36
 refine l_op (f_val F37 rfl rfl (r_not rfl (F37.ev 29 rfl)) rfl fun _ F38 => ?_)
 have F39 : Fr 54 [(30, .bool false), (3, .pointer (some ⟨b3, 0, none⟩)), (2, .pointer (some ⟨b1, 0, none⟩))] _ := F38.cut rfl
 clear F31 F32 F33 F34 F35 F37 F38
 have T40 : Mv _ _ [bx b3 [.int .i64 b.id, .int .i64 b.age, .int .i64 b.proc, .int .i64 b.began, .slice b_calls_a b_calls_n b_calls_c, .slice b_answers_a b_answers_n b_answers_c, .slice b_Ra b_Rn b_Rc, .slice b_Wa b_Wn b_Wc, .slice b_marks_a b_marks_n b_marks_c, .int .i64 b.state] 71, bx b1 [.int .i64 a.id, .int .i64 a.age, .int .i64 a.proc, .int .i64 a.began, .slice a_calls_a a_calls_n a_calls_c, .slice a_answers_a a_answers_n a_answers_c, .slice a_Ra a_Rn a_Rc, .slice a_Wa a_Wn a_Wc, .slice a_marks_a a_marks_n a_marks_c, .int .i64 a.state] 71] _ := S36
 refine s_end (x_normal (wp_cond_false (F39.ev 30 rfl) (wp_skip (x_normal (wp_seq (wp_seq (wp_region_lit (l_op (f_val F39 rfl rfl (r_field FI_71_5 rfl (F39.ev 2 rfl) rfl) rfl fun _ F41 => ?_)))))))))
 refine l_op (f_val (v := .slice a_answers_a a_answers_n a_answers_c) F41 rfl rfl (r_loadB T40.at' 1 TI_67 rfl rfl (F41.ev 31 rfl) rfl rfl (fun _ => rfl) rfl) rfl fun _ F42 => ?_)
 refine l_op (f_val F42 rfl rfl (r_field FI_71_5 rfl (F42.ev 3 rfl) rfl) rfl fun _ F43 => ?_)
 refine l_op (f_val (v := .slice b_answers_a b_answers_n b_answers_c) F43 rfl rfl (r_loadB T40.at' 0 TI_67 rfl rfl (F43.ev 33 rfl) rfl rfl (fun _ => rfl) rfl) rfl fun _ F44 => ?_)
 refine l_op (f_call F44 CF_97 rfl rfl rfl rfl (lc (F44.ev 32 rfl) (lc (F44.ev 34 rfl) rfl)) (laws_eqAnswerS_c (a := a.answers) (b := b.answers) (Rd.mv (Nat.succ_pos _) V_v_a_answers (S1.trans (T7.trans T40))) (Rd.mv (Nat.succ_pos _) V_v_b_answers (S1.trans (T7.trans T40))) (by rw [p0])) ?_)
 rintro _ w45 ⟨rfl, m45⟩
 refine ⟨_, rfl, fun _ F46 => ?_⟩
 have S45 := At.frame0 T40.at' m45
 clear m45
 refine l_op (f_val F46 rfl rfl (r_not rfl (F46.ev 35 rfl)) rfl fun _ F47 => ?_)
 have F48 : Fr 54 [(36, .bool false), (3, .pointer (some ⟨b3, 0, none⟩)), (2, .pointer (some ⟨b1, 0, none⟩))] _ := F47.cut rfl
 clear F39 F41 F42 F43 F44 F46 F47
 have T49 : Mv _ _ [bx b3 [.int .i64 b.id, .int .i64 b.age, .int .i64 b.proc, .int .i64 b.began, .slice b_calls_a b_calls_n b_calls_c, .slice b_answers_a b_answers_n b_answers_c, .slice b_Ra b_Rn b_Rc, .slice b_Wa b_Wn b_Wc, .slice b_marks_a b_marks_n b_marks_c, .int .i64 b.state] 71, bx b1 [.int .i64 a.id, .int .i64 a.age, .int .i64 a.proc, .int .i64 a.began, .slice a_calls_a a_calls_n a_calls_c, .slice a_answers_a a_answers_n a_answers_c, .slice a_Ra a_Rn a_Rc, .slice a_Wa a_Wn a_Wc, .slice a_marks_a a_marks_n a_marks_c, .int .i64 a.state] 71] _ := S45
 refine s_end (x_normal (wp_cond_false (F48.ev 36 rfl) (wp_skip (x_normal (wp_seq (wp_seq (wp_region_lit (l_op (f_val F48 rfl rfl (r_field FI_71_6 rfl (F48.ev 2 rfl) rfl) rfl fun _ F50 => ?_)))))))))
 refine l_op (f_val (v := .agg #[.slice a_Ra a_Rn a_Rc, .slice a_Wa a_Wn a_Wc]) F50 rfl rfl (r_loadB T49.at' 1 TI_69 rfl rfl (F50.ev 37 rfl) rfl rfl (fun h => nomatch h) rfl) rfl fun _ F51 => ?_)
 refine l_op (f_val F51 rfl rfl (r_field FI_71_6 rfl (F51.ev 3 rfl) rfl) rfl fun _ F52 => ?_)
 refine l_op (f_val (v := .agg #[.slice b_Ra b_Rn b_Rc, .slice b_Wa b_Wn b_Wc]) F52 rfl rfl (r_loadB T49.at' 0 TI_69 rfl rfl (F52.ev 39 rfl) rfl rfl (fun h => nomatch h) rfl) rfl fun _ F53 => ?_)
 refine l_op (f_call F53 CF_98 rfl rfl rfl rfl (lc (F53.ev 38 rfl) (lc (F53.ev 40 rfl) rfl)) (laws_eqTouch_c (a := a.touch) (b := b.touch) (Rd.mv (Nat.succ_pos _) V_v_a_touch_reads (S1.trans (T7.trans (T40.trans T49)))) (Rd.mv (Nat.succ_pos _) V_v_a_touch_writes (S1.trans (T7.trans (T40.trans T49)))) (Rd.mv (Nat.succ_pos _) V_v_b_touch_reads (S1.trans (T7.trans (T40.trans T49)))) (Rd.mv (Nat.succ_pos _) V_v_b_touch_writes (S1.trans (T7.trans (T40.trans T49)))) (by rw [p0])) ?_)
 rintro _ w54 ⟨rfl, m54⟩
 refine ⟨_, rfl, fun _ F55 => ?_⟩
 have S54 := At.frame0 T49.at' m54
 clear m54
 refine l_op (f_val F55 rfl rfl (r_not rfl (F55.ev 41 rfl)) rfl fun _ F56 => ?_)
 have F57 : Fr 54 [(42, .bool false), (3, .pointer (some ⟨b3, 0, none⟩)), (2, .pointer (some ⟨b1, 0, none⟩))] _ := F56.cut rfl
 clear F48 F50 F51 F52 F53 F55 F56
 have T58 : Mv _ _ [bx b3 [.int .i64 b.id, .int .i64 b.age, .int .i64 b.proc, .int .i64 b.began, .slice b_calls_a b_calls_n b_calls_c, .slice b_answers_a b_answers_n b_answers_c, .slice b_Ra b_Rn b_Rc, .slice b_Wa b_Wn b_Wc, .slice b_marks_a b_marks_n b_marks_c, .int .i64 b.state] 71, bx b1 [.int .i64 a.id, .int .i64 a.age, .int .i64 a.proc, .int .i64 a.began, .slice a_calls_a a_calls_n a_calls_c, .slice a_answers_a a_answers_n a_answers_c, .slice a_Ra a_Rn a_Rc, .slice a_Wa a_Wn a_Wc, .slice a_marks_a a_marks_n a_marks_c, .int .i64 a.state] 71] _ := S54
 refine s_end (x_normal (wp_cond_false (F57.ev 42 rfl) (wp_skip (x_normal (wp_seq (wp_seq (wp_region_lit (l_op (f_val F57 rfl rfl (r_field FI_71_7 rfl (F57.ev 2 rfl) rfl) rfl fun _ F59 => ?_)))))))))
 refine l_op (f_val (v := .slice a_marks_a a_marks_n a_marks_c) F59 rfl rfl (r_loadB T58.at' 1 TI_53 rfl rfl (F59.ev 43 rfl) rfl rfl (fun _ => rfl) rfl) rfl fun _ F60 => ?_)
 refine l_op (f_val F60 rfl rfl (r_field FI_71_7 rfl (F60.ev 3 rfl) rfl) rfl fun _ F61 => ?_)
 refine l_op (f_val (v := .slice b_marks_a b_marks_n b_marks_c) F61 rfl rfl (r_loadB T58.at' 0 TI_53 rfl rfl (F61.ev 45 rfl) rfl rfl (fun _ => rfl) rfl) rfl fun _ F62 => ?_)
 refine l_op (f_call F62 CF_36 rfl rfl rfl rfl (lc (F62.ev 44 rfl) (lc (F62.ev 46 rfl) rfl)) (laws_eqIntS_c (a := a.marks) (b := b.marks) (Rd.mv (Nat.succ_pos _) V_v_a_marks (S1.trans (T7.trans (T40.trans (T49.trans T58))))) (Rd.mv (Nat.succ_pos _) V_v_b_marks (S1.trans (T7.trans (T40.trans (T49.trans T58))))) (by rw [p0])) ?_)
 rintro _ w63 ⟨rfl, m63⟩
 refine ⟨_, rfl, fun _ F64 => ?_⟩
 have S63 := At.frame0 T58.at' m63
 clear m63
 refine l_op (f_val F64 rfl rfl (r_not rfl (F64.ev 47 rfl)) rfl fun _ F65 => ?_)
 have F66 : Fr 54 [(48, .bool false), (3, .pointer (some ⟨b3, 0, none⟩)), (2, .pointer (some ⟨b1, 0, none⟩))] _ := F65.cut rfl
 clear F57 F59 F60 F61 F62 F64 F65
 have T67 : Mv _ _ [bx b3 [.int .i64 b.id, .int .i64 b.age, .int .i64 b.proc, .int .i64 b.began, .slice b_calls_a b_calls_n b_calls_c, .slice b_answers_a b_answers_n b_answers_c, .slice b_Ra b_Rn b_Rc, .slice b_Wa b_Wn b_Wc, .slice b_marks_a b_marks_n b_marks_c, .int .i64 b.state] 71, bx b1 [.int .i64 a.id, .int .i64 a.age, .int .i64 a.proc, .int .i64 a.began, .slice a_calls_a a_calls_n a_calls_c, .slice a_answers_a a_answers_n a_answers_c, .slice a_Ra a_Rn a_Rc, .slice a_Wa a_Wn a_Wc, .slice a_marks_a a_marks_n a_marks_c, .int .i64 a.state] 71] _ := S63
 refine s_end (x_normal (wp_cond_false (F66.ev 48 rfl) (wp_skip (x_normal (wp_seq (wp_seq (wp_region_lit (l_op (f_val F66 rfl rfl (r_field FI_71_8 rfl (F66.ev 2 rfl) rfl) rfl fun _ F68 => ?_)))))))))
 refine l_op (f_val (v := .int .i64 a.state) F68 rfl rfl (r_loadB T67.at' 1 TI_3 rfl rfl (F68.ev 49 rfl) rfl rfl (fun _ => rfl) rfl) rfl fun _ F69 => ?_)
 refine l_op (f_val F69 rfl rfl (r_field FI_71_8 rfl (F69.ev 3 rfl) rfl) rfl fun _ F70 => ?_)
 refine l_op (f_val (v := .int .i64 b.state) F70 rfl rfl (r_loadB T67.at' 0 TI_3 rfl rfl (F70.ev 51 rfl) rfl rfl (fun _ => rfl) rfl) rfl fun _ F71 => ?_)
 refine l_op (f_val F71 rfl rfl (r_cmp (b := decide (a.state ≠ b.state)) (.inr (.inl rfl)) rfl (F71.ev 50 rfl) (F71.ev 52 rfl) (dec_of (by omega))) rfl fun _ F72 => ?_)
 rw [show (decide (a.state ≠ b.state)) = false from decide_eq_false (fun h => h (by rw [p0]))] at F72
 have F73 : Fr 54 [(53, .bool false)] _ := F72.cut rfl
 clear F66 F68 F69 F70 F71 F72
 refine s_end (x_normal (wp_cond_false (F73.ev 53 rfl) (wp_skip (x_normal (wp_seq (wp_region_lit (l_op (f_val F73 rfl rfl (r_assign rfl rfl) rfl fun _ F74 => ?_))))))))
 have F75 : Fr 54 [(4, .bool true)] _ := F74.cut rfl
 clear F73 F74
 refine s_end (x_normal (wp_ret ?_))
 refine x_done (v := .bool true) F75 (results_1 Try.results44 (.tmp (F75.ev 4 rfl))) ?_
 exact ⟨rfl, (Mv.pick (S1.trans (T7.trans (T40.trans (T49.trans (T58.trans T67))))) [] rfl)⟩
end Go.Proofs.Ytgfilegkabbliaa
