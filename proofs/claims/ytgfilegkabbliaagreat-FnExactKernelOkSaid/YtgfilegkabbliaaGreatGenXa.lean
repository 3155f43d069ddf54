/-
  Walks: calls, answers and marks in the laws' hands.
-/
import Derived.Test.YtgfilegkabbliaaGreatDatTx
namespace Go.Proofs.YtgfilegkabbliaaGreat
open Go.ChangeShapes Go.WideShapes Go.ChangeAt Go.RowKit
set_option maxRecDepth 100000
set_option maxHeartbeats 1000000
theorem laws_szStringS_c {w : World} {H : Nat → Prop} {a : List ByteArray} {a_a : Option Addr} {a_n a_c : Nat} {left : Int} (v_a : RdA 1 encS okS H w (.slice a_a a_n a_c) a) (Q0 : i64ok left) (p0 : 0 ≤ left) (p1 : left ≤ 1048576) :
    Calls Tryz.prog 13 #[.slice a_a a_n a_c, .int .i64 left] w fun e w' => e = .returned (.int .i64 (subOr left (szStrs a))) ∧ Mv [] w [] w' ∧ i64ok (subOr left (szStrs a)) := by
  have uU : True := (fun _ => trivial) Q0
  clear uU
  refine (szStringS_c _ left w a v_a.1 p0 p1).mono ?_
  rintro e w' ⟨rfl, hb⟩
  exact ⟨rfl, Mv.of_bl hb, subOr_i64 p0 p1⟩
theorem laws_toStringS_c {w : World} {H : Nat → Prop} {a : List ByteArray} {a_a : Option Addr} {a_n a_c : Nat} (v_a : RdA 1 encS okS H w (.slice a_a a_n a_c) a) (p0 : a.length ≤ 1048576) :
    Calls Tryz.prog 23 #[.slice a_a a_n a_c] w fun e w' => ∃ (r0_a : Option Addr), ∃ (r0_n : Nat), ∃ (r0_c : Nat), e = .returned (.slice r0_a r0_n r0_c) ∧ Mv [] w [ow 9 1 encS okS (.slice r0_a r0_n r0_c) a] w' := by
  refine (toStringS_s _ w a v_a.1 p0).mono ?_
  rintro e w' ⟨x, n, c, rfl, h1, h2, h3⟩
  exact ⟨x, n, c, rfl, mv_of_fresh h1 h2 h3⟩
theorem laws_eqStringS_c {w : World} {H : Nat → Prop} {a : List ByteArray} {a_a : Option Addr} {a_n a_c : Nat} {b : List ByteArray} {b_a : Option Addr} {b_n b_c : Nat} (v_a : Rd 1 encS okS H w (.slice a_a a_n a_c) a) (v_b : Rd 1 encS okS H w (.slice b_a b_n b_c) b) (p0 : a = b) :
    Calls Tryz.prog 33 #[.slice a_a a_n a_c, .slice b_a b_n b_c] w fun e w' => e = .returned (.bool true) ∧ Mv [] w [] w' := by
  subst p0
  refine (eqStringS_c _ _ w a v_a.1 v_b.1).mono ?_
  rintro e w' ⟨rfl, hb⟩
  exact ⟨rfl, Mv.of_bl hb⟩
theorem laws_szTouch_c {w : World} {H : Nat → Prop} {a : TouchD} {a_Ra : Option Addr} {a_Rn a_Rc : Nat} {a_Wa : Option Addr} {a_Wn a_Wc : Nat} {left : Int} (Q0 : RdA 1 encS okS H w (.slice a_Ra a_Rn a_Rc) a.reads) (Q1 : RdA 1 encS okS H w (.slice a_Wa a_Wn a_Wc) a.writes) (Q4 : i64ok left) (p0 : 0 ≤ left) (p1 : left ≤ 1048576) :
    Calls Tryz.prog 60 #[.agg #[.slice a_Ra a_Rn a_Rc, .slice a_Wa a_Wn a_Wc], .int .i64 left] w fun e w' => e = .returned (.int .i64 (subOr left (szTouchD a))) ∧ Mv [] w [] w' ∧ i64ok (subOr left (szTouchD a)) := by
 have Q2 : RdA 1 encS okS (V H w []) w (.slice a_Ra a_Rn a_Rc) a.reads := RdA.start Q0 (fun _ _ => fps_nil _)
 obtain ⟨Q7, Q5, Q9, Q11⟩ := RdA.inv Q0
 have Q3 : RdA 1 encS okS (V H w []) w (.slice a_Wa a_Wn a_Wc) a.writes := RdA.start Q1 (fun _ _ => fps_nil _)
 obtain ⟨Q8, Q6, Q10, Q12⟩ := RdA.inv Q1
 refine calls_enter 18 Tryz.func60 rfl Tryz.ntmps60 (Nat.le_of_ble_eq_true rfl) (fun _ F0i => ?_)
 have F0 : Fr 18 [(0, .agg #[.slice a_Ra a_Rn a_Rc, .slice a_Wa a_Wn a_Wc]), (1, .int .i64 left)] _ := F0i
 clear F0i
 refine wp_seq (wp_region_lit (l_op (f_box F0 (At.nil w) rfl rfl rfl (F0.ev 0 rfl) rfl rfl fun b1 _ w1 F2 S1 => ?_)))
 refine l_op (f_val F2 rfl rfl (r_assign rfl rfl) rfl fun _ F3 => ?_)
 refine s_end (x_normal (wp_seq (wp_region_lit (l_op (f_val F3 rfl rfl (r_field FI_80_0 rfl (F3.ev 2 rfl) rfl) rfl fun _ F4 => ?_)))))
 refine l_op (f_val (v := .slice a_Ra a_Rn a_Rc) F4 rfl rfl (r_loadB S1.at' 0 TI_30 rfl rfl (F4.ev 5 rfl) rfl rfl (fun _ => rfl) rfl) rfl fun _ F5 => ?_)
 refine l_op (f_mv F5 rfl rfl rfl rfl rfl fun _ F6 => ?_)
 refine l_op (f_call F6 CF_13 rfl rfl rfl rfl (lc (F6.ev 6 rfl) (lc (F6.ev 7 rfl) rfl)) (laws_szStringS_c (a := a.reads) (left := left) (RdA.mv (Nat.succ_pos _) Q2 S1) Q4 (by first | assumption | omega | (simp <;> omega)) (by first | assumption | (have := subOr_bd left (szStrs a.reads) p0; omega))) ?_)
 rintro _ w7 ⟨rfl, m7, q7_0⟩
 refine ⟨_, rfl, fun _ F8 => ?_⟩
 have S7 := At.frame0 S1.at' m7
 clear m7
 refine l_op (f_as F8 rfl rfl rfl rfl rfl fun _ F9 => ?_)
 have T10 : Mv _ _ [bx b1 [.slice a_Ra a_Rn a_Rc, .slice a_Wa a_Wn a_Wc] 80] _ := S7
 refine s_end (x_normal (wp_seq (wp_seq (wp_region_lit (l_op (f_mv F9 rfl rfl rfl rfl rfl fun _ F11 => ?_))))))
 refine l_op (f_val F11 rfl rfl (r_cmp (b := decide ((subOr left (szStrs a.reads)) < 0)) (.inr (.inr (.inl rfl))) rfl (F11.ev 9 rfl) rfl (dec_of (by omega))) rfl fun _ F12 => ?_)
 have F13 : Fr 18 [(10, .bool (decide ((subOr left (szStrs a.reads)) < 0))), (1, .int .i64 (subOr left (szStrs a.reads))), (2, .pointer (some ⟨b1, 0, none⟩))] _ := F12.cut rfl
 clear F0 F2 F3 F4 F5 F6 F8 F9 F11 F12
 refine s_end (x_normal (x_cond (p := (subOr left (szStrs a.reads)) < 0) (F13.ev 10 rfl) (fun h14 => ?_) (fun h14 => ?_)))
 · skip
   refine wp_seq (wp_region_lit (l_op (f_val F13 rfl rfl (r_assign rfl rfl) rfl fun _ F15 => ?_)))
   refine s_end (x_normal (wp_ret (x_then_ret ?_)))
   refine x_done (v := .int .i64 (-1)) F15 (results_1 Tryz.results60 (.tmp (F15.ev 4 rfl))) ?_
   exact ⟨(by rw [(show (-1) = (subOr left (szTouchD a)) from by unfold szTouchD; exact (subOr_neg left _ _ (by assumption)).symm)]), (Mv.pick (S1.trans T10) [] rfl), subOr_i64 p0 p1⟩
 · skip
   refine wp_skip (x_normal (wp_seq (wp_region_lit (l_op (f_val F13 rfl rfl (r_field FI_80_1 rfl (F13.ev 2 rfl) rfl) rfl fun _ F16 => ?_)))))
   refine l_op (f_val (v := .slice a_Wa a_Wn a_Wc) F16 rfl rfl (r_loadB T10.at' 0 TI_30 rfl rfl (F16.ev 11 rfl) rfl rfl (fun _ => rfl) rfl) rfl fun _ F17 => ?_)
   refine l_op (f_mv F17 rfl rfl rfl rfl rfl fun _ F18 => ?_)
   refine l_op (f_call F18 CF_13 rfl rfl rfl rfl (lc (F18.ev 12 rfl) (lc (F18.ev 13 rfl) rfl)) (laws_szStringS_c (a := a.writes) (left := (subOr left (szStrs a.reads))) (RdA.mv (Nat.succ_pos _) Q3 (S1.trans T10)) (by first | assumption | exact ⟨by omega, by omega⟩ | (unfold i64ok at *; omega)) (by first | assumption | omega | (simp <;> omega)) (by first | assumption | (have := subOr_bd left (szStrs a.reads) p0; omega))) ?_)
   rintro _ w19 ⟨rfl, m19, q19_0⟩
   refine ⟨_, rfl, fun _ F20 => ?_⟩
   have S19 := At.frame0 T10.at' m19
   clear m19
   refine l_op (f_as F20 rfl rfl rfl rfl rfl fun _ F21 => ?_)
   refine s_end (x_normal (wp_seq (wp_seq (wp_region_lit (l_op (f_mv F21 rfl rfl rfl rfl rfl fun _ F22 => ?_))))))
   refine l_op (f_val F22 rfl rfl (r_cmp (b := decide ((subOr (subOr left (szStrs a.reads)) (szStrs a.writes)) < 0)) (.inr (.inr (.inl rfl))) rfl (F22.ev 15 rfl) rfl (dec_of (by omega))) rfl fun _ F23 => ?_)
   refine s_end (x_normal (x_cond (p := (subOr (subOr left (szStrs a.reads)) (szStrs a.writes)) < 0) (F23.ev 16 rfl) (fun h24 => ?_) (fun h24 => ?_)))
   · skip
     refine wp_seq (wp_region_lit (l_op (f_val F23 rfl rfl (r_assign rfl rfl) rfl fun _ F25 => ?_)))
     refine s_end (x_normal (wp_ret (x_then_ret ?_)))
     refine x_done (v := .int .i64 (-1)) F25 (results_1 Tryz.results60 (.tmp (F25.ev 4 rfl))) ?_
     exact ⟨(by rw [(show (-1) = (subOr left (szTouchD a)) from by unfold szTouchD; rw [subOr_add left _ _ (by omega)] at *; unfold subOr at *; split at * <;> omega)]), (Mv.pick (S1.trans (T10.trans S19)) [] rfl), subOr_i64 p0 p1⟩
   · skip
     refine wp_skip (x_normal (wp_seq (wp_region_lit (l_op (f_mv F23 rfl rfl rfl rfl rfl fun _ F26 => ?_)))))
     refine l_op (f_as F26 rfl rfl rfl rfl rfl fun _ F27 => ?_)
     have F28 : Fr 18 [(4, .int .i64 (subOr (subOr left (szStrs a.reads)) (szStrs a.writes)))] _ := F27.cut rfl
     clear F13 F16 F17 F18 F20 F21 F22 F23 F26 F27
     refine s_end (x_normal (wp_ret ?_))
     refine x_done (v := .int .i64 (subOr (subOr left (szStrs a.reads)) (szStrs a.writes))) F28 (results_1 Tryz.results60 (.tmp (F28.ev 4 rfl))) ?_
     exact ⟨(by rw [(show (subOr (subOr left (szStrs a.reads)) (szStrs a.writes)) = (subOr left (szTouchD a)) from by unfold szTouchD; exact subOr_add left _ _ (by omega))]), (Mv.pick (S1.trans (T10.trans S19)) [] rfl), subOr_i64 p0 p1⟩
theorem laws_toTouch_c {w : World} {H : Nat → Prop} {a : TouchD} {a_Ra : Option Addr} {a_Rn a_Rc : Nat} {a_Wa : Option Addr} {a_Wn a_Wc : Nat} (Q12 : RdA 1 encS okS H w (.slice a_Ra a_Rn a_Rc) a.reads) (Q13 : RdA 1 encS okS H w (.slice a_Wa a_Wn a_Wc) a.writes) (p0 : a.reads.length ≤ 1048576) (p1 : a.writes.length ≤ 1048576) :
    Calls Tryz.prog 67 #[.agg #[.slice a_Ra a_Rn a_Rc, .slice a_Wa a_Wn a_Wc]] w fun e w' => ∃ (Q6 : Option Addr), ∃ (Q8 : Nat), ∃ (Q7 : Nat), ∃ (Q9 : Option Addr), ∃ (Q11 : Nat), ∃ (Q10 : Nat), e = .returned (.agg #[.slice Q6 Q8 Q7, .slice Q9 Q11 Q10]) ∧ Mv [] w [ow 9 1 encS okS (.slice Q6 Q8 Q7) a.reads, ow 9 1 encS okS (.slice Q9 Q11 Q10) a.writes] w' := by
 have uU : True := (fun _ _ => trivial) p0 p1
 clear uU
 have Q14 : RdA 1 encS okS (V H w []) w (.slice a_Ra a_Rn a_Rc) a.reads := RdA.start Q12 (fun _ _ => fps_nil _)
 obtain ⟨Q18, Q16, Q26, Q28⟩ := RdA.inv Q12
 have Q15 : RdA 1 encS okS (V H w []) w (.slice a_Wa a_Wn a_Wc) a.writes := RdA.start Q13 (fun _ _ => fps_nil _)
 obtain ⟨Q19, Q17, Q27, Q29⟩ := RdA.inv Q13
 refine calls_enter 13 Tryz.func67 rfl Tryz.ntmps67 (Nat.le_of_ble_eq_true rfl) (fun _ F0i => ?_)
 have F0 : Fr 13 [(0, .agg #[.slice a_Ra a_Rn a_Rc, .slice a_Wa a_Wn a_Wc])] _ := F0i
 clear F0i
 refine wp_seq (wp_region_lit (l_op (f_box F0 (At.nil w) rfl rfl rfl (F0.ev 0 rfl) rfl rfl fun b1 _ w1 F2 S1 => ?_)))
 refine l_op (f_alloc F2 S1.at' ZI_55 rfl rfl rfl rfl rfl fun b3 _ w3 F4 S3 => ?_)
 have T5 : Mv _ _ [bx b3 [.slice none 0 0, .slice none 0 0] 55, bx b1 [.slice a_Ra a_Rn a_Rc, .slice a_Wa a_Wn a_Wc] 80] _ := S3
 refine s_end (x_normal (wp_seq (wp_region_lit (l_op (f_alloc F4 T5.at' ZI_55 rfl rfl rfl rfl rfl fun b6 _ w6 F7 S6 => ?_)))))
 refine s_end (x_normal (wp_seq (wp_region_lit (l_op (f_val F7 rfl rfl (r_field FI_80_0 rfl (F7.ev 1 rfl) rfl) rfl fun _ F8 => ?_)))))
 refine l_op (f_val (v := .slice a_Ra a_Rn a_Rc) F8 rfl rfl (r_loadB S6.at' 2 TI_30 rfl rfl (F8.ev 4 rfl) rfl rfl (fun _ => rfl) rfl) rfl fun _ F9 => ?_)
 refine l_op (f_call F9 CF_23 rfl rfl rfl rfl (lc (F9.ev 5 rfl) rfl) (laws_toStringS_c (a := a.reads) (RdA.mv (Nat.succ_pos _) Q14 (S1.trans (T5.trans S6))) (by first | assumption | omega | (simp <;> omega))) ?_)
 rintro _ w10 ⟨Q0, Q2, Q1, rfl, m10⟩
 refine ⟨_, rfl, fun _ F11 => ?_⟩
 have S10 : Mv _ _ [ow 9 1 encS okS (.slice Q0 Q2 Q1) a.reads, bx b6 [.slice none 0 0, .slice none 0 0] 55, bx b3 [.slice none 0 0, .slice none 0 0] 55, bx b1 [.slice a_Ra a_Rn a_Rc, .slice a_Wa a_Wn a_Wc] 80] _ := At.frame S6.at' [] rfl m10
 obtain ⟨Q20, Q22, Q24⟩ := At.ownInv S10.at' ET_30.hk 0 rfl
 clear m10
 refine l_op (f_val F11 rfl rfl (r_field FI_55_0 rfl (F11.ev 3 rfl) rfl) rfl fun _ F12 => ?_)
 refine l_op (s_store S10.at' 1 TI_30 rfl rfl rfl rfl rfl (F12.ev 7 rfl) (F12.ev 6 rfl) rfl rfl rfl rfl rfl fun w13 S13 => ?_)
 have T14 : Mv _ _ [bx b6 [.slice Q0 Q2 Q1, .slice none 0 0] 55, ow 9 1 encS okS (.slice Q0 Q2 Q1) a.reads, bx b3 [.slice none 0 0, .slice none 0 0] 55, bx b1 [.slice a_Ra a_Rn a_Rc, .slice a_Wa a_Wn a_Wc] 80] _ := S13
 refine s_end (x_normal (wp_seq (wp_region_lit (l_op (f_val F12 rfl rfl (r_field FI_80_1 rfl (F12.ev 1 rfl) rfl) rfl fun _ F15 => ?_)))))
 refine l_op (f_val (v := .slice a_Wa a_Wn a_Wc) F15 rfl rfl (r_loadB T14.at' 3 TI_30 rfl rfl (F15.ev 8 rfl) rfl rfl (fun _ => rfl) rfl) rfl fun _ F16 => ?_)
 refine l_op (f_call F16 CF_23 rfl rfl rfl rfl (lc (F16.ev 9 rfl) rfl) (laws_toStringS_c (a := a.writes) (RdA.mv (Nat.succ_pos _) Q15 (S1.trans (T5.trans (S6.trans (S10.trans T14))))) (by first | assumption | omega | (simp <;> omega))) ?_)
 rintro _ w17 ⟨Q3, Q5, Q4, rfl, m17⟩
 refine ⟨_, rfl, fun _ F18 => ?_⟩
 have S17 : Mv _ _ [ow 9 1 encS okS (.slice Q3 Q5 Q4) a.writes, bx b6 [.slice Q0 Q2 Q1, .slice none 0 0] 55, ow 9 1 encS okS (.slice Q0 Q2 Q1) a.reads, bx b3 [.slice none 0 0, .slice none 0 0] 55, bx b1 [.slice a_Ra a_Rn a_Rc, .slice a_Wa a_Wn a_Wc] 80] _ := At.frame T14.at' [] rfl m17
 obtain ⟨Q21, Q23, Q25⟩ := At.ownInv S17.at' ET_30.hk 0 rfl
 clear m17
 refine l_op (f_val F18 rfl rfl (r_field FI_55_1 rfl (F18.ev 3 rfl) rfl) rfl fun _ F19 => ?_)
 refine l_op (s_store S17.at' 1 TI_30 rfl rfl rfl rfl rfl (F19.ev 11 rfl) (F19.ev 10 rfl) rfl rfl rfl rfl rfl fun w20 S20 => ?_)
 have F21 : Fr 13 [(11, .pointer (some ⟨b6, 1, none⟩)), (10, .slice Q3 Q5 Q4), (3, .pointer (some ⟨b6, 0, none⟩)), (2, .pointer (some ⟨b3, 0, none⟩))] _ := F19.cut rfl
 clear F0 F2 F4 F7 F8 F9 F11 F12 F15 F16 F18 F19
 have T22 : Mv _ _ [bx b6 [.slice Q0 Q2 Q1, .slice Q3 Q5 Q4] 55, ow 9 1 encS okS (.slice Q3 Q5 Q4) a.writes, ow 9 1 encS okS (.slice Q0 Q2 Q1) a.reads, bx b3 [.slice none 0 0, .slice none 0 0] 55, bx b1 [.slice a_Ra a_Rn a_Rc, .slice a_Wa a_Wn a_Wc] 80] _ := S20
 refine s_end (x_normal (wp_seq (wp_region_lit (l_op (f_val (v := .agg #[.slice Q0 Q2 Q1, .slice Q3 Q5 Q4]) F21 rfl rfl (r_loadB T22.at' 0 TI_55 rfl rfl (F21.ev 3 rfl) rfl rfl (fun h => nomatch h) rfl) rfl fun _ F23 => ?_)))))
 refine l_op (s_store T22.at' 3 TI_55 rfl rfl rfl rfl rfl (F23.ev 2 rfl) (F23.ev 12 rfl) rfl rfl rfl rfl rfl fun w24 S24 => ?_)
 refine s_end (x_normal (wp_ret ?_))
 refine x_done (v := .agg #[.slice Q0 Q2 Q1, .slice Q3 Q5 Q4]) F23 (results_1 Tryz.results67 (.cell (F23.ev 2 rfl) (run_loadVar' TI_55 _ [.slice Q0 Q2 Q1, .slice Q3 Q5 Q4] rfl (fun h => nomatch h) (At.cells S24.at' 0 rfl 0 [.slice Q0 Q2 Q1, .slice Q3 Q5 Q4] rfl)))) ?_
 exact ⟨Q0, Q2, Q1, Q3, Q5, Q4, rfl, (Mv.pick (S1.trans (T5.trans (S6.trans (S10.trans (T14.trans (S17.trans (T22.trans S24))))))) [3, 2] rfl)⟩
theorem laws_eqTouch_c {w : World} {H : Nat → Prop} {a : TouchD} {a_Ra : Option Addr} {a_Rn a_Rc : Nat} {a_Wa : Option Addr} {a_Wn a_Wc : Nat} {b : TouchD} {b_Ra : Option Addr} {b_Rn b_Rc : Nat} {b_Wa : Option Addr} {b_Wn b_Wc : Nat} (Q0 : Rd 1 encS okS H w (.slice a_Ra a_Rn a_Rc) a.reads) (Q1 : Rd 1 encS okS H w (.slice a_Wa a_Wn a_Wc) a.writes) (Q2 : Rd 1 encS okS H w (.slice b_Ra b_Rn b_Rc) b.reads) (Q3 : Rd 1 encS okS H w (.slice b_Wa b_Wn b_Wc) b.writes) (p0 : a = b) :
    Calls Tryz.prog 74 #[.agg #[.slice a_Ra a_Rn a_Rc, .slice a_Wa a_Wn a_Wc], .agg #[.slice b_Ra b_Rn b_Rc, .slice b_Wa b_Wn b_Wc]] w fun e w' => e = .returned (.bool true) ∧ Mv [] w [] w' := by
 have Q4 : Rd 1 encS okS (V H w []) w (.slice a_Ra a_Rn a_Rc) a.reads := Rd.start Q0 (fun _ _ => fps_nil _)
 obtain ⟨Q12, Q8, Q16, Q20⟩ := Rd.inv Q0
 have Q5 : Rd 1 encS okS (V H w []) w (.slice a_Wa a_Wn a_Wc) a.writes := Rd.start Q1 (fun _ _ => fps_nil _)
 obtain ⟨Q13, Q9, Q17, Q21⟩ := Rd.inv Q1
 have Q6 : Rd 1 encS okS (V H w []) w (.slice b_Ra b_Rn b_Rc) b.reads := Rd.start Q2 (fun _ _ => fps_nil _)
 obtain ⟨Q14, Q10, Q18, Q22⟩ := Rd.inv Q2
 have Q7 : Rd 1 encS okS (V H w []) w (.slice b_Wa b_Wn b_Wc) b.writes := Rd.start Q3 (fun _ _ => fps_nil _)
 obtain ⟨Q15, Q11, Q19, Q23⟩ := Rd.inv Q3
 refine calls_enter 17 Tryz.func74 rfl Tryz.ntmps74 (Nat.le_of_ble_eq_true rfl) (fun _ F0i => ?_)
 have F0 : Fr 17 [(0, .agg #[.slice a_Ra a_Rn a_Rc, .slice a_Wa a_Wn a_Wc]), (1, .agg #[.slice b_Ra b_Rn b_Rc, .slice b_Wa b_Wn b_Wc])] _ := F0i
 clear F0i
 refine wp_seq (wp_region_lit (l_op (f_box F0 (At.nil w) rfl rfl rfl (F0.ev 0 rfl) rfl rfl fun b1 _ w1 F2 S1 => ?_)))
 refine l_op (f_box F2 S1.at' rfl rfl rfl (F2.ev 1 rfl) rfl rfl fun b3 _ w3 F4 S3 => ?_)
 refine l_op (f_val F4 rfl rfl (r_assign rfl rfl) rfl fun _ F5 => ?_)
 have T6 : Mv _ _ [bx b3 [.slice b_Ra b_Rn b_Rc, .slice b_Wa b_Wn b_Wc] 55, bx b1 [.slice a_Ra a_Rn a_Rc, .slice a_Wa a_Wn a_Wc] 55] _ := S3
 refine s_end (x_normal (wp_seq (wp_seq (wp_region_lit (l_op (f_val F5 rfl rfl (r_field FI_55_0 rfl (F5.ev 2 rfl) rfl) rfl fun _ F7 => ?_))))))
 refine l_op (f_val (v := .slice a_Ra a_Rn a_Rc) F7 rfl rfl (r_loadB T6.at' 1 TI_30 rfl rfl (F7.ev 5 rfl) rfl rfl (fun _ => rfl) rfl) rfl fun _ F8 => ?_)
 refine l_op (f_val F8 rfl rfl (r_field FI_55_0 rfl (F8.ev 3 rfl) rfl) rfl fun _ F9 => ?_)
 refine l_op (f_val (v := .slice b_Ra b_Rn b_Rc) F9 rfl rfl (r_loadB T6.at' 0 TI_30 rfl rfl (F9.ev 7 rfl) rfl rfl (fun _ => rfl) rfl) rfl fun _ F10 => ?_)
 refine l_op (f_call F10 CF_33 rfl rfl rfl rfl (lc (F10.ev 6 rfl) (lc (F10.ev 8 rfl) rfl)) (laws_eqStringS_c (a := a.reads) (b := b.reads) (Rd.mv (Nat.succ_pos _) Q4 (S1.trans T6)) (Rd.mv (Nat.succ_pos _) Q6 (S1.trans T6)) (by rw [p0])) ?_)
 rintro _ w11 ⟨rfl, m11⟩
 refine ⟨_, rfl, fun _ F12 => ?_⟩
 have S11 := At.frame0 T6.at' m11
 clear m11
 refine l_op (f_val F12 rfl rfl (r_not rfl (F12.ev 9 rfl)) rfl fun _ F13 => ?_)
 have F14 : Fr 17 [(10, .bool false), (3, .pointer (some ⟨b3, 0, none⟩)), (2, .pointer (some ⟨b1, 0, none⟩))] _ := F13.cut rfl
 clear F0 F2 F4 F5 F7 F8 F9 F10 F12 F13
 refine s_end (x_normal (wp_cond_false (F14.ev 10 rfl) (wp_skip (x_normal (wp_seq (wp_seq (wp_region_lit (l_op (f_val F14 rfl rfl (r_field FI_55_1 rfl (F14.ev 2 rfl) rfl) rfl fun _ F15 => ?_)))))))))
 refine l_op (f_val (v := .slice a_Wa a_Wn a_Wc) F15 rfl rfl (r_loadB S11.at' 1 TI_30 rfl rfl (F15.ev 11 rfl) rfl rfl (fun _ => rfl) rfl) rfl fun _ F16 => ?_)
 refine l_op (f_val F16 rfl rfl (r_field FI_55_1 rfl (F16.ev 3 rfl) rfl) rfl fun _ F17 => ?_)
 refine l_op (f_val (v := .slice b_Wa b_Wn b_Wc) F17 rfl rfl (r_loadB S11.at' 0 TI_30 rfl rfl (F17.ev 13 rfl) rfl rfl (fun _ => rfl) rfl) rfl fun _ F18 => ?_)
 refine l_op (f_call F18 CF_33 rfl rfl rfl rfl (lc (F18.ev 12 rfl) (lc (F18.ev 14 rfl) rfl)) (laws_eqStringS_c (a := a.writes) (b := b.writes) (Rd.mv (Nat.succ_pos _) Q5 (S1.trans (T6.trans S11))) (Rd.mv (Nat.succ_pos _) Q7 (S1.trans (T6.trans S11))) (by rw [p0])) ?_)
 rintro _ w19 ⟨rfl, m19⟩
 refine ⟨_, rfl, fun _ F20 => ?_⟩
 have S19 := At.frame0 S11.at' m19
 clear m19
 refine l_op (f_val F20 rfl rfl (r_not rfl (F20.ev 15 rfl)) rfl fun _ F21 => ?_)
 have T22 : Mv _ _ [bx b3 [.slice b_Ra b_Rn b_Rc, .slice b_Wa b_Wn b_Wc] 55, bx b1 [.slice a_Ra a_Rn a_Rc, .slice a_Wa a_Wn a_Wc] 55] _ := S19
 refine s_end (x_normal (wp_cond_false (F21.ev 16 rfl) (wp_skip (x_normal (wp_seq (wp_region_lit (l_op (f_val F21 rfl rfl (r_assign rfl rfl) rfl fun _ F23 => ?_))))))))
 refine s_end (x_normal (wp_ret ?_))
 refine x_done (v := .bool true) F23 (results_1 Tryz.results74 (.tmp (F23.ev 4 rfl))) ?_
 exact ⟨rfl, (Mv.pick (S1.trans (T6.trans (S11.trans T22))) [] rfl)⟩
theorem laws_szCall_c {w : World} {H : Nat → Prop} {a : CallD} {left : Int} (Q1 : i64ok a.kind) (Q2 : okS a.name) (Q4 : okS a.to_) (h_a_a : i64ok a.a) (Q0 : i64ok a.b) (Q3 : okS a.text) (Q5 : i64ok left) (p0 : 0 ≤ left) (p1 : left ≤ 1048576) :
    Calls Tryz.prog 78 #[.agg #[.int .i64 a.kind, .string a.name, .string a.to_, .int .i64 a.a, .int .i64 a.b, .string a.text], .int .i64 left] w fun e w' => e = .returned (.int .i64 (subOr left (szCallD a))) ∧ Mv [] w [] w' ∧ i64ok (subOr left (szCallD a)) := by
 have uU : True := (fun _ _ _ _ _ => trivial) H Q1 h_a_a Q0 Q5
 clear uU
 unfold okS at Q2 Q4 Q3
 refine calls_enter 27 Tryz.func78 rfl Tryz.ntmps78 (Nat.le_of_ble_eq_true rfl) (fun _ F0i => ?_)
 have F0 : Fr 27 [(0, .agg #[.int .i64 a.kind, .string a.name, .string a.to_, .int .i64 a.a, .int .i64 a.b, .string a.text]), (1, .int .i64 left)] _ := F0i
 clear F0i
 refine wp_seq (wp_region_lit (l_op (f_box F0 (At.nil w) rfl rfl rfl (F0.ev 0 rfl) rfl rfl fun b1 _ w1 F2 S1 => ?_)))
 refine l_op (f_val F2 rfl rfl (r_assign rfl rfl) rfl fun _ F3 => ?_)
 refine s_end (x_normal (wp_seq (wp_region_lit (l_op (f_mv F3 rfl rfl rfl rfl rfl fun _ F4 => ?_)))))
 refine l_op (f_val F4 rfl rfl (r_field FI_132_1 rfl (F4.ev 2 rfl) rfl) rfl fun _ F5 => ?_)
 refine l_op (f_val (v := .string a.name) F5 rfl rfl (r_loadB S1.at' 0 TI_9 rfl rfl (F5.ev 6 rfl) rfl rfl (fun _ => rfl) rfl) rfl fun _ F6 => ?_)
 refine l_op (f_val F6 rfl rfl (r_lenS (fun t ht => by cases ht; exact Tryz.underlying9) rfl rfl (F6.ev 7 rfl)) rfl fun _ F7 => ?_)
 refine l_op (f_val F7 rfl rfl (r_sub (z := (left - ((a.name.size : Nat) : Int))) rfl (F7.ev 5 rfl) (F7.ev 8 rfl) (by first | rfl | omega) ⟨by first | omega | (unfold i64ok at *; omega), by first | omega | (unfold i64ok at *; omega)⟩) rfl fun _ F8 => ?_)
 refine l_op (f_as F8 rfl rfl rfl rfl rfl fun _ F9 => ?_)
 refine s_end (x_normal (wp_seq (wp_seq (wp_region_lit (l_op (f_mv F9 rfl rfl rfl rfl rfl fun _ F10 => ?_))))))
 refine l_op (f_val F10 rfl rfl (r_cmp (b := decide ((left - ((a.name.size : Nat) : Int)) < 0)) (.inr (.inr (.inl rfl))) rfl (F10.ev 10 rfl) rfl (dec_of (by omega))) rfl fun _ F11 => ?_)
 have F12 : Fr 27 [(11, .bool (decide ((left - ((a.name.size : Nat) : Int)) < 0))), (1, .int .i64 (left - ((a.name.size : Nat) : Int))), (2, .pointer (some ⟨b1, 0, none⟩))] _ := F11.cut rfl
 clear F0 F2 F3 F4 F5 F6 F7 F8 F9 F10 F11
 refine s_end (x_normal (x_cond (p := (left - ((a.name.size : Nat) : Int)) < 0) (F12.ev 11 rfl) (fun h13 => ?_) (fun h13 => ?_)))
 · skip
   refine wp_seq (wp_region_lit (l_op (f_val F12 rfl rfl (r_assign rfl rfl) rfl fun _ F14 => ?_)))
   refine s_end (x_normal (wp_ret (x_then_ret ?_)))
   refine x_done (v := .int .i64 (-1)) F14 (results_1 Tryz.results78 (.tmp (F14.ev 4 rfl))) ?_
   exact ⟨(by rw [(show (-1) = (subOr left (szCallD a)) from by unfold szCallD; first | exact sz3_a (by assumption) | exact sz3_b (by assumption) | exact sz3_c (by assumption) | exact sz3_d (by assumption))]), (Mv.pick S1 [] rfl), subOr_i64 p0 p1⟩
 · skip
   refine wp_skip (x_normal (wp_seq (wp_region_lit (l_op (f_mv F12 rfl rfl rfl rfl rfl fun _ F15 => ?_)))))
   refine l_op (f_val F15 rfl rfl (r_field FI_132_2 rfl (F15.ev 2 rfl) rfl) rfl fun _ F16 => ?_)
   refine l_op (f_val (v := .string a.to_) F16 rfl rfl (r_loadB S1.at' 0 TI_9 rfl rfl (F16.ev 13 rfl) rfl rfl (fun _ => rfl) rfl) rfl fun _ F17 => ?_)
   refine l_op (f_val F17 rfl rfl (r_lenS (fun t ht => by cases ht; exact Tryz.underlying9) rfl rfl (F17.ev 14 rfl)) rfl fun _ F18 => ?_)
   refine l_op (f_val F18 rfl rfl (r_sub (z := ((left - ((a.name.size : Nat) : Int)) - ((a.to_.size : Nat) : Int))) rfl (F18.ev 12 rfl) (F18.ev 15 rfl) (by first | rfl | omega) ⟨by first | omega | (unfold i64ok at *; omega), by first | omega | (unfold i64ok at *; omega)⟩) rfl fun _ F19 => ?_)
   refine l_op (f_as F19 rfl rfl rfl rfl rfl fun _ F20 => ?_)
   refine s_end (x_normal (wp_seq (wp_seq (wp_region_lit (l_op (f_mv F20 rfl rfl rfl rfl rfl fun _ F21 => ?_))))))
   refine l_op (f_val F21 rfl rfl (r_cmp (b := decide (((left - ((a.name.size : Nat) : Int)) - ((a.to_.size : Nat) : Int)) < 0)) (.inr (.inr (.inl rfl))) rfl (F21.ev 17 rfl) rfl (dec_of (by omega))) rfl fun _ F22 => ?_)
   refine s_end (x_normal (x_cond (p := ((left - ((a.name.size : Nat) : Int)) - ((a.to_.size : Nat) : Int)) < 0) (F22.ev 18 rfl) (fun h23 => ?_) (fun h23 => ?_)))
   · skip
     refine wp_seq (wp_region_lit (l_op (f_val F22 rfl rfl (r_assign rfl rfl) rfl fun _ F24 => ?_)))
     have F25 : Fr 27 [(4, .int .i64 (-1))] _ := F24.cut rfl
     clear F12 F15 F16 F17 F18 F19 F20 F21 F22 F24
     refine s_end (x_normal (wp_ret (x_then_ret ?_)))
     refine x_done (v := .int .i64 (-1)) F25 (results_1 Tryz.results78 (.tmp (F25.ev 4 rfl))) ?_
     exact ⟨(by rw [(show (-1) = (subOr left (szCallD a)) from by unfold szCallD; first | exact sz3_a (by assumption) | exact sz3_b (by assumption) | exact sz3_c (by assumption) | exact sz3_d (by assumption))]), (Mv.pick S1 [] rfl), subOr_i64 p0 p1⟩
   · skip
     refine wp_skip (x_normal (wp_seq (wp_region_lit (l_op (f_mv F22 rfl rfl rfl rfl rfl fun _ F26 => ?_)))))
     refine l_op (f_val F26 rfl rfl (r_field FI_132_5 rfl (F26.ev 2 rfl) rfl) rfl fun _ F27 => ?_)
     refine l_op (f_val (v := .string a.text) F27 rfl rfl (r_loadB S1.at' 0 TI_9 rfl rfl (F27.ev 20 rfl) rfl rfl (fun _ => rfl) rfl) rfl fun _ F28 => ?_)
     refine l_op (f_val F28 rfl rfl (r_lenS (fun t ht => by cases ht; exact Tryz.underlying9) rfl rfl (F28.ev 21 rfl)) rfl fun _ F29 => ?_)
     refine l_op (f_val F29 rfl rfl (r_sub (z := (((left - ((a.name.size : Nat) : Int)) - ((a.to_.size : Nat) : Int)) - ((a.text.size : Nat) : Int))) rfl (F29.ev 19 rfl) (F29.ev 22 rfl) (by first | rfl | omega) ⟨by first | omega | (unfold i64ok at *; omega), by first | omega | (unfold i64ok at *; omega)⟩) rfl fun _ F30 => ?_)
     refine l_op (f_as F30 rfl rfl rfl rfl rfl fun _ F31 => ?_)
     have F32 : Fr 27 [(1, .int .i64 (((left - ((a.name.size : Nat) : Int)) - ((a.to_.size : Nat) : Int)) - ((a.text.size : Nat) : Int)))] _ := F31.cut rfl
     clear F12 F15 F16 F17 F18 F19 F20 F21 F22 F26 F27 F28 F29 F30 F31
     refine s_end (x_normal (wp_seq (wp_seq (wp_region_lit (l_op (f_mv F32 rfl rfl rfl rfl rfl fun _ F33 => ?_))))))
     refine l_op (f_val F33 rfl rfl (r_cmp (b := decide ((((left - ((a.name.size : Nat) : Int)) - ((a.to_.size : Nat) : Int)) - ((a.text.size : Nat) : Int)) < 0)) (.inr (.inr (.inl rfl))) rfl (F33.ev 24 rfl) rfl (dec_of (by omega))) rfl fun _ F34 => ?_)
     refine s_end (x_normal (x_cond (p := (((left - ((a.name.size : Nat) : Int)) - ((a.to_.size : Nat) : Int)) - ((a.text.size : Nat) : Int)) < 0) (F34.ev 25 rfl) (fun h35 => ?_) (fun h35 => ?_)))
     · skip
       refine wp_seq (wp_region_lit (l_op (f_val F34 rfl rfl (r_assign rfl rfl) rfl fun _ F36 => ?_)))
       refine s_end (x_normal (wp_ret (x_then_ret ?_)))
       refine x_done (v := .int .i64 (-1)) F36 (results_1 Tryz.results78 (.tmp (F36.ev 4 rfl))) ?_
       exact ⟨(by rw [(show (-1) = (subOr left (szCallD a)) from by unfold szCallD; first | exact sz3_a (by assumption) | exact sz3_b (by assumption) | exact sz3_c (by assumption) | exact sz3_d (by assumption))]), (Mv.pick S1 [] rfl), subOr_i64 p0 p1⟩
     · skip
       refine wp_skip (x_normal (wp_seq (wp_region_lit (l_op (f_mv F34 rfl rfl rfl rfl rfl fun _ F37 => ?_)))))
       refine l_op (f_as F37 rfl rfl rfl rfl rfl fun _ F38 => ?_)
       refine s_end (x_normal (wp_ret ?_))
       refine x_done (v := .int .i64 (((left - ((a.name.size : Nat) : Int)) - ((a.to_.size : Nat) : Int)) - ((a.text.size : Nat) : Int))) F38 (results_1 Tryz.results78 (.tmp (F38.ev 4 rfl))) ?_
       exact ⟨(by rw [(show (((left - ((a.name.size : Nat) : Int)) - ((a.to_.size : Nat) : Int)) - ((a.text.size : Nat) : Int)) = (subOr left (szCallD a)) from by unfold szCallD; first | exact sz3_a (by assumption) | exact sz3_b (by assumption) | exact sz3_c (by assumption) | exact sz3_d (by assumption))]), (Mv.pick S1 [] rfl), subOr_i64 p0 p1⟩
theorem laws_szAnswer_c {w : World} {H : Nat → Prop} {a : AnsD} {left : Int} (Q0 : i64ok a.code) (h_a_n : i64ok a.n) (Q1 : okS a.text) (Q2 : i64ok left) (p0 : 0 ≤ left) (p1 : left ≤ 1048576) :
    Calls Tryz.prog 79 #[.agg #[.int .i64 a.code, .int .i64 a.n, .string a.text], .int .i64 left] w fun e w' => e = .returned (.int .i64 (subOr left (szAnsD a))) ∧ Mv [] w [] w' ∧ i64ok (subOr left (szAnsD a)) := by
 have uU : True := (fun _ _ _ _ => trivial) H Q0 h_a_n Q2
 clear uU
 unfold okS at Q1
 refine calls_enter 13 Tryz.func79 rfl Tryz.ntmps79 (Nat.le_of_ble_eq_true rfl) (fun _ F0i => ?_)
 have F0 : Fr 13 [(0, .agg #[.int .i64 a.code, .int .i64 a.n, .string a.text]), (1, .int .i64 left)] _ := F0i
 clear F0i
 refine wp_seq (wp_region_lit (l_op (f_box F0 (At.nil w) rfl rfl rfl (F0.ev 0 rfl) rfl rfl fun b1 _ w1 F2 S1 => ?_)))
 refine l_op (f_val F2 rfl rfl (r_assign rfl rfl) rfl fun _ F3 => ?_)
 refine s_end (x_normal (wp_seq (wp_region_lit (l_op (f_mv F3 rfl rfl rfl rfl rfl fun _ F4 => ?_)))))
 refine l_op (f_val F4 rfl rfl (r_field FI_135_2 rfl (F4.ev 2 rfl) rfl) rfl fun _ F5 => ?_)
 refine l_op (f_val (v := .string a.text) F5 rfl rfl (r_loadB S1.at' 0 TI_9 rfl rfl (F5.ev 6 rfl) rfl rfl (fun _ => rfl) rfl) rfl fun _ F6 => ?_)
 refine l_op (f_val F6 rfl rfl (r_lenS (fun t ht => by cases ht; exact Tryz.underlying9) rfl rfl (F6.ev 7 rfl)) rfl fun _ F7 => ?_)
 refine l_op (f_val F7 rfl rfl (r_sub (z := (left - ((a.text.size : Nat) : Int))) rfl (F7.ev 5 rfl) (F7.ev 8 rfl) (by first | rfl | omega) ⟨by first | omega | (unfold i64ok at *; omega), by first | omega | (unfold i64ok at *; omega)⟩) rfl fun _ F8 => ?_)
 refine l_op (f_as F8 rfl rfl rfl rfl rfl fun _ F9 => ?_)
 refine s_end (x_normal (wp_seq (wp_seq (wp_region_lit (l_op (f_mv F9 rfl rfl rfl rfl rfl fun _ F10 => ?_))))))
 refine l_op (f_val F10 rfl rfl (r_cmp (b := decide ((left - ((a.text.size : Nat) : Int)) < 0)) (.inr (.inr (.inl rfl))) rfl (F10.ev 10 rfl) rfl (dec_of (by omega))) rfl fun _ F11 => ?_)
 have F12 : Fr 13 [(11, .bool (decide ((left - ((a.text.size : Nat) : Int)) < 0))), (1, .int .i64 (left - ((a.text.size : Nat) : Int)))] _ := F11.cut rfl
 clear F0 F2 F3 F4 F5 F6 F7 F8 F9 F10 F11
 refine s_end (x_normal (x_cond (p := (left - ((a.text.size : Nat) : Int)) < 0) (F12.ev 11 rfl) (fun h13 => ?_) (fun h13 => ?_)))
 · skip
   refine wp_seq (wp_region_lit (l_op (f_val F12 rfl rfl (r_assign rfl rfl) rfl fun _ F14 => ?_)))
   refine s_end (x_normal (wp_ret (x_then_ret ?_)))
   refine x_done (v := .int .i64 (-1)) F14 (results_1 Tryz.results79 (.tmp (F14.ev 4 rfl))) ?_
   exact ⟨(by rw [(show (-1) = (subOr left (szAnsD a)) from by unfold szAnsD; first | exact sz1_a (by assumption) | exact sz1_b (by assumption))]), (Mv.pick S1 [] rfl), subOr_i64 p0 p1⟩
 · skip
   refine wp_skip (x_normal (wp_seq (wp_region_lit (l_op (f_mv F12 rfl rfl rfl rfl rfl fun _ F15 => ?_)))))
   refine l_op (f_as F15 rfl rfl rfl rfl rfl fun _ F16 => ?_)
   refine s_end (x_normal (wp_ret ?_))
   refine x_done (v := .int .i64 (left - ((a.text.size : Nat) : Int))) F16 (results_1 Tryz.results79 (.tmp (F16.ev 4 rfl))) ?_
   exact ⟨(by rw [(show (left - ((a.text.size : Nat) : Int)) = (subOr left (szAnsD a)) from by unfold szAnsD; first | exact sz1_a (by assumption) | exact sz1_b (by assumption))]), (Mv.pick S1 [] rfl), subOr_i64 p0 p1⟩
theorem laws_szCallS_c {w : World} {H : Nat → Prop} {a : List CallD} {a_a : Option Addr} {a_n a_c : Nat} {left : Int} (v_a : RdA 6 encK okK H w (.slice a_a a_n a_c) a) (Q0 : i64ok left) (p0 : 0 ≤ left) (p1 : left ≤ 1048576) :
    Calls Tryz.prog 58 #[.slice a_a a_n a_c, .int .i64 left] w fun e w' => e = .returned (.int .i64 (subOr left (szCalls a))) ∧ Mv [] w [] w' ∧ i64ok (subOr left (szCalls a)) := by
 have uU : True := (fun _ => trivial) Q0
 clear uU
 have V_v_a : RdA 6 encK okK (V H w []) w (.slice a_a a_n a_c) a := RdA.start v_a (fun _ _ => fps_nil _)
 obtain ⟨ln_a, le_a, mx_a, ni_a⟩ := RdA.inv v_a
 refine calls_enter 27 Tryz.func58 rfl Tryz.ntmps58 (Nat.le_of_ble_eq_true rfl) (fun _ F0i => ?_)
 have F0 : Fr 27 [(0, .slice a_a a_n a_c), (1, .int .i64 left)] _ := F0i
 clear F0i
 refine wp_seq (wp_region_lit (l_op (f_val F0 rfl rfl (r_assign rfl rfl) rfl fun _ F1 => ?_)))
 refine s_end (x_normal (wp_seq (wp_region_lit (l_op (f_mv F1 rfl rfl rfl rfl rfl fun _ F2 => ?_)))))
 refine l_op (f_mv F2 rfl rfl rfl rfl rfl fun _ F3 => ?_)
 refine l_op (f_val F3 rfl rfl (r_len Tryz.underlying78 rfl (F3.ev 7 rfl)) rfl fun _ F4 => ?_)
 refine l_op (f_val F4 rfl rfl (r_sub (z := (left - ((a_n : Nat) : Int))) rfl (F4.ev 6 rfl) (F4.ev 8 rfl) (by first | rfl | omega) ⟨by first | omega | (unfold i64ok at *; omega), by first | omega | (unfold i64ok at *; omega)⟩) rfl fun _ F5 => ?_)
 refine l_op (f_as F5 rfl rfl rfl rfl rfl fun _ F6 => ?_)
 refine s_end (x_normal (wp_seq (wp_seq (wp_region_lit (l_op (f_mv F6 rfl rfl rfl rfl rfl fun _ F7 => ?_))))))
 refine l_op (f_val F7 rfl rfl (r_cmp (b := decide ((left - ((a_n : Nat) : Int)) < 0)) (.inr (.inr (.inl rfl))) rfl (F7.ev 10 rfl) rfl (dec_of (by omega))) rfl fun _ F8 => ?_)
 refine s_end (x_normal (x_cond (p := (left - ((a_n : Nat) : Int)) < 0) (F8.ev 11 rfl) (fun h9 => ?_) (fun h9 => ?_)))
 · skip
   refine wp_seq (wp_region_lit (l_op (f_val F8 rfl rfl (r_assign rfl rfl) rfl fun _ F10 => ?_)))
   have F11 : Fr 27 [(4, .int .i64 (-1))] _ := F10.cut rfl
   clear F0 F1 F2 F3 F4 F5 F6 F7 F8 F10
   refine s_end (x_normal (wp_ret (x_then_ret ?_)))
   refine x_done (v := .int .i64 (-1)) F11 (results_1 Tryz.results58 (.tmp (F11.ev 4 rfl))) ?_
   exact ⟨(by rw [(show (-1) = (subOr left (szCalls a)) from by unfold szCalls; rw [← ln_a]; exact sz_neg (by assumption))]), (Mv.pick (Mv.refl (At.nil w)) [] rfl), subOr_i64 p0 p1⟩
 · skip
   refine wp_skip (x_normal (wp_seq (wp_seq (wp_region_lit (l_op (f_val F8 rfl rfl (r_assign rfl rfl) rfl fun _ F12 => ?_))))))
   have F13 : Fr 27 [(5, .int .i64 0), (1, .int .i64 (left - ((a_n : Nat) : Int))), (0, .slice a_a a_n a_c)] _ := F12.cut rfl
   clear F0 F1 F2 F3 F4 F5 F6 F7 F8 F12
   refine s_end (x_normal (wp_block ?_))
   refine x_loop (fun (k : Nat) aZ wZ => ∃ (lv : Int), Fr 27 [(5, .int .i64 ((k : Nat) : Int)), (1, .int .i64 lv), (0, .slice a_a a_n a_c)] aZ ∧ Mv [] w [] wZ ∧ (k ≤ a_n) ∧ (lv = left - ((a.length + sumOf szCallD (a.take k) : Nat) : Int)) ∧ (0 ≤ lv)) (fun (k : Nat) => a_n - k) (0) ?_ ?_
   · exact ⟨(left - ((a_n : Nat) : Int)), F13.cut rfl, (Mv.refl (At.nil w)), by omega, by have e : sumOf szCallD (a.take 0) = 0 := rfl; rw [e]; omega, by omega⟩
   · rintro k a14 w14 ⟨lv, F14, S14, hk_0, hk_1, hk_2⟩
     refine wp_seq (wp_seq (wp_region_lit (l_op (f_mv F14 rfl rfl rfl rfl rfl fun _ F15 => ?_))))
     refine l_op (f_mv F15 rfl rfl rfl rfl rfl fun _ F16 => ?_)
     refine l_op (f_val F16 rfl rfl (r_len Tryz.underlying78 rfl (F16.ev 13 rfl)) rfl fun _ F17 => ?_)
     refine l_op (f_val F17 rfl rfl (r_cmp (b := decide (k < a_n)) (.inr (.inr (.inl rfl))) rfl (F17.ev 12 rfl) (F17.ev 14 rfl) (dec_of (by omega))) rfl fun _ F18 => ?_)
     refine s_end (x_normal (x_cond (p := k < a_n) (F18.ev 15 rfl) (fun h19 => ?_) (fun h19 => ?_)))
     · skip
       refine wp_skip (x_normal (wp_seq (wp_block (wp_seq (wp_region_lit (l_op (f_mv F18 rfl rfl rfl rfl rfl fun _ F20 => ?_)))))))
       refine l_op (f_mv F20 rfl rfl rfl rfl rfl fun _ F21 => ?_)
       obtain ⟨B22, O22, x1, ad22, hx1, okx1, ln22, cl22⟩ := RdA.at (RdA.mv (Nat.succ_pos _) V_v_a S14) k (by first | assumption | omega)
       clear ln22
       refine l_op (f_val F21 rfl rfl (r_indexAddr (i := k) ET_78 rfl ((F21.ev 18 rfl).trans (by rw [ad22])) (F21.ev 19 rfl) (by omega) (by first | assumption | omega)) rfl fun _ F23 => ?_)
       refine l_op (f_val (v := .agg #[.int .i64 x1.kind, .string x1.name, .string x1.to_, .int .i64 x1.a, .int .i64 x1.b, .string x1.text]) F23 rfl rfl (r_load (cs := [.int .i64 x1.kind, .string x1.name, .string x1.to_, .int .i64 x1.a, .int .i64 x1.b, .string x1.text]) TI_132 rfl (F23.ev 20 rfl) rfl (fun h => nomatch h) (elem_sub (f := 0) cl22 [.int .i64 x1.kind, .string x1.name, .string x1.to_, .int .i64 x1.a, .int .i64 x1.b, .string x1.text] rfl)) rfl fun _ F24 => ?_)
       refine l_op (f_mv F24 rfl rfl rfl rfl rfl fun _ F25 => ?_)
       refine l_op (f_call F25 CF_78 rfl rfl rfl rfl (lc (F25.ev 21 rfl) (lc (F25.ev 22 rfl) rfl)) (laws_szCall_c (H := fun _ => True) (a := x1) (left := lv) okx1.1 okx1.2.1 okx1.2.2.1 okx1.2.2.2.1 okx1.2.2.2.2.1 okx1.2.2.2.2.2 (by first | assumption | exact ⟨by omega, by omega⟩ | (unfold i64ok at *; omega)) (by first | assumption | omega | (simp <;> omega)) (by first | assumption | omega | (simp <;> omega))) ?_)
       rintro _ w26 ⟨rfl, m26, q26_0⟩
       refine ⟨_, rfl, fun _ F27 => ?_⟩
       have S26 := At.frame0 S14.at' m26
       clear m26
       refine l_op (f_as F27 rfl rfl rfl rfl rfl fun _ F28 => ?_)
       have F29 : Fr 27 [(1, .int .i64 (subOr lv (szCallD x1))), (5, .int .i64 ((k : Nat) : Int)), (0, .slice a_a a_n a_c)] _ := F28.cut rfl
       clear F14 F15 F16 F17 F18 F20 F21 F23 F24 F25 F27 F28
       have T30 : Mv _ _ [] _ := S26
       refine s_end (x_normal (wp_seq (wp_region_lit (l_op (f_mv F29 rfl rfl rfl rfl rfl fun _ F31 => ?_)))))
       refine l_op (f_val F31 rfl rfl (r_cmp (b := decide ((subOr lv (szCallD x1)) < 0)) (.inr (.inr (.inl rfl))) rfl (F31.ev 24 rfl) rfl (dec_of (by omega))) rfl fun _ F32 => ?_)
       refine s_end (x_normal (x_cond (p := (subOr lv (szCallD x1)) < 0) (F32.ev 25 rfl) (fun h33 => ?_) (fun h33 => ?_)))
       · skip
         refine wp_seq (wp_region_lit (l_op (f_val F32 rfl rfl (r_assign rfl rfl) rfl fun _ F34 => ?_)))
         refine s_end (x_normal (wp_ret (x_block_ret (x_then_ret (x_then_ret (x_block_ret (x_then_ret ?_)))))))
         refine x_done (v := .int .i64 (-1)) F34 (results_1 Tryz.results58 (.tmp (F34.ev 4 rfl))) ?_
         exact ⟨(by rw [(show (-1) = (subOr left (szCalls a)) from by unfold szCalls; exact sz_stop hx1 hk_1 (by assumption))]), (Mv.pick (S14.trans T30) [] rfl), subOr_i64 p0 p1⟩
       · skip
         refine wp_skip (x_block_normal (x_normal (wp_region_lit (l_op (f_mv F32 rfl rfl rfl rfl rfl fun _ F35 => ?_)))))
         refine l_op (f_val F35 rfl rfl (r_add (z := ((k + 1 : Nat) : Int)) rfl (F35.ev 16 rfl) rfl (by first | rfl | omega) ⟨by first | omega | (unfold i64ok at *; omega), by first | omega | (unfold i64ok at *; omega)⟩) rfl fun _ F36 => ?_)
         refine l_op (f_as F36 rfl rfl rfl rfl rfl fun _ F37 => ?_)
         refine s_end ?_
         refine x_normal ⟨k + 1, by omega, (subOr lv (szCallD x1)), F37.cut rfl, ((S14.trans T30).pick [] rfl), by omega, (sz_next hx1 hk_1 (by assumption)).1, (sz_next hx1 hk_1 (by assumption)).2⟩
     · skip
       refine wp_exit (x_then_exit (x_then_exit (x_block_here (x_normal (wp_seq (wp_region_lit (l_op (f_mv F18 rfl rfl rfl rfl rfl fun _ F38 => ?_))))))))
       refine l_op (f_as F38 rfl rfl rfl rfl rfl fun _ F39 => ?_)
       refine s_end (x_normal (wp_ret ?_))
       refine x_done (v := .int .i64 lv) F39 (results_1 Tryz.results58 (.tmp (F39.ev 4 rfl))) ?_
       exact ⟨(by rw [(show lv = (subOr left (szCalls a)) from by unfold szCalls; exact sz_done (by omega) hk_1 hk_2)]), (Mv.pick S14 [] rfl), subOr_i64 p0 p1⟩
theorem laws_szAnswerS_c {w : World} {H : Nat → Prop} {a : List AnsD} {a_a : Option Addr} {a_n a_c : Nat} {left : Int} (v_a : RdA 3 encR okR H w (.slice a_a a_n a_c) a) (Q0 : i64ok left) (p0 : 0 ≤ left) (p1 : left ≤ 1048576) :
    Calls Tryz.prog 59 #[.slice a_a a_n a_c, .int .i64 left] w fun e w' => e = .returned (.int .i64 (subOr left (szAnss a))) ∧ Mv [] w [] w' ∧ i64ok (subOr left (szAnss a)) := by
 have uU : True := (fun _ => trivial) Q0
 clear uU
 have V_v_a : RdA 3 encR okR (V H w []) w (.slice a_a a_n a_c) a := RdA.start v_a (fun _ _ => fps_nil _)
 obtain ⟨ln_a, le_a, mx_a, ni_a⟩ := RdA.inv v_a
 refine calls_enter 27 Tryz.func59 rfl Tryz.ntmps59 (Nat.le_of_ble_eq_true rfl) (fun _ F0i => ?_)
 have F0 : Fr 27 [(0, .slice a_a a_n a_c), (1, .int .i64 left)] _ := F0i
 clear F0i
 refine wp_seq (wp_region_lit (l_op (f_val F0 rfl rfl (r_assign rfl rfl) rfl fun _ F1 => ?_)))
 refine s_end (x_normal (wp_seq (wp_region_lit (l_op (f_mv F1 rfl rfl rfl rfl rfl fun _ F2 => ?_)))))
 refine l_op (f_mv F2 rfl rfl rfl rfl rfl fun _ F3 => ?_)
 refine l_op (f_val F3 rfl rfl (r_len Tryz.underlying79 rfl (F3.ev 7 rfl)) rfl fun _ F4 => ?_)
 refine l_op (f_val F4 rfl rfl (r_sub (z := (left - ((a_n : Nat) : Int))) rfl (F4.ev 6 rfl) (F4.ev 8 rfl) (by first | rfl | omega) ⟨by first | omega | (unfold i64ok at *; omega), by first | omega | (unfold i64ok at *; omega)⟩) rfl fun _ F5 => ?_)
 refine l_op (f_as F5 rfl rfl rfl rfl rfl fun _ F6 => ?_)
 refine s_end (x_normal (wp_seq (wp_seq (wp_region_lit (l_op (f_mv F6 rfl rfl rfl rfl rfl fun _ F7 => ?_))))))
 refine l_op (f_val F7 rfl rfl (r_cmp (b := decide ((left - ((a_n : Nat) : Int)) < 0)) (.inr (.inr (.inl rfl))) rfl (F7.ev 10 rfl) rfl (dec_of (by omega))) rfl fun _ F8 => ?_)
 refine s_end (x_normal (x_cond (p := (left - ((a_n : Nat) : Int)) < 0) (F8.ev 11 rfl) (fun h9 => ?_) (fun h9 => ?_)))
 · skip
   refine wp_seq (wp_region_lit (l_op (f_val F8 rfl rfl (r_assign rfl rfl) rfl fun _ F10 => ?_)))
   have F11 : Fr 27 [(4, .int .i64 (-1))] _ := F10.cut rfl
   clear F0 F1 F2 F3 F4 F5 F6 F7 F8 F10
   refine s_end (x_normal (wp_ret (x_then_ret ?_)))
   refine x_done (v := .int .i64 (-1)) F11 (results_1 Tryz.results59 (.tmp (F11.ev 4 rfl))) ?_
   exact ⟨(by rw [(show (-1) = (subOr left (szAnss a)) from by unfold szAnss; rw [← ln_a]; exact sz_neg (by assumption))]), (Mv.pick (Mv.refl (At.nil w)) [] rfl), subOr_i64 p0 p1⟩
 · skip
   refine wp_skip (x_normal (wp_seq (wp_seq (wp_region_lit (l_op (f_val F8 rfl rfl (r_assign rfl rfl) rfl fun _ F12 => ?_))))))
   have F13 : Fr 27 [(5, .int .i64 0), (1, .int .i64 (left - ((a_n : Nat) : Int))), (0, .slice a_a a_n a_c)] _ := F12.cut rfl
   clear F0 F1 F2 F3 F4 F5 F6 F7 F8 F12
   refine s_end (x_normal (wp_block ?_))
   refine x_loop (fun (k : Nat) aZ wZ => ∃ (lv : Int), Fr 27 [(5, .int .i64 ((k : Nat) : Int)), (1, .int .i64 lv), (0, .slice a_a a_n a_c)] aZ ∧ Mv [] w [] wZ ∧ (k ≤ a_n) ∧ (lv = left - ((a.length + sumOf szAnsD (a.take k) : Nat) : Int)) ∧ (0 ≤ lv)) (fun (k : Nat) => a_n - k) (0) ?_ ?_
   · exact ⟨(left - ((a_n : Nat) : Int)), F13.cut rfl, (Mv.refl (At.nil w)), by omega, by have e : sumOf szAnsD (a.take 0) = 0 := rfl; rw [e]; omega, by omega⟩
   · rintro k a14 w14 ⟨lv, F14, S14, hk_0, hk_1, hk_2⟩
     refine wp_seq (wp_seq (wp_region_lit (l_op (f_mv F14 rfl rfl rfl rfl rfl fun _ F15 => ?_))))
     refine l_op (f_mv F15 rfl rfl rfl rfl rfl fun _ F16 => ?_)
     refine l_op (f_val F16 rfl rfl (r_len Tryz.underlying79 rfl (F16.ev 13 rfl)) rfl fun _ F17 => ?_)
     refine l_op (f_val F17 rfl rfl (r_cmp (b := decide (k < a_n)) (.inr (.inr (.inl rfl))) rfl (F17.ev 12 rfl) (F17.ev 14 rfl) (dec_of (by omega))) rfl fun _ F18 => ?_)
     refine s_end (x_normal (x_cond (p := k < a_n) (F18.ev 15 rfl) (fun h19 => ?_) (fun h19 => ?_)))
     · skip
       refine wp_skip (x_normal (wp_seq (wp_block (wp_seq (wp_region_lit (l_op (f_mv F18 rfl rfl rfl rfl rfl fun _ F20 => ?_)))))))
       refine l_op (f_mv F20 rfl rfl rfl rfl rfl fun _ F21 => ?_)
       obtain ⟨B22, O22, x1, ad22, hx1, okx1, ln22, cl22⟩ := RdA.at (RdA.mv (Nat.succ_pos _) V_v_a S14) k (by first | assumption | omega)
       clear ln22
       refine l_op (f_val F21 rfl rfl (r_indexAddr (i := k) ET_79 rfl ((F21.ev 18 rfl).trans (by rw [ad22])) (F21.ev 19 rfl) (by omega) (by first | assumption | omega)) rfl fun _ F23 => ?_)
       refine l_op (f_val (v := .agg #[.int .i64 x1.code, .int .i64 x1.n, .string x1.text]) F23 rfl rfl (r_load (cs := [.int .i64 x1.code, .int .i64 x1.n, .string x1.text]) TI_135 rfl (F23.ev 20 rfl) rfl (fun h => nomatch h) (elem_sub (f := 0) cl22 [.int .i64 x1.code, .int .i64 x1.n, .string x1.text] rfl)) rfl fun _ F24 => ?_)
       refine l_op (f_mv F24 rfl rfl rfl rfl rfl fun _ F25 => ?_)
       refine l_op (f_call F25 CF_79 rfl rfl rfl rfl (lc (F25.ev 21 rfl) (lc (F25.ev 22 rfl) rfl)) (laws_szAnswer_c (H := fun _ => True) (a := x1) (left := lv) okx1.1 okx1.2.1 okx1.2.2 (by first | assumption | exact ⟨by omega, by omega⟩ | (unfold i64ok at *; omega)) (by first | assumption | omega | (simp <;> omega)) (by first | assumption | omega | (simp <;> omega))) ?_)
       rintro _ w26 ⟨rfl, m26, q26_0⟩
       refine ⟨_, rfl, fun _ F27 => ?_⟩
       have S26 := At.frame0 S14.at' m26
       clear m26
       refine l_op (f_as F27 rfl rfl rfl rfl rfl fun _ F28 => ?_)
       have F29 : Fr 27 [(1, .int .i64 (subOr lv (szAnsD x1))), (5, .int .i64 ((k : Nat) : Int)), (0, .slice a_a a_n a_c)] _ := F28.cut rfl
       clear F14 F15 F16 F17 F18 F20 F21 F23 F24 F25 F27 F28
       have T30 : Mv _ _ [] _ := S26
       refine s_end (x_normal (wp_seq (wp_region_lit (l_op (f_mv F29 rfl rfl rfl rfl rfl fun _ F31 => ?_)))))
       refine l_op (f_val F31 rfl rfl (r_cmp (b := decide ((subOr lv (szAnsD x1)) < 0)) (.inr (.inr (.inl rfl))) rfl (F31.ev 24 rfl) rfl (dec_of (by omega))) rfl fun _ F32 => ?_)
       refine s_end (x_normal (x_cond (p := (subOr lv (szAnsD x1)) < 0) (F32.ev 25 rfl) (fun h33 => ?_) (fun h33 => ?_)))
       · skip
         refine wp_seq (wp_region_lit (l_op (f_val F32 rfl rfl (r_assign rfl rfl) rfl fun _ F34 => ?_)))
         refine s_end (x_normal (wp_ret (x_block_ret (x_then_ret (x_then_ret (x_block_ret (x_then_ret ?_)))))))
         refine x_done (v := .int .i64 (-1)) F34 (results_1 Tryz.results59 (.tmp (F34.ev 4 rfl))) ?_
         exact ⟨(by rw [(show (-1) = (subOr left (szAnss a)) from by unfold szAnss; exact sz_stop hx1 hk_1 (by assumption))]), (Mv.pick (S14.trans T30) [] rfl), subOr_i64 p0 p1⟩
       · skip
         refine wp_skip (x_block_normal (x_normal (wp_region_lit (l_op (f_mv F32 rfl rfl rfl rfl rfl fun _ F35 => ?_)))))
         refine l_op (f_val F35 rfl rfl (r_add (z := ((k + 1 : Nat) : Int)) rfl (F35.ev 16 rfl) rfl (by first | rfl | omega) ⟨by first | omega | (unfold i64ok at *; omega), by first | omega | (unfold i64ok at *; omega)⟩) rfl fun _ F36 => ?_)
         refine l_op (f_as F36 rfl rfl rfl rfl rfl fun _ F37 => ?_)
         refine s_end ?_
         refine x_normal ⟨k + 1, by omega, (subOr lv (szAnsD x1)), F37.cut rfl, ((S14.trans T30).pick [] rfl), by omega, (sz_next hx1 hk_1 (by assumption)).1, (sz_next hx1 hk_1 (by assumption)).2⟩
     · skip
       refine wp_exit (x_then_exit (x_then_exit (x_block_here (x_normal (wp_seq (wp_region_lit (l_op (f_mv F18 rfl rfl rfl rfl rfl fun _ F38 => ?_))))))))
       refine l_op (f_as F38 rfl rfl rfl rfl rfl fun _ F39 => ?_)
       refine s_end (x_normal (wp_ret ?_))
       refine x_done (v := .int .i64 lv) F39 (results_1 Tryz.results59 (.tmp (F39.ev 4 rfl))) ?_
       exact ⟨(by rw [(show lv = (subOr left (szAnss a)) from by unfold szAnss; exact sz_done (by omega) hk_1 hk_2)]), (Mv.pick S14 [] rfl), subOr_i64 p0 p1⟩
theorem laws_szIntS_c {w : World} {H : Nat → Prop} {a : List Int} {a_a : Option Addr} {a_n a_c : Nat} {left : Int} (v_a : RdA 1 encI okI H w (.slice a_a a_n a_c) a) (Q0 : i64ok left) (p0 : 0 ≤ left) (p1 : left ≤ 1048576) :
    Calls Tryz.prog 61 #[.slice a_a a_n a_c, .int .i64 left] w fun e w' => e = .returned (.int .i64 (subOr left a.length)) ∧ Mv [] w [] w' ∧ i64ok (subOr left a.length) := by
 have uU : True := (fun _ => trivial) Q0
 clear uU
 have V_v_a : RdA 1 encI okI (V H w []) w (.slice a_a a_n a_c) a := RdA.start v_a (fun _ _ => fps_nil _)
 obtain ⟨ln_a, le_a, mx_a, ni_a⟩ := RdA.inv v_a
 refine calls_enter 12 Tryz.func61 rfl Tryz.ntmps61 (Nat.le_of_ble_eq_true rfl) (fun _ F0i => ?_)
 have F0 : Fr 12 [(0, .slice a_a a_n a_c), (1, .int .i64 left)] _ := F0i
 clear F0i
 refine wp_seq (wp_region_lit (l_op (f_val F0 rfl rfl (r_assign rfl rfl) rfl fun _ F1 => ?_)))
 refine s_end (x_normal (wp_seq (wp_region_lit (l_op (f_mv F1 rfl rfl rfl rfl rfl fun _ F2 => ?_)))))
 refine l_op (f_mv F2 rfl rfl rfl rfl rfl fun _ F3 => ?_)
 refine l_op (f_val F3 rfl rfl (r_len Tryz.underlying56 rfl (F3.ev 6 rfl)) rfl fun _ F4 => ?_)
 refine l_op (f_val F4 rfl rfl (r_sub (z := (left - ((a_n : Nat) : Int))) rfl (F4.ev 5 rfl) (F4.ev 7 rfl) (by first | rfl | omega) ⟨by first | omega | (unfold i64ok at *; omega), by first | omega | (unfold i64ok at *; omega)⟩) rfl fun _ F5 => ?_)
 refine l_op (f_as F5 rfl rfl rfl rfl rfl fun _ F6 => ?_)
 refine s_end (x_normal (wp_seq (wp_seq (wp_region_lit (l_op (f_mv F6 rfl rfl rfl rfl rfl fun _ F7 => ?_))))))
 refine l_op (f_val F7 rfl rfl (r_cmp (b := decide ((left - ((a_n : Nat) : Int)) < 0)) (.inr (.inr (.inl rfl))) rfl (F7.ev 9 rfl) rfl (dec_of (by omega))) rfl fun _ F8 => ?_)
 refine s_end (x_normal (x_cond (p := (left - ((a_n : Nat) : Int)) < 0) (F8.ev 10 rfl) (fun h9 => ?_) (fun h9 => ?_)))
 · skip
   refine wp_seq (wp_region_lit (l_op (f_val F8 rfl rfl (r_assign rfl rfl) rfl fun _ F10 => ?_)))
   have F11 : Fr 12 [(4, .int .i64 (-1))] _ := F10.cut rfl
   clear F0 F1 F2 F3 F4 F5 F6 F7 F8 F10
   refine s_end (x_normal (wp_ret (x_then_ret ?_)))
   refine x_done (v := .int .i64 (-1)) F11 (results_1 Tryz.results61 (.tmp (F11.ev 4 rfl))) ?_
   exact ⟨(by rw [(show (-1) = (subOr left a.length) from by rw [← ln_a]; first | exact sz1_a (by assumption) | exact sz1_b (by assumption))]), (Mv.pick (Mv.refl (At.nil w)) [] rfl), subOr_i64 p0 p1⟩
 · skip
   refine wp_skip (x_normal (wp_seq (wp_region_lit (l_op (f_mv F8 rfl rfl rfl rfl rfl fun _ F12 => ?_)))))
   refine l_op (f_as F12 rfl rfl rfl rfl rfl fun _ F13 => ?_)
   have F14 : Fr 12 [(4, .int .i64 (left - ((a_n : Nat) : Int)))] _ := F13.cut rfl
   clear F0 F1 F2 F3 F4 F5 F6 F7 F8 F12 F13
   refine s_end (x_normal (wp_ret ?_))
   refine x_done (v := .int .i64 (left - ((a_n : Nat) : Int))) F14 (results_1 Tryz.results61 (.tmp (F14.ev 4 rfl))) ?_
   exact ⟨(by rw [(show (left - ((a_n : Nat) : Int)) = (subOr left a.length) from by rw [← ln_a]; first | exact sz1_a (by assumption) | exact sz1_b (by assumption))]), (Mv.pick (Mv.refl (At.nil w)) [] rfl), subOr_i64 p0 p1⟩
theorem laws_toCall_c {w : World} {H : Nat → Prop} {a : CallD} (Q1 : i64ok a.kind) (Q2 : okS a.name) (Q4 : okS a.to_) (h_a_a : i64ok a.a) (Q0 : i64ok a.b) (Q3 : okS a.text) :
    Calls Tryz.prog 82 #[.agg #[.int .i64 a.kind, .string a.name, .string a.to_, .int .i64 a.a, .int .i64 a.b, .string a.text]] w fun e w' => e = .returned (.agg #[.int .i64 a.kind, .string a.name, .string a.to_, .int .i64 a.a, .int .i64 a.b, .string a.text]) ∧ Mv [] w [] w' ∧ okS a.name ∧ okS a.to_ ∧ okS a.text ∧ i64ok a.kind ∧ i64ok a.a ∧ i64ok a.b := by
 have uU : True := (fun _ _ _ _ => trivial) H Q1 h_a_a Q0
 clear uU
 refine calls_enter 23 Tryz.func82 rfl Tryz.ntmps82 (Nat.le_of_ble_eq_true rfl) (fun _ F0i => ?_)
 have F0 : Fr 23 [(0, .agg #[.int .i64 a.kind, .string a.name, .string a.to_, .int .i64 a.a, .int .i64 a.b, .string a.text])] _ := F0i
 clear F0i
 refine wp_seq (wp_region_lit (l_op (f_box F0 (At.nil w) rfl rfl rfl (F0.ev 0 rfl) rfl rfl fun b1 _ w1 F2 S1 => ?_)))
 refine l_op (f_alloc F2 S1.at' ZI_140 rfl rfl rfl rfl rfl fun b3 _ w3 F4 S3 => ?_)
 have T5 : Mv _ _ [bx b3 [.int .i64 0, .string (⟨#[]⟩ : ByteArray), .string (⟨#[]⟩ : ByteArray), .int .i64 0, .int .i64 0, .string (⟨#[]⟩ : ByteArray)] 140, bx b1 [.int .i64 a.kind, .string a.name, .string a.to_, .int .i64 a.a, .int .i64 a.b, .string a.text] 132] _ := S3
 refine s_end (x_normal (wp_seq (wp_region_lit (l_op (f_alloc F4 T5.at' ZI_140 rfl rfl rfl rfl rfl fun b6 _ w6 F7 S6 => ?_)))))
 refine s_end (x_normal (wp_seq (wp_region_lit (l_op (f_val F7 rfl rfl (r_field FI_132_0 rfl (F7.ev 1 rfl) rfl) rfl fun _ F8 => ?_)))))
 refine l_op (f_val (v := .int .i64 a.kind) F8 rfl rfl (r_loadB S6.at' 2 TI_3 rfl rfl (F8.ev 4 rfl) rfl rfl (fun _ => rfl) rfl) rfl fun _ F9 => ?_)
 refine l_op (f_val F9 rfl rfl (r_field FI_140_0 rfl (F9.ev 3 rfl) rfl) rfl fun _ F10 => ?_)
 refine l_op (s_store S6.at' 0 TI_3 rfl rfl rfl rfl rfl (F10.ev 6 rfl) (F10.ev 5 rfl) rfl rfl rfl rfl rfl fun w11 S11 => ?_)
 have T12 : Mv _ _ [bx b6 [.int .i64 a.kind, .string (⟨#[]⟩ : ByteArray), .string (⟨#[]⟩ : ByteArray), .int .i64 0, .int .i64 0, .string (⟨#[]⟩ : ByteArray)] 140, bx b3 [.int .i64 0, .string (⟨#[]⟩ : ByteArray), .string (⟨#[]⟩ : ByteArray), .int .i64 0, .int .i64 0, .string (⟨#[]⟩ : ByteArray)] 140, bx b1 [.int .i64 a.kind, .string a.name, .string a.to_, .int .i64 a.a, .int .i64 a.b, .string a.text] 132] _ := S11
 refine s_end (x_normal (wp_seq (wp_region_lit (l_op (f_val F10 rfl rfl (r_field FI_132_1 rfl (F10.ev 1 rfl) rfl) rfl fun _ F13 => ?_)))))
 refine l_op (f_val (v := .string a.name) F13 rfl rfl (r_loadB T12.at' 2 TI_9 rfl rfl (F13.ev 7 rfl) rfl rfl (fun _ => rfl) rfl) rfl fun _ F14 => ?_)
 refine l_op (f_val F14 rfl rfl (r_field FI_140_1 rfl (F14.ev 3 rfl) rfl) rfl fun _ F15 => ?_)
 refine l_op (s_store T12.at' 0 TI_9 rfl rfl rfl rfl rfl (F15.ev 9 rfl) (F15.ev 8 rfl) rfl rfl rfl rfl rfl fun w16 S16 => ?_)
 have F17 : Fr 23 [(9, .pointer (some ⟨b6, 1, none⟩)), (8, .string a.name), (3, .pointer (some ⟨b6, 0, none⟩)), (2, .pointer (some ⟨b3, 0, none⟩)), (1, .pointer (some ⟨b1, 0, none⟩))] _ := F15.cut rfl
 clear F0 F2 F4 F7 F8 F9 F10 F13 F14 F15
 refine s_end (x_normal (wp_seq (wp_region_lit (l_op (f_val F17 rfl rfl (r_field FI_132_2 rfl (F17.ev 1 rfl) rfl) rfl fun _ F18 => ?_)))))
 refine l_op (f_val (v := .string a.to_) F18 rfl rfl (r_loadB S16.at' 2 TI_9 rfl rfl (F18.ev 10 rfl) rfl rfl (fun _ => rfl) rfl) rfl fun _ F19 => ?_)
 refine l_op (f_val F19 rfl rfl (r_field FI_140_2 rfl (F19.ev 3 rfl) rfl) rfl fun _ F20 => ?_)
 refine l_op (s_store S16.at' 0 TI_9 rfl rfl rfl rfl rfl (F20.ev 12 rfl) (F20.ev 11 rfl) rfl rfl rfl rfl rfl fun w21 S21 => ?_)
 have T22 : Mv _ _ [bx b6 [.int .i64 a.kind, .string a.name, .string a.to_, .int .i64 0, .int .i64 0, .string (⟨#[]⟩ : ByteArray)] 140, bx b3 [.int .i64 0, .string (⟨#[]⟩ : ByteArray), .string (⟨#[]⟩ : ByteArray), .int .i64 0, .int .i64 0, .string (⟨#[]⟩ : ByteArray)] 140, bx b1 [.int .i64 a.kind, .string a.name, .string a.to_, .int .i64 a.a, .int .i64 a.b, .string a.text] 132] _ := S21
 refine s_end (x_normal (wp_seq (wp_region_lit (l_op (f_val F20 rfl rfl (r_field FI_132_3 rfl (F20.ev 1 rfl) rfl) rfl fun _ F23 => ?_)))))
 refine l_op (f_val (v := .int .i64 a.a) F23 rfl rfl (r_loadB T22.at' 2 TI_3 rfl rfl (F23.ev 13 rfl) rfl rfl (fun _ => rfl) rfl) rfl fun _ F24 => ?_)
 refine l_op (f_val F24 rfl rfl (r_field FI_140_3 rfl (F24.ev 3 rfl) rfl) rfl fun _ F25 => ?_)
 refine l_op (s_store T22.at' 0 TI_3 rfl rfl rfl rfl rfl (F25.ev 15 rfl) (F25.ev 14 rfl) rfl rfl rfl rfl rfl fun w26 S26 => ?_)
 refine s_end (x_normal (wp_seq (wp_region_lit (l_op (f_val F25 rfl rfl (r_field FI_132_4 rfl (F25.ev 1 rfl) rfl) rfl fun _ F27 => ?_)))))
 refine l_op (f_val (v := .int .i64 a.b) F27 rfl rfl (r_loadB S26.at' 2 TI_3 rfl rfl (F27.ev 16 rfl) rfl rfl (fun _ => rfl) rfl) rfl fun _ F28 => ?_)
 refine l_op (f_val F28 rfl rfl (r_field FI_140_4 rfl (F28.ev 3 rfl) rfl) rfl fun _ F29 => ?_)
 refine l_op (s_store S26.at' 0 TI_3 rfl rfl rfl rfl rfl (F29.ev 18 rfl) (F29.ev 17 rfl) rfl rfl rfl rfl rfl fun w30 S30 => ?_)
 have F31 : Fr 23 [(18, .pointer (some ⟨b6, 4, none⟩)), (17, .int .i64 a.b), (3, .pointer (some ⟨b6, 0, none⟩)), (2, .pointer (some ⟨b3, 0, none⟩)), (1, .pointer (some ⟨b1, 0, none⟩))] _ := F29.cut rfl
 clear F17 F18 F19 F20 F23 F24 F25 F27 F28 F29
 have T32 : Mv _ _ [bx b6 [.int .i64 a.kind, .string a.name, .string a.to_, .int .i64 a.a, .int .i64 a.b, .string (⟨#[]⟩ : ByteArray)] 140, bx b3 [.int .i64 0, .string (⟨#[]⟩ : ByteArray), .string (⟨#[]⟩ : ByteArray), .int .i64 0, .int .i64 0, .string (⟨#[]⟩ : ByteArray)] 140, bx b1 [.int .i64 a.kind, .string a.name, .string a.to_, .int .i64 a.a, .int .i64 a.b, .string a.text] 132] _ := S30
 refine s_end (x_normal (wp_seq (wp_region_lit (l_op (f_val F31 rfl rfl (r_field FI_132_5 rfl (F31.ev 1 rfl) rfl) rfl fun _ F33 => ?_)))))
 refine l_op (f_val (v := .string a.text) F33 rfl rfl (r_loadB T32.at' 2 TI_9 rfl rfl (F33.ev 19 rfl) rfl rfl (fun _ => rfl) rfl) rfl fun _ F34 => ?_)
 refine l_op (f_val F34 rfl rfl (r_field FI_140_5 rfl (F34.ev 3 rfl) rfl) rfl fun _ F35 => ?_)
 refine l_op (s_store T32.at' 0 TI_9 rfl rfl rfl rfl rfl (F35.ev 21 rfl) (F35.ev 20 rfl) rfl rfl rfl rfl rfl fun w36 S36 => ?_)
 refine s_end (x_normal (wp_seq (wp_region_lit (l_op (f_val (v := .agg #[.int .i64 a.kind, .string a.name, .string a.to_, .int .i64 a.a, .int .i64 a.b, .string a.text]) F35 rfl rfl (r_loadB S36.at' 0 TI_140 rfl rfl (F35.ev 3 rfl) rfl rfl (fun h => nomatch h) rfl) rfl fun _ F37 => ?_)))))
 refine l_op (s_store S36.at' 1 TI_140 rfl rfl rfl rfl rfl (F37.ev 2 rfl) (F37.ev 22 rfl) rfl rfl rfl rfl rfl fun w38 S38 => ?_)
 have T39 : Mv _ _ [bx b3 [.int .i64 a.kind, .string a.name, .string a.to_, .int .i64 a.a, .int .i64 a.b, .string a.text] 140, bx b6 [.int .i64 a.kind, .string a.name, .string a.to_, .int .i64 a.a, .int .i64 a.b, .string a.text] 140, bx b1 [.int .i64 a.kind, .string a.name, .string a.to_, .int .i64 a.a, .int .i64 a.b, .string a.text] 132] _ := S38
 refine s_end (x_normal (wp_ret ?_))
 refine x_done (v := .agg #[.int .i64 a.kind, .string a.name, .string a.to_, .int .i64 a.a, .int .i64 a.b, .string a.text]) F37 (results_1 Tryz.results82 (.cell (F37.ev 2 rfl) (run_loadVar' TI_140 _ [.int .i64 a.kind, .string a.name, .string a.to_, .int .i64 a.a, .int .i64 a.b, .string a.text] rfl (fun h => nomatch h) (At.cells T39.at' 0 rfl 0 [.int .i64 a.kind, .string a.name, .string a.to_, .int .i64 a.a, .int .i64 a.b, .string a.text] rfl)))) ?_
 exact ⟨rfl, (Mv.pick (S1.trans (T5.trans (S6.trans (T12.trans (S16.trans (T22.trans (S26.trans (T32.trans (S36.trans T39))))))))) [] rfl), Q2, Q4, Q3, by first | assumption | omega, by first | assumption | omega, by first | assumption | omega⟩
theorem laws_toAnswer_c {w : World} {H : Nat → Prop} {a : AnsD} (Q0 : i64ok a.code) (h_a_n : i64ok a.n) (Q1 : okS a.text) :
    Calls Tryz.prog 83 #[.agg #[.int .i64 a.code, .int .i64 a.n, .string a.text]] w fun e w' => e = .returned (.agg #[.int .i64 a.code, .int .i64 a.n, .string a.text]) ∧ Mv [] w [] w' ∧ okS a.text ∧ i64ok a.code ∧ i64ok a.n := by
 have uU : True := (fun _ _ _ => trivial) H Q0 h_a_n
 clear uU
 refine calls_enter 14 Tryz.func83 rfl Tryz.ntmps83 (Nat.le_of_ble_eq_true rfl) (fun _ F0i => ?_)
 have F0 : Fr 14 [(0, .agg #[.int .i64 a.code, .int .i64 a.n, .string a.text])] _ := F0i
 clear F0i
 refine wp_seq (wp_region_lit (l_op (f_box F0 (At.nil w) rfl rfl rfl (F0.ev 0 rfl) rfl rfl fun b1 _ w1 F2 S1 => ?_)))
 refine l_op (f_alloc F2 S1.at' ZI_142 rfl rfl rfl rfl rfl fun b3 _ w3 F4 S3 => ?_)
 have T5 : Mv _ _ [bx b3 [.int .i64 0, .int .i64 0, .string (⟨#[]⟩ : ByteArray)] 142, bx b1 [.int .i64 a.code, .int .i64 a.n, .string a.text] 135] _ := S3
 refine s_end (x_normal (wp_seq (wp_region_lit (l_op (f_alloc F4 T5.at' ZI_142 rfl rfl rfl rfl rfl fun b6 _ w6 F7 S6 => ?_)))))
 refine s_end (x_normal (wp_seq (wp_region_lit (l_op (f_val F7 rfl rfl (r_field FI_135_0 rfl (F7.ev 1 rfl) rfl) rfl fun _ F8 => ?_)))))
 refine l_op (f_val (v := .int .i64 a.code) F8 rfl rfl (r_loadB S6.at' 2 TI_3 rfl rfl (F8.ev 4 rfl) rfl rfl (fun _ => rfl) rfl) rfl fun _ F9 => ?_)
 refine l_op (f_val F9 rfl rfl (r_field FI_142_0 rfl (F9.ev 3 rfl) rfl) rfl fun _ F10 => ?_)
 refine l_op (s_store S6.at' 0 TI_3 rfl rfl rfl rfl rfl (F10.ev 6 rfl) (F10.ev 5 rfl) rfl rfl rfl rfl rfl fun w11 S11 => ?_)
 have T12 : Mv _ _ [bx b6 [.int .i64 a.code, .int .i64 0, .string (⟨#[]⟩ : ByteArray)] 142, bx b3 [.int .i64 0, .int .i64 0, .string (⟨#[]⟩ : ByteArray)] 142, bx b1 [.int .i64 a.code, .int .i64 a.n, .string a.text] 135] _ := S11
 refine s_end (x_normal (wp_seq (wp_region_lit (l_op (f_val F10 rfl rfl (r_field FI_135_1 rfl (F10.ev 1 rfl) rfl) rfl fun _ F13 => ?_)))))
 refine l_op (f_val (v := .int .i64 a.n) F13 rfl rfl (r_loadB T12.at' 2 TI_3 rfl rfl (F13.ev 7 rfl) rfl rfl (fun _ => rfl) rfl) rfl fun _ F14 => ?_)
 refine l_op (f_val F14 rfl rfl (r_field FI_142_1 rfl (F14.ev 3 rfl) rfl) rfl fun _ F15 => ?_)
 refine l_op (s_store T12.at' 0 TI_3 rfl rfl rfl rfl rfl (F15.ev 9 rfl) (F15.ev 8 rfl) rfl rfl rfl rfl rfl fun w16 S16 => ?_)
 have F17 : Fr 14 [(9, .pointer (some ⟨b6, 1, none⟩)), (8, .int .i64 a.n), (3, .pointer (some ⟨b6, 0, none⟩)), (2, .pointer (some ⟨b3, 0, none⟩)), (1, .pointer (some ⟨b1, 0, none⟩))] _ := F15.cut rfl
 clear F0 F2 F4 F7 F8 F9 F10 F13 F14 F15
 refine s_end (x_normal (wp_seq (wp_region_lit (l_op (f_val F17 rfl rfl (r_field FI_135_2 rfl (F17.ev 1 rfl) rfl) rfl fun _ F18 => ?_)))))
 refine l_op (f_val (v := .string a.text) F18 rfl rfl (r_loadB S16.at' 2 TI_9 rfl rfl (F18.ev 10 rfl) rfl rfl (fun _ => rfl) rfl) rfl fun _ F19 => ?_)
 refine l_op (f_val F19 rfl rfl (r_field FI_142_2 rfl (F19.ev 3 rfl) rfl) rfl fun _ F20 => ?_)
 refine l_op (s_store S16.at' 0 TI_9 rfl rfl rfl rfl rfl (F20.ev 12 rfl) (F20.ev 11 rfl) rfl rfl rfl rfl rfl fun w21 S21 => ?_)
 have T22 : Mv _ _ [bx b6 [.int .i64 a.code, .int .i64 a.n, .string a.text] 142, bx b3 [.int .i64 0, .int .i64 0, .string (⟨#[]⟩ : ByteArray)] 142, bx b1 [.int .i64 a.code, .int .i64 a.n, .string a.text] 135] _ := S21
 refine s_end (x_normal (wp_seq (wp_region_lit (l_op (f_val (v := .agg #[.int .i64 a.code, .int .i64 a.n, .string a.text]) F20 rfl rfl (r_loadB T22.at' 0 TI_142 rfl rfl (F20.ev 3 rfl) rfl rfl (fun h => nomatch h) rfl) rfl fun _ F23 => ?_)))))
 refine l_op (s_store T22.at' 1 TI_142 rfl rfl rfl rfl rfl (F23.ev 2 rfl) (F23.ev 13 rfl) rfl rfl rfl rfl rfl fun w24 S24 => ?_)
 refine s_end (x_normal (wp_ret ?_))
 refine x_done (v := .agg #[.int .i64 a.code, .int .i64 a.n, .string a.text]) F23 (results_1 Tryz.results83 (.cell (F23.ev 2 rfl) (run_loadVar' TI_142 _ [.int .i64 a.code, .int .i64 a.n, .string a.text] rfl (fun h => nomatch h) (At.cells S24.at' 0 rfl 0 [.int .i64 a.code, .int .i64 a.n, .string a.text] rfl)))) ?_
 exact ⟨rfl, (Mv.pick (S1.trans (T5.trans (S6.trans (T12.trans (S16.trans (T22.trans S24)))))) [] rfl), Q1, by first | assumption | omega, by first | assumption | omega⟩
theorem laws_toCallS_c {w : World} {H : Nat → Prop} {a : List CallD} {a_a : Option Addr} {a_n a_c : Nat} (v_a : RdA 6 encK okK H w (.slice a_a a_n a_c) a) (p0 : a.length ≤ 1048576) :
    Calls Tryz.prog 65 #[.slice a_a a_n a_c] w fun e w' => ∃ (r0_a : Option Addr), ∃ (r0_n : Nat), ∃ (r0_c : Nat), e = .returned (.slice r0_a r0_n r0_c) ∧ Mv [] w [ow 140 6 encK okK (.slice r0_a r0_n r0_c) a] w' := by
 have uU : True := (fun _ => trivial) p0
 clear uU
 have V_v_a : RdA 6 encK okK (V H w []) w (.slice a_a a_n a_c) a := RdA.start v_a (fun _ _ => fps_nil _)
 obtain ⟨ln_a, le_a, mx_a, ni_a⟩ := RdA.inv v_a
 refine calls_enter 23 Tryz.func65 rfl Tryz.ntmps65 (Nat.le_of_ble_eq_true rfl) (fun _ F0i => ?_)
 have F0 : Fr 23 [(0, .slice a_a a_n a_c)] _ := F0i
 clear F0i
 refine wp_seq (wp_region_lit (l_op (f_val F0 rfl rfl (r_assign rfl rfl) rfl fun _ F1 => ?_)))
 refine s_end (x_normal (wp_seq (wp_region_lit (l_op (f_mv F1 rfl rfl rfl rfl rfl fun _ F2 => ?_)))))
 refine l_op (f_val F2 rfl rfl (r_len Tryz.underlying78 rfl (F2.ev 5 rfl)) rfl fun _ F3 => ?_)
 refine l_op (f_mk (ok := okK) (⟨0, (⟨#[]⟩ : ByteArray), (⟨#[]⟩ : ByteArray), 0, 0, (⟨#[]⟩ : ByteArray)⟩ : CallD) F3 (At.nil w) ET_52 rfl rfl rfl rfl (F3.ev 6 rfl) (F3.ev 6 rfl) rfl ⟨(show i64ok 0 from by first | assumption | exact ⟨by omega, by omega⟩), (by unfold okS; decide), (by unfold okS; decide), (show i64ok 0 from by first | assumption | exact ⟨by omega, by omega⟩), (show i64ok 0 from by first | assumption | exact ⟨by omega, by omega⟩), (by unfold okS; decide)⟩ (by omega) fun b4 _ w4 F5 S4 => ?_)
 refine l_op (f_as F5 rfl rfl rfl rfl rfl fun _ F6 => ?_)
 refine s_end (x_normal (wp_seq (wp_seq (wp_region_lit (l_op (f_val F6 rfl rfl (r_assign rfl rfl) rfl fun _ F7 => ?_))))))
 refine s_end (x_normal (wp_block ?_))
 refine x_loop (fun (k : Nat) aZ wZ => ∃ (D : List CallD), ∃ (oa : Option Addr), ∃ (on : Nat), ∃ (oc : Nat), Fr 23 [(4, .int .i64 ((k : Nat) : Int)), (3, .slice oa on oc), (0, .slice a_a a_n a_c)] aZ ∧ Mv [ow 140 6 encK okK (.slice (some ⟨b4, 0, none⟩) a_n a_n) (List.replicate a_n (⟨0, (⟨#[]⟩ : ByteArray), (⟨#[]⟩ : ByteArray), 0, 0, (⟨#[]⟩ : ByteArray)⟩ : CallD))] w4 [ow 140 6 encK okK (.slice oa on oc) D] wZ ∧ (k ≤ a_n) ∧ (D = copyTo (⟨0, (⟨#[]⟩ : ByteArray), (⟨#[]⟩ : ByteArray), 0, 0, (⟨#[]⟩ : ByteArray)⟩ : CallD) k a) ∧ (on = a_n)) (fun (k : Nat) => a_n - k) (0) ?_ ?_
 · exact ⟨List.replicate a_n (⟨0, (⟨#[]⟩ : ByteArray), (⟨#[]⟩ : ByteArray), 0, 0, (⟨#[]⟩ : ByteArray)⟩ : CallD), (some ⟨b4, 0, none⟩), a_n, a_n, F7.cut rfl, (Mv.refl S4.at'), by omega, copyTo_start _ _ ln_a, rfl⟩
 · rintro k a8 w8 ⟨D, oa, on, oc, F8, S8, hk_0, hk_1, hk_2⟩
   refine wp_seq (wp_seq (wp_region_lit (l_op (f_mv F8 rfl rfl rfl rfl rfl fun _ F9 => ?_))))
   refine l_op (f_mv F9 rfl rfl rfl rfl rfl fun _ F10 => ?_)
   refine l_op (f_val F10 rfl rfl (r_len Tryz.underlying78 rfl (F10.ev 9 rfl)) rfl fun _ F11 => ?_)
   refine l_op (f_val F11 rfl rfl (r_cmp (b := decide (k < a_n)) (.inr (.inr (.inl rfl))) rfl (F11.ev 8 rfl) (F11.ev 10 rfl) (dec_of (by omega))) rfl fun _ F12 => ?_)
   refine s_end (x_normal (x_cond (p := k < a_n) (F12.ev 11 rfl) (fun h13 => ?_) (fun h13 => ?_)))
   · skip
     refine wp_skip (x_normal (wp_seq (wp_block (wp_region_lit (l_op (f_mv F12 rfl rfl rfl rfl rfl fun _ F14 => ?_))))))
     refine l_op (f_mv F14 rfl rfl rfl rfl rfl fun _ F15 => ?_)
     refine l_op (f_mv F15 rfl rfl rfl rfl rfl fun _ F16 => ?_)
     refine l_op (f_mv F16 rfl rfl rfl rfl rfl fun _ F17 => ?_)
     obtain ⟨B18, O18, x1, ad18, hx1, okx1, ln18, cl18⟩ := RdA.at (RdA.mv (Nat.succ_pos _) V_v_a (S4.trans S8)) k (by first | assumption | omega)
     clear ln18
     refine l_op (f_val F17 rfl rfl (r_indexAddr (i := k) ET_78 rfl ((F17.ev 16 rfl).trans (by rw [ad18])) (F17.ev 17 rfl) (by omega) (by first | assumption | omega)) rfl fun _ F19 => ?_)
     refine l_op (f_val (v := .agg #[.int .i64 x1.kind, .string x1.name, .string x1.to_, .int .i64 x1.a, .int .i64 x1.b, .string x1.text]) F19 rfl rfl (r_load (cs := [.int .i64 x1.kind, .string x1.name, .string x1.to_, .int .i64 x1.a, .int .i64 x1.b, .string x1.text]) TI_132 rfl (F19.ev 18 rfl) rfl (fun h => nomatch h) (elem_sub (f := 0) cl18 [.int .i64 x1.kind, .string x1.name, .string x1.to_, .int .i64 x1.a, .int .i64 x1.b, .string x1.text] rfl)) rfl fun _ F20 => ?_)
     refine l_op (f_call F20 CF_82 rfl rfl rfl rfl (lc (F20.ev 19 rfl) rfl) (laws_toCall_c (H := fun _ => True) (a := x1) okx1.1 okx1.2.1 okx1.2.2.1 okx1.2.2.2.1 okx1.2.2.2.2.1 okx1.2.2.2.2.2) ?_)
     rintro _ w21 ⟨rfl, m21, Q0, Q2, Q1, q21_0, q21_1, q21_2⟩
     refine ⟨_, rfl, fun _ F22 => ?_⟩
     have S21 := At.frame0 S8.at' m21
     clear m21
     obtain ⟨B23, x2, ad23, hx2, okx2, cl23⟩ := At.ownAt S21.at' ET_52.hk 0 rfl k (by first | assumption | omega)
     refine l_op (f_val F22 rfl rfl (r_indexAddr (i := k) ET_52 rfl ((F22.ev 14 rfl).trans (by rw [ad23])) (F22.ev 15 rfl) (by omega) (by first | assumption | omega)) rfl fun _ F24 => ?_)
     refine l_op (s_storeEl S21.at' 0 k x1 ET_52.hk ET_52.h1 TI_140 rfl ad23 rfl rfl rfl rfl (F24.ev 21 rfl) (F24.ev 20 rfl) rfl (by first | assumption | omega) ⟨(show i64ok x1.kind from by first | assumption | exact ⟨by omega, by omega⟩), Q0, Q2, (show i64ok x1.a from by first | assumption | exact ⟨by omega, by omega⟩), (show i64ok x1.b from by first | assumption | exact ⟨by omega, by omega⟩), Q1⟩ fun w25 S25 => ?_)
     have F26 : Fr 23 [(21, .pointer (some ⟨B23, 0 + k * 6, none⟩)), (20, .agg #[.int .i64 x1.kind, .string x1.name, .string x1.to_, .int .i64 x1.a, .int .i64 x1.b, .string x1.text]), (4, .int .i64 ((k : Nat) : Int)), (3, .slice oa on oc), (0, .slice a_a a_n a_c)] _ := F24.cut rfl
     clear F8 F9 F10 F11 F12 F14 F15 F16 F17 F19 F20 F22 F24
     have T27 : Mv _ _ [ow 140 6 encK okK (.slice oa on oc) (D.set k x1)] _ := S25
     refine s_end (x_block_normal (x_normal (wp_region_lit (l_op (f_mv F26 rfl rfl rfl rfl rfl fun _ F28 => ?_)))))
     refine l_op (f_val F28 rfl rfl (r_add (z := ((k + 1 : Nat) : Int)) rfl (F28.ev 12 rfl) rfl (by first | rfl | omega) ⟨by first | omega | (unfold i64ok at *; omega), by first | omega | (unfold i64ok at *; omega)⟩) rfl fun _ F29 => ?_)
     refine l_op (f_as F29 rfl rfl rfl rfl rfl fun _ F30 => ?_)
     refine s_end ?_
     refine x_normal ⟨k + 1, by omega, D.set k x1, oa, on, oc, F30.cut rfl, ((S8.trans (S21.trans T27)).pick [0] rfl), by omega, by rw [hk_1, copyTo_step hx1], by assumption⟩
   · skip
     refine wp_exit (x_then_exit (x_then_exit (x_block_here (x_normal (wp_seq (wp_region_lit (l_op (f_mv F12 rfl rfl rfl rfl rfl fun _ F31 => ?_))))))))
     refine l_op (f_as F31 rfl rfl rfl rfl rfl fun _ F32 => ?_)
     refine s_end (x_normal (wp_ret ?_))
     refine x_done (v := .slice oa on oc) F32 (results_1 Tryz.results65 (.tmp (F32.ev 2 rfl))) ?_
     exact ⟨oa, on, oc, rfl, (Mv.cast (Mv.pick (S4.trans S8) [0] rfl) (by rw [(show D = a from by rw [hk_1, copyTo_end (by omega)])]; all_goals rfl))⟩
theorem laws_toAnswerS_c {w : World} {H : Nat → Prop} {a : List AnsD} {a_a : Option Addr} {a_n a_c : Nat} (v_a : RdA 3 encR okR H w (.slice a_a a_n a_c) a) (p0 : a.length ≤ 1048576) :
    Calls Tryz.prog 66 #[.slice a_a a_n a_c] w fun e w' => ∃ (r0_a : Option Addr), ∃ (r0_n : Nat), ∃ (r0_c : Nat), e = .returned (.slice r0_a r0_n r0_c) ∧ Mv [] w [ow 142 3 encR okR (.slice r0_a r0_n r0_c) a] w' := by
 have uU : True := (fun _ => trivial) p0
 clear uU
 have V_v_a : RdA 3 encR okR (V H w []) w (.slice a_a a_n a_c) a := RdA.start v_a (fun _ _ => fps_nil _)
 obtain ⟨ln_a, le_a, mx_a, ni_a⟩ := RdA.inv v_a
 refine calls_enter 23 Tryz.func66 rfl Tryz.ntmps66 (Nat.le_of_ble_eq_true rfl) (fun _ F0i => ?_)
 have F0 : Fr 23 [(0, .slice a_a a_n a_c)] _ := F0i
 clear F0i
 refine wp_seq (wp_region_lit (l_op (f_val F0 rfl rfl (r_assign rfl rfl) rfl fun _ F1 => ?_)))
 refine s_end (x_normal (wp_seq (wp_region_lit (l_op (f_mv F1 rfl rfl rfl rfl rfl fun _ F2 => ?_)))))
 refine l_op (f_val F2 rfl rfl (r_len Tryz.underlying79 rfl (F2.ev 5 rfl)) rfl fun _ F3 => ?_)
 refine l_op (f_mk (ok := okR) (⟨0, 0, (⟨#[]⟩ : ByteArray)⟩ : AnsD) F3 (At.nil w) ET_53 rfl rfl rfl rfl (F3.ev 6 rfl) (F3.ev 6 rfl) rfl ⟨(show i64ok 0 from by first | assumption | exact ⟨by omega, by omega⟩), (show i64ok 0 from by first | assumption | exact ⟨by omega, by omega⟩), (by unfold okS; decide)⟩ (by omega) fun b4 _ w4 F5 S4 => ?_)
 refine l_op (f_as F5 rfl rfl rfl rfl rfl fun _ F6 => ?_)
 refine s_end (x_normal (wp_seq (wp_seq (wp_region_lit (l_op (f_val F6 rfl rfl (r_assign rfl rfl) rfl fun _ F7 => ?_))))))
 refine s_end (x_normal (wp_block ?_))
 refine x_loop (fun (k : Nat) aZ wZ => ∃ (D : List AnsD), ∃ (oa : Option Addr), ∃ (on : Nat), ∃ (oc : Nat), Fr 23 [(4, .int .i64 ((k : Nat) : Int)), (3, .slice oa on oc), (0, .slice a_a a_n a_c)] aZ ∧ Mv [ow 142 3 encR okR (.slice (some ⟨b4, 0, none⟩) a_n a_n) (List.replicate a_n (⟨0, 0, (⟨#[]⟩ : ByteArray)⟩ : AnsD))] w4 [ow 142 3 encR okR (.slice oa on oc) D] wZ ∧ (k ≤ a_n) ∧ (D = copyTo (⟨0, 0, (⟨#[]⟩ : ByteArray)⟩ : AnsD) k a) ∧ (on = a_n)) (fun (k : Nat) => a_n - k) (0) ?_ ?_
 · exact ⟨List.replicate a_n (⟨0, 0, (⟨#[]⟩ : ByteArray)⟩ : AnsD), (some ⟨b4, 0, none⟩), a_n, a_n, F7.cut rfl, (Mv.refl S4.at'), by omega, copyTo_start _ _ ln_a, rfl⟩
 · rintro k a8 w8 ⟨D, oa, on, oc, F8, S8, hk_0, hk_1, hk_2⟩
   refine wp_seq (wp_seq (wp_region_lit (l_op (f_mv F8 rfl rfl rfl rfl rfl fun _ F9 => ?_))))
   refine l_op (f_mv F9 rfl rfl rfl rfl rfl fun _ F10 => ?_)
   refine l_op (f_val F10 rfl rfl (r_len Tryz.underlying79 rfl (F10.ev 9 rfl)) rfl fun _ F11 => ?_)
   refine l_op (f_val F11 rfl rfl (r_cmp (b := decide (k < a_n)) (.inr (.inr (.inl rfl))) rfl (F11.ev 8 rfl) (F11.ev 10 rfl) (dec_of (by omega))) rfl fun _ F12 => ?_)
   refine s_end (x_normal (x_cond (p := k < a_n) (F12.ev 11 rfl) (fun h13 => ?_) (fun h13 => ?_)))
   · skip
     refine wp_skip (x_normal (wp_seq (wp_block (wp_region_lit (l_op (f_mv F12 rfl rfl rfl rfl rfl fun _ F14 => ?_))))))
     refine l_op (f_mv F14 rfl rfl rfl rfl rfl fun _ F15 => ?_)
     refine l_op (f_mv F15 rfl rfl rfl rfl rfl fun _ F16 => ?_)
     refine l_op (f_mv F16 rfl rfl rfl rfl rfl fun _ F17 => ?_)
     obtain ⟨B18, O18, x1, ad18, hx1, okx1, ln18, cl18⟩ := RdA.at (RdA.mv (Nat.succ_pos _) V_v_a (S4.trans S8)) k (by first | assumption | omega)
     clear ln18
     refine l_op (f_val F17 rfl rfl (r_indexAddr (i := k) ET_79 rfl ((F17.ev 16 rfl).trans (by rw [ad18])) (F17.ev 17 rfl) (by omega) (by first | assumption | omega)) rfl fun _ F19 => ?_)
     refine l_op (f_val (v := .agg #[.int .i64 x1.code, .int .i64 x1.n, .string x1.text]) F19 rfl rfl (r_load (cs := [.int .i64 x1.code, .int .i64 x1.n, .string x1.text]) TI_135 rfl (F19.ev 18 rfl) rfl (fun h => nomatch h) (elem_sub (f := 0) cl18 [.int .i64 x1.code, .int .i64 x1.n, .string x1.text] rfl)) rfl fun _ F20 => ?_)
     refine l_op (f_call F20 CF_83 rfl rfl rfl rfl (lc (F20.ev 19 rfl) rfl) (laws_toAnswer_c (H := fun _ => True) (a := x1) okx1.1 okx1.2.1 okx1.2.2) ?_)
     rintro _ w21 ⟨rfl, m21, Q0, q21_0, q21_1⟩
     refine ⟨_, rfl, fun _ F22 => ?_⟩
     have S21 := At.frame0 S8.at' m21
     clear m21
     obtain ⟨B23, x2, ad23, hx2, okx2, cl23⟩ := At.ownAt S21.at' ET_53.hk 0 rfl k (by first | assumption | omega)
     refine l_op (f_val F22 rfl rfl (r_indexAddr (i := k) ET_53 rfl ((F22.ev 14 rfl).trans (by rw [ad23])) (F22.ev 15 rfl) (by omega) (by first | assumption | omega)) rfl fun _ F24 => ?_)
     refine l_op (s_storeEl S21.at' 0 k x1 ET_53.hk ET_53.h1 TI_142 rfl ad23 rfl rfl rfl rfl (F24.ev 21 rfl) (F24.ev 20 rfl) rfl (by first | assumption | omega) ⟨(show i64ok x1.code from by first | assumption | exact ⟨by omega, by omega⟩), (show i64ok x1.n from by first | assumption | exact ⟨by omega, by omega⟩), Q0⟩ fun w25 S25 => ?_)
     have F26 : Fr 23 [(21, .pointer (some ⟨B23, 0 + k * 3, none⟩)), (20, .agg #[.int .i64 x1.code, .int .i64 x1.n, .string x1.text]), (4, .int .i64 ((k : Nat) : Int)), (3, .slice oa on oc), (0, .slice a_a a_n a_c)] _ := F24.cut rfl
     clear F8 F9 F10 F11 F12 F14 F15 F16 F17 F19 F20 F22 F24
     have T27 : Mv _ _ [ow 142 3 encR okR (.slice oa on oc) (D.set k x1)] _ := S25
     refine s_end (x_block_normal (x_normal (wp_region_lit (l_op (f_mv F26 rfl rfl rfl rfl rfl fun _ F28 => ?_)))))
     refine l_op (f_val F28 rfl rfl (r_add (z := ((k + 1 : Nat) : Int)) rfl (F28.ev 12 rfl) rfl (by first | rfl | omega) ⟨by first | omega | (unfold i64ok at *; omega), by first | omega | (unfold i64ok at *; omega)⟩) rfl fun _ F29 => ?_)
     refine l_op (f_as F29 rfl rfl rfl rfl rfl fun _ F30 => ?_)
     refine s_end ?_
     refine x_normal ⟨k + 1, by omega, D.set k x1, oa, on, oc, F30.cut rfl, ((S8.trans (S21.trans T27)).pick [0] rfl), by omega, by rw [hk_1, copyTo_step hx1], by assumption⟩
   · skip
     refine wp_exit (x_then_exit (x_then_exit (x_block_here (x_normal (wp_seq (wp_region_lit (l_op (f_mv F12 rfl rfl rfl rfl rfl fun _ F31 => ?_))))))))
     refine l_op (f_as F31 rfl rfl rfl rfl rfl fun _ F32 => ?_)
     refine s_end (x_normal (wp_ret ?_))
     refine x_done (v := .slice oa on oc) F32 (results_1 Tryz.results66 (.tmp (F32.ev 2 rfl))) ?_
     exact ⟨oa, on, oc, rfl, (Mv.cast (Mv.pick (S4.trans S8) [0] rfl) (by rw [(show D = a from by rw [hk_1, copyTo_end (by omega)])]; all_goals rfl))⟩
theorem laws_toIntS_c {w : World} {H : Nat → Prop} {a : List Int} {a_a : Option Addr} {a_n a_c : Nat} (v_a : RdA 1 encI okI H w (.slice a_a a_n a_c) a) (p0 : a.length ≤ 1048576) :
    Calls Tryz.prog 68 #[.slice a_a a_n a_c] w fun e w' => ∃ (r0_a : Option Addr), ∃ (r0_n : Nat), ∃ (r0_c : Nat), e = .returned (.slice r0_a r0_n r0_c) ∧ Mv [] w [ow 3 1 encI okI (.slice r0_a r0_n r0_c) a] w' := by
 have uU : True := (fun _ => trivial) p0
 clear uU
 have V_v_a : RdA 1 encI okI (V H w []) w (.slice a_a a_n a_c) a := RdA.start v_a (fun _ _ => fps_nil _)
 obtain ⟨ln_a, le_a, mx_a, ni_a⟩ := RdA.inv v_a
 refine calls_enter 22 Tryz.func68 rfl Tryz.ntmps68 (Nat.le_of_ble_eq_true rfl) (fun _ F0i => ?_)
 have F0 : Fr 22 [(0, .slice a_a a_n a_c)] _ := F0i
 clear F0i
 refine wp_seq (wp_region_lit (l_op (f_val F0 rfl rfl (r_assign rfl rfl) rfl fun _ F1 => ?_)))
 refine s_end (x_normal (wp_seq (wp_region_lit (l_op (f_mv F1 rfl rfl rfl rfl rfl fun _ F2 => ?_)))))
 refine l_op (f_val F2 rfl rfl (r_len Tryz.underlying56 rfl (F2.ev 5 rfl)) rfl fun _ F3 => ?_)
 refine l_op (f_mk (ok := okI) 0 F3 (At.nil w) ET_56 rfl rfl rfl rfl (F3.ev 6 rfl) (F3.ev 6 rfl) rfl ⟨by omega, by omega⟩ (by omega) fun b4 _ w4 F5 S4 => ?_)
 refine l_op (f_as F5 rfl rfl rfl rfl rfl fun _ F6 => ?_)
 refine s_end (x_normal (wp_seq (wp_seq (wp_region_lit (l_op (f_val F6 rfl rfl (r_assign rfl rfl) rfl fun _ F7 => ?_))))))
 refine s_end (x_normal (wp_block ?_))
 refine x_loop (fun (k : Nat) aZ wZ => ∃ (D : List Int), ∃ (oa : Option Addr), ∃ (on : Nat), ∃ (oc : Nat), Fr 22 [(4, .int .i64 ((k : Nat) : Int)), (3, .slice oa on oc), (0, .slice a_a a_n a_c)] aZ ∧ Mv [ow 3 1 encI okI (.slice (some ⟨b4, 0, none⟩) a_n a_n) (List.replicate a_n 0)] w4 [ow 3 1 encI okI (.slice oa on oc) D] wZ ∧ (k ≤ a_n) ∧ (D = copyTo (0 : Int) k a) ∧ (on = a_n)) (fun (k : Nat) => a_n - k) (0) ?_ ?_
 · exact ⟨List.replicate a_n 0, (some ⟨b4, 0, none⟩), a_n, a_n, F7.cut rfl, (Mv.refl S4.at'), by omega, copyTo_start _ _ ln_a, rfl⟩
 · rintro k a8 w8 ⟨D, oa, on, oc, F8, S8, hk_0, hk_1, hk_2⟩
   refine wp_seq (wp_seq (wp_region_lit (l_op (f_mv F8 rfl rfl rfl rfl rfl fun _ F9 => ?_))))
   refine l_op (f_mv F9 rfl rfl rfl rfl rfl fun _ F10 => ?_)
   refine l_op (f_val F10 rfl rfl (r_len Tryz.underlying56 rfl (F10.ev 9 rfl)) rfl fun _ F11 => ?_)
   refine l_op (f_val F11 rfl rfl (r_cmp (b := decide (k < a_n)) (.inr (.inr (.inl rfl))) rfl (F11.ev 8 rfl) (F11.ev 10 rfl) (dec_of (by omega))) rfl fun _ F12 => ?_)
   refine s_end (x_normal (x_cond (p := k < a_n) (F12.ev 11 rfl) (fun h13 => ?_) (fun h13 => ?_)))
   · skip
     refine wp_skip (x_normal (wp_seq (wp_block (wp_region_lit (l_op (f_mv F12 rfl rfl rfl rfl rfl fun _ F14 => ?_))))))
     refine l_op (f_mv F14 rfl rfl rfl rfl rfl fun _ F15 => ?_)
     refine l_op (f_mv F15 rfl rfl rfl rfl rfl fun _ F16 => ?_)
     refine l_op (f_mv F16 rfl rfl rfl rfl rfl fun _ F17 => ?_)
     obtain ⟨B18, O18, x1, ad18, hx1, okx1, ln18, cl18⟩ := RdA.at (RdA.mv (Nat.succ_pos _) V_v_a (S4.trans S8)) k (by first | assumption | omega)
     clear ln18
     refine l_op (f_val F17 rfl rfl (r_indexAddr (i := k) ET_56 rfl ((F17.ev 16 rfl).trans (by rw [ad18])) (F17.ev 17 rfl) (by omega) (by first | assumption | omega)) rfl fun _ F19 => ?_)
     refine l_op (f_val (v := .int .i64 x1) F19 rfl rfl (r_load (cs := [.int .i64 x1]) TI_3 rfl (F19.ev 18 rfl) rfl (fun _ => rfl) (elem_sub (f := 0) cl18 [.int .i64 x1] rfl)) rfl fun _ F20 => ?_)
     obtain ⟨B21, x2, ad21, hx2, okx2, cl21⟩ := At.ownAt S8.at' ET_56.hk 0 rfl k (by first | assumption | omega)
     refine l_op (f_val F20 rfl rfl (r_indexAddr (i := k) ET_56 rfl ((F20.ev 14 rfl).trans (by rw [ad21])) (F20.ev 15 rfl) (by omega) (by first | assumption | omega)) rfl fun _ F22 => ?_)
     refine l_op (s_storeEl S8.at' 0 k x1 ET_56.hk ET_56.h1 TI_3 rfl ad21 rfl rfl rfl rfl (F22.ev 20 rfl) (F22.ev 19 rfl) rfl (by first | assumption | omega) okx1 fun w23 S23 => ?_)
     have F24 : Fr 22 [(20, .pointer (some ⟨B21, 0 + k * 1, none⟩)), (19, .int .i64 x1), (4, .int .i64 ((k : Nat) : Int)), (3, .slice oa on oc), (0, .slice a_a a_n a_c)] _ := F22.cut rfl
     clear F8 F9 F10 F11 F12 F14 F15 F16 F17 F19 F20 F22
     have T25 : Mv _ _ [ow 3 1 encI okI (.slice oa on oc) (D.set k x1)] _ := S23
     refine s_end (x_block_normal (x_normal (wp_region_lit (l_op (f_mv F24 rfl rfl rfl rfl rfl fun _ F26 => ?_)))))
     refine l_op (f_val F26 rfl rfl (r_add (z := ((k + 1 : Nat) : Int)) rfl (F26.ev 12 rfl) rfl (by first | rfl | omega) ⟨by first | omega | (unfold i64ok at *; omega), by first | omega | (unfold i64ok at *; omega)⟩) rfl fun _ F27 => ?_)
     refine l_op (f_as F27 rfl rfl rfl rfl rfl fun _ F28 => ?_)
     refine s_end ?_
     refine x_normal ⟨k + 1, by omega, D.set k x1, oa, on, oc, F28.cut rfl, ((S8.trans T25).pick [0] rfl), by omega, by rw [hk_1, copyTo_step hx1], by assumption⟩
   · skip
     refine wp_exit (x_then_exit (x_then_exit (x_block_here (x_normal (wp_seq (wp_region_lit (l_op (f_mv F12 rfl rfl rfl rfl rfl fun _ F29 => ?_))))))))
     refine l_op (f_as F29 rfl rfl rfl rfl rfl fun _ F30 => ?_)
     refine s_end (x_normal (wp_ret ?_))
     refine x_done (v := .slice oa on oc) F30 (results_1 Tryz.results68 (.tmp (F30.ev 2 rfl))) ?_
     exact ⟨oa, on, oc, rfl, (Mv.cast (Mv.pick (S4.trans S8) [0] rfl) (by rw [(show D = a from by rw [hk_1, copyTo_end (by omega)])]; all_goals rfl))⟩
theorem laws_eqCall_c {w : World} {H : Nat → Prop} {a : CallD} {b : CallD} (Q1 : i64ok a.kind) (Q2 : okS a.name) (Q4 : okS a.to_) (h_a_a : i64ok a.a) (Q0 : i64ok a.b) (Q3 : okS a.text) (Q6 : i64ok b.kind) (Q7 : okS b.name) (Q9 : okS b.to_) (h_b_a : i64ok b.a) (Q5 : i64ok b.b) (Q8 : okS b.text) (p0 : a = b) :
    Calls Tryz.prog 88 #[.agg #[.int .i64 a.kind, .string a.name, .string a.to_, .int .i64 a.a, .int .i64 a.b, .string a.text], .agg #[.int .i64 b.kind, .string b.name, .string b.to_, .int .i64 b.a, .int .i64 b.b, .string b.text]] w fun e w' => e = .returned (.bool true) ∧ Mv [] w [] w' := by
 have uU : True := (fun _ _ _ _ _ _ _ _ _ _ _ _ _ => trivial) H Q1 Q2 Q4 h_a_a Q0 Q3 Q6 Q7 Q9 h_b_a Q5 Q8
 clear uU
 refine calls_enter 35 Tryz.func88 rfl Tryz.ntmps88 (Nat.le_of_ble_eq_true rfl) (fun _ F0i => ?_)
 have F0 : Fr 35 [(0, .agg #[.int .i64 a.kind, .string a.name, .string a.to_, .int .i64 a.a, .int .i64 a.b, .string a.text]), (1, .agg #[.int .i64 b.kind, .string b.name, .string b.to_, .int .i64 b.a, .int .i64 b.b, .string b.text])] _ := F0i
 clear F0i
 refine wp_seq (wp_region_lit (l_op (f_box F0 (At.nil w) rfl rfl rfl (F0.ev 0 rfl) rfl rfl fun b1 _ w1 F2 S1 => ?_)))
 refine l_op (f_box F2 S1.at' rfl rfl rfl (F2.ev 1 rfl) rfl rfl fun b3 _ w3 F4 S3 => ?_)
 refine l_op (f_val F4 rfl rfl (r_assign rfl rfl) rfl fun _ F5 => ?_)
 have T6 : Mv _ _ [bx b3 [.int .i64 b.kind, .string b.name, .string b.to_, .int .i64 b.a, .int .i64 b.b, .string b.text] 140, bx b1 [.int .i64 a.kind, .string a.name, .string a.to_, .int .i64 a.a, .int .i64 a.b, .string a.text] 140] _ := S3
 refine s_end (x_normal (wp_seq (wp_seq (wp_region_lit (l_op (f_val F5 rfl rfl (r_field FI_140_0 rfl (F5.ev 2 rfl) rfl) rfl fun _ F7 => ?_))))))
 refine l_op (f_val (v := .int .i64 a.kind) F7 rfl rfl (r_loadB T6.at' 1 TI_3 rfl rfl (F7.ev 5 rfl) rfl rfl (fun _ => rfl) rfl) rfl fun _ F8 => ?_)
 refine l_op (f_val F8 rfl rfl (r_field FI_140_0 rfl (F8.ev 3 rfl) rfl) rfl fun _ F9 => ?_)
 refine l_op (f_val (v := .int .i64 b.kind) F9 rfl rfl (r_loadB T6.at' 0 TI_3 rfl rfl (F9.ev 7 rfl) rfl rfl (fun _ => rfl) rfl) rfl fun _ F10 => ?_)
 refine l_op (f_val F10 rfl rfl (r_cmp (b := decide (a.kind ≠ b.kind)) (.inr (.inl rfl)) rfl (F10.ev 6 rfl) (F10.ev 8 rfl) (dec_of (by omega))) rfl fun _ F11 => ?_)
 rw [show (decide (a.kind ≠ b.kind)) = false from decide_eq_false (fun h => h (by rw [p0]))] at F11
 refine s_end (x_normal (wp_cond_false (F11.ev 9 rfl) (wp_skip (x_normal (wp_seq (wp_seq (wp_region_lit (l_op (f_val F11 rfl rfl (r_field FI_140_1 rfl (F11.ev 2 rfl) rfl) rfl fun _ F12 => ?_)))))))))
 refine l_op (f_val (v := .string a.name) F12 rfl rfl (r_loadB T6.at' 1 TI_9 rfl rfl (F12.ev 10 rfl) rfl rfl (fun _ => rfl) rfl) rfl fun _ F13 => ?_)
 refine l_op (f_val F13 rfl rfl (r_field FI_140_1 rfl (F13.ev 3 rfl) rfl) rfl fun _ F14 => ?_)
 refine l_op (f_val (v := .string b.name) F14 rfl rfl (r_loadB T6.at' 0 TI_9 rfl rfl (F14.ev 12 rfl) rfl rfl (fun _ => rfl) rfl) rfl fun _ F15 => ?_)
 refine l_op (f_val F15 rfl rfl (r_cmps (b := (decide (a.name ≠ b.name))) (.inr (.inl rfl)) rfl (F15.ev 11 rfl) (F15.ev 13 rfl) rfl) rfl fun _ F16 => ?_)
 rw [show (decide (a.name ≠ b.name)) = false from decide_eq_false (fun h => h (by rw [p0]))] at F16
 have F17 : Fr 35 [(14, .bool false), (3, .pointer (some ⟨b3, 0, none⟩)), (2, .pointer (some ⟨b1, 0, none⟩))] _ := F16.cut rfl
 clear F0 F2 F4 F5 F7 F8 F9 F10 F11 F12 F13 F14 F15 F16
 refine s_end (x_normal (wp_cond_false (F17.ev 14 rfl) (wp_skip (x_normal (wp_seq (wp_seq (wp_region_lit (l_op (f_val F17 rfl rfl (r_field FI_140_2 rfl (F17.ev 2 rfl) rfl) rfl fun _ F18 => ?_)))))))))
 refine l_op (f_val (v := .string a.to_) F18 rfl rfl (r_loadB T6.at' 1 TI_9 rfl rfl (F18.ev 15 rfl) rfl rfl (fun _ => rfl) rfl) rfl fun _ F19 => ?_)
 refine l_op (f_val F19 rfl rfl (r_field FI_140_2 rfl (F19.ev 3 rfl) rfl) rfl fun _ F20 => ?_)
 refine l_op (f_val (v := .string b.to_) F20 rfl rfl (r_loadB T6.at' 0 TI_9 rfl rfl (F20.ev 17 rfl) rfl rfl (fun _ => rfl) rfl) rfl fun _ F21 => ?_)
 refine l_op (f_val F21 rfl rfl (r_cmps (b := (decide (a.to_ ≠ b.to_))) (.inr (.inl rfl)) rfl (F21.ev 16 rfl) (F21.ev 18 rfl) rfl) rfl fun _ F22 => ?_)
 rw [show (decide (a.to_ ≠ b.to_)) = false from decide_eq_false (fun h => h (by rw [p0]))] at F22
 refine s_end (x_normal (wp_cond_false (F22.ev 19 rfl) (wp_skip (x_normal (wp_seq (wp_seq (wp_region_lit (l_op (f_val F22 rfl rfl (r_field FI_140_3 rfl (F22.ev 2 rfl) rfl) rfl fun _ F23 => ?_)))))))))
 refine l_op (f_val (v := .int .i64 a.a) F23 rfl rfl (r_loadB T6.at' 1 TI_3 rfl rfl (F23.ev 20 rfl) rfl rfl (fun _ => rfl) rfl) rfl fun _ F24 => ?_)
 refine l_op (f_val F24 rfl rfl (r_field FI_140_3 rfl (F24.ev 3 rfl) rfl) rfl fun _ F25 => ?_)
 refine l_op (f_val (v := .int .i64 b.a) F25 rfl rfl (r_loadB T6.at' 0 TI_3 rfl rfl (F25.ev 22 rfl) rfl rfl (fun _ => rfl) rfl) rfl fun _ F26 => ?_)
 refine l_op (f_val F26 rfl rfl (r_cmp (b := decide (a.a ≠ b.a)) (.inr (.inl rfl)) rfl (F26.ev 21 rfl) (F26.ev 23 rfl) (dec_of (by omega))) rfl fun _ F27 => ?_)
 rw [show (decide (a.a ≠ b.a)) = false from decide_eq_false (fun h => h (by rw [p0]))] at F27
 have F28 : Fr 35 [(24, .bool false), (3, .pointer (some ⟨b3, 0, none⟩)), (2, .pointer (some ⟨b1, 0, none⟩))] _ := F27.cut rfl
 clear F17 F18 F19 F20 F21 F22 F23 F24 F25 F26 F27
 refine s_end (x_normal (wp_cond_false (F28.ev 24 rfl) (wp_skip (x_normal (wp_seq (wp_seq (wp_region_lit (l_op (f_val F28 rfl rfl (r_field FI_140_4 rfl (F28.ev 2 rfl) rfl) rfl fun _ F29 => ?_)))))))))
 refine l_op (f_val (v := .int .i64 a.b) F29 rfl rfl (r_loadB T6.at' 1 TI_3 rfl rfl (F29.ev 25 rfl) rfl rfl (fun _ => rfl) rfl) rfl fun _ F30 => ?_)
 refine l_op (f_val F30 rfl rfl (r_field FI_140_4 rfl (F30.ev 3 rfl) rfl) rfl fun _ F31 => ?_)
 refine l_op (f_val (v := .int .i64 b.b) F31 rfl rfl (r_loadB T6.at' 0 TI_3 rfl rfl (F31.ev 27 rfl) rfl rfl (fun _ => rfl) rfl) rfl fun _ F32 => ?_)
 refine l_op (f_val F32 rfl rfl (r_cmp (b := decide (a.b ≠ b.b)) (.inr (.inl rfl)) rfl (F32.ev 26 rfl) (F32.ev 28 rfl) (dec_of (by omega))) rfl fun _ F33 => ?_)
 rw [show (decide (a.b ≠ b.b)) = false from decide_eq_false (fun h => h (by rw [p0]))] at F33
 refine s_end (x_normal (wp_cond_false (F33.ev 29 rfl) (wp_skip (x_normal (wp_seq (wp_seq (wp_region_lit (l_op (f_val F33 rfl rfl (r_field FI_140_5 rfl (F33.ev 2 rfl) rfl) rfl fun _ F34 => ?_)))))))))
 refine l_op (f_val (v := .string a.text) F34 rfl rfl (r_loadB T6.at' 1 TI_9 rfl rfl (F34.ev 30 rfl) rfl rfl (fun _ => rfl) rfl) rfl fun _ F35 => ?_)
 refine l_op (f_val F35 rfl rfl (r_field FI_140_5 rfl (F35.ev 3 rfl) rfl) rfl fun _ F36 => ?_)
 refine l_op (f_val (v := .string b.text) F36 rfl rfl (r_loadB T6.at' 0 TI_9 rfl rfl (F36.ev 32 rfl) rfl rfl (fun _ => rfl) rfl) rfl fun _ F37 => ?_)
 refine l_op (f_val F37 rfl rfl (r_cmps (b := (decide (a.text ≠ b.text))) (.inr (.inl rfl)) rfl (F37.ev 31 rfl) (F37.ev 33 rfl) rfl) rfl fun _ F38 => ?_)
 rw [show (decide (a.text ≠ b.text)) = false from decide_eq_false (fun h => h (by rw [p0]))] at F38
 have F39 : Fr 35 [(34, .bool false)] _ := F38.cut rfl
 clear F28 F29 F30 F31 F32 F33 F34 F35 F36 F37 F38
 refine s_end (x_normal (wp_cond_false (F39.ev 34 rfl) (wp_skip (x_normal (wp_seq (wp_region_lit (l_op (f_val F39 rfl rfl (r_assign rfl rfl) rfl fun _ F40 => ?_))))))))
 refine s_end (x_normal (wp_ret ?_))
 refine x_done (v := .bool true) F40 (results_1 Tryz.results88 (.tmp (F40.ev 4 rfl))) ?_
 exact ⟨rfl, (Mv.pick (S1.trans T6) [] rfl)⟩
theorem laws_eqAnswer_c {w : World} {H : Nat → Prop} {a : AnsD} {b : AnsD} (Q0 : i64ok a.code) (h_a_n : i64ok a.n) (Q1 : okS a.text) (Q2 : i64ok b.code) (h_b_n : i64ok b.n) (Q3 : okS b.text) (p0 : a = b) :
    Calls Tryz.prog 89 #[.agg #[.int .i64 a.code, .int .i64 a.n, .string a.text], .agg #[.int .i64 b.code, .int .i64 b.n, .string b.text]] w fun e w' => e = .returned (.bool true) ∧ Mv [] w [] w' := by
 have uU : True := (fun _ _ _ _ _ _ _ => trivial) H Q0 h_a_n Q1 Q2 h_b_n Q3
 clear uU
 refine calls_enter 20 Tryz.func89 rfl Tryz.ntmps89 (Nat.le_of_ble_eq_true rfl) (fun _ F0i => ?_)
 have F0 : Fr 20 [(0, .agg #[.int .i64 a.code, .int .i64 a.n, .string a.text]), (1, .agg #[.int .i64 b.code, .int .i64 b.n, .string b.text])] _ := F0i
 clear F0i
 refine wp_seq (wp_region_lit (l_op (f_box F0 (At.nil w) rfl rfl rfl (F0.ev 0 rfl) rfl rfl fun b1 _ w1 F2 S1 => ?_)))
 refine l_op (f_box F2 S1.at' rfl rfl rfl (F2.ev 1 rfl) rfl rfl fun b3 _ w3 F4 S3 => ?_)
 refine l_op (f_val F4 rfl rfl (r_assign rfl rfl) rfl fun _ F5 => ?_)
 have T6 : Mv _ _ [bx b3 [.int .i64 b.code, .int .i64 b.n, .string b.text] 142, bx b1 [.int .i64 a.code, .int .i64 a.n, .string a.text] 142] _ := S3
 refine s_end (x_normal (wp_seq (wp_seq (wp_region_lit (l_op (f_val F5 rfl rfl (r_field FI_142_0 rfl (F5.ev 2 rfl) rfl) rfl fun _ F7 => ?_))))))
 refine l_op (f_val (v := .int .i64 a.code) F7 rfl rfl (r_loadB T6.at' 1 TI_3 rfl rfl (F7.ev 5 rfl) rfl rfl (fun _ => rfl) rfl) rfl fun _ F8 => ?_)
 refine l_op (f_val F8 rfl rfl (r_field FI_142_0 rfl (F8.ev 3 rfl) rfl) rfl fun _ F9 => ?_)
 refine l_op (f_val (v := .int .i64 b.code) F9 rfl rfl (r_loadB T6.at' 0 TI_3 rfl rfl (F9.ev 7 rfl) rfl rfl (fun _ => rfl) rfl) rfl fun _ F10 => ?_)
 refine l_op (f_val F10 rfl rfl (r_cmp (b := decide (a.code ≠ b.code)) (.inr (.inl rfl)) rfl (F10.ev 6 rfl) (F10.ev 8 rfl) (dec_of (by omega))) rfl fun _ F11 => ?_)
 rw [show (decide (a.code ≠ b.code)) = false from decide_eq_false (fun h => h (by rw [p0]))] at F11
 refine s_end (x_normal (wp_cond_false (F11.ev 9 rfl) (wp_skip (x_normal (wp_seq (wp_seq (wp_region_lit (l_op (f_val F11 rfl rfl (r_field FI_142_1 rfl (F11.ev 2 rfl) rfl) rfl fun _ F12 => ?_)))))))))
 refine l_op (f_val (v := .int .i64 a.n) F12 rfl rfl (r_loadB T6.at' 1 TI_3 rfl rfl (F12.ev 10 rfl) rfl rfl (fun _ => rfl) rfl) rfl fun _ F13 => ?_)
 refine l_op (f_val F13 rfl rfl (r_field FI_142_1 rfl (F13.ev 3 rfl) rfl) rfl fun _ F14 => ?_)
 refine l_op (f_val (v := .int .i64 b.n) F14 rfl rfl (r_loadB T6.at' 0 TI_3 rfl rfl (F14.ev 12 rfl) rfl rfl (fun _ => rfl) rfl) rfl fun _ F15 => ?_)
 refine l_op (f_val F15 rfl rfl (r_cmp (b := decide (a.n ≠ b.n)) (.inr (.inl rfl)) rfl (F15.ev 11 rfl) (F15.ev 13 rfl) (dec_of (by omega))) rfl fun _ F16 => ?_)
 rw [show (decide (a.n ≠ b.n)) = false from decide_eq_false (fun h => h (by rw [p0]))] at F16
 have F17 : Fr 20 [(14, .bool false), (3, .pointer (some ⟨b3, 0, none⟩)), (2, .pointer (some ⟨b1, 0, none⟩))] _ := F16.cut rfl
 clear F0 F2 F4 F5 F7 F8 F9 F10 F11 F12 F13 F14 F15 F16
 refine s_end (x_normal (wp_cond_false (F17.ev 14 rfl) (wp_skip (x_normal (wp_seq (wp_seq (wp_region_lit (l_op (f_val F17 rfl rfl (r_field FI_142_2 rfl (F17.ev 2 rfl) rfl) rfl fun _ F18 => ?_)))))))))
 refine l_op (f_val (v := .string a.text) F18 rfl rfl (r_loadB T6.at' 1 TI_9 rfl rfl (F18.ev 15 rfl) rfl rfl (fun _ => rfl) rfl) rfl fun _ F19 => ?_)
 refine l_op (f_val F19 rfl rfl (r_field FI_142_2 rfl (F19.ev 3 rfl) rfl) rfl fun _ F20 => ?_)
 refine l_op (f_val (v := .string b.text) F20 rfl rfl (r_loadB T6.at' 0 TI_9 rfl rfl (F20.ev 17 rfl) rfl rfl (fun _ => rfl) rfl) rfl fun _ F21 => ?_)
 refine l_op (f_val F21 rfl rfl (r_cmps (b := (decide (a.text ≠ b.text))) (.inr (.inl rfl)) rfl (F21.ev 16 rfl) (F21.ev 18 rfl) rfl) rfl fun _ F22 => ?_)
 rw [show (decide (a.text ≠ b.text)) = false from decide_eq_false (fun h => h (by rw [p0]))] at F22
 refine s_end (x_normal (wp_cond_false (F22.ev 19 rfl) (wp_skip (x_normal (wp_seq (wp_region_lit (l_op (f_val F22 rfl rfl (r_assign rfl rfl) rfl fun _ F23 => ?_))))))))
 refine s_end (x_normal (wp_ret ?_))
 refine x_done (v := .bool true) F23 (results_1 Tryz.results89 (.tmp (F23.ev 4 rfl))) ?_
 exact ⟨rfl, (Mv.pick (S1.trans T6) [] rfl)⟩
theorem laws_eqCallS_c {w : World} {H : Nat → Prop} {a : List CallD} {a_a : Option Addr} {a_n a_c : Nat} {b : List CallD} {b_a : Option Addr} {b_n b_c : Nat} (v_a : Rd 6 encK okK H w (.slice a_a a_n a_c) a) (v_b : Rd 6 encK okK H w (.slice b_a b_n b_c) b) (p0 : a = b) :
    Calls Tryz.prog 72 #[.slice a_a a_n a_c, .slice b_a b_n b_c] w fun e w' => e = .returned (.bool true) ∧ Mv [] w [] w' := by
 have V_v_a : Rd 6 encK okK (V H w []) w (.slice a_a a_n a_c) a := Rd.start v_a (fun _ _ => fps_nil _)
 obtain ⟨ln_a, le_a, mx_a, ni_a⟩ := Rd.inv v_a
 have Q0 : Rd 6 encK okK (V H w []) w (.slice b_a b_n b_c) b := Rd.start v_b (fun _ _ => fps_nil _)
 obtain ⟨ln_b, le_b, mx_b, ni_b⟩ := Rd.inv v_b
 refine calls_enter 27 Tryz.func72 rfl Tryz.ntmps72 (Nat.le_of_ble_eq_true rfl) (fun _ F0i => ?_)
 have F0 : Fr 27 [(0, .slice a_a a_n a_c), (1, .slice b_a b_n b_c)] _ := F0i
 clear F0i
 refine wp_seq ?_
 have hab : a_n = b_n := by rw [ln_a, ln_b, p0]
 refine wp_region_lit (l_op (f_val F0 rfl rfl (r_assign rfl rfl) rfl fun _ F1 => ?_))
 refine s_end (x_normal (wp_seq (wp_seq (wp_region_lit (l_op (f_mv F1 rfl rfl rfl rfl rfl fun _ F2 => ?_))))))
 refine l_op (f_val F2 rfl rfl (r_len Tryz.underlying52 rfl (F2.ev 6 rfl)) rfl fun _ F3 => ?_)
 refine l_op (f_mv F3 rfl rfl rfl rfl rfl fun _ F4 => ?_)
 refine l_op (f_val F4 rfl rfl (r_len Tryz.underlying52 rfl (F4.ev 8 rfl)) rfl fun _ F5 => ?_)
 refine l_op (f_val F5 rfl rfl (r_cmp (b := decide (a_n ≠ b_n)) (.inr (.inl rfl)) rfl (F5.ev 7 rfl) (F5.ev 9 rfl) (dec_of (by omega))) rfl fun _ F6 => ?_)
 rw [show (decide (a_n ≠ b_n)) = false from decide_eq_false (fun h => h hab)] at F6
 refine s_end (x_normal (wp_cond_false (F6.ev 10 rfl) (wp_skip (x_normal (wp_seq (wp_seq (wp_region_lit (l_op (f_val F6 rfl rfl (r_assign rfl rfl) rfl fun _ F7 => ?_)))))))))
 refine s_end (x_normal (wp_block ?_))
 refine x_loop (fun (k : Nat) aZ wZ => Fr 27 [(5, .int .i64 ((k : Nat) : Int)), (0, .slice a_a a_n a_c), (1, .slice b_a b_n b_c)] aZ ∧ Mv [] w [] wZ ∧ (k ≤ a_n)) (fun (k : Nat) => a_n - k) (0) ?_ ?_
 · exact ⟨F7.cut rfl, (Mv.refl (At.nil w)), by omega⟩
 · rintro k a8 w8 ⟨F8, S8, hk_0⟩
   refine wp_seq (wp_seq (wp_region_lit (l_op (f_mv F8 rfl rfl rfl rfl rfl fun _ F9 => ?_))))
   refine l_op (f_mv F9 rfl rfl rfl rfl rfl fun _ F10 => ?_)
   refine l_op (f_val F10 rfl rfl (r_len Tryz.underlying52 rfl (F10.ev 12 rfl)) rfl fun _ F11 => ?_)
   refine l_op (f_val F11 rfl rfl (r_cmp (b := decide (k < a_n)) (.inr (.inr (.inl rfl))) rfl (F11.ev 11 rfl) (F11.ev 13 rfl) (dec_of (by omega))) rfl fun _ F12 => ?_)
   refine s_end (x_normal (x_cond (p := k < a_n) (F12.ev 14 rfl) (fun h13 => ?_) (fun h13 => ?_)))
   · skip
     refine wp_skip (x_normal (wp_seq (wp_block (wp_seq ?_))))
     obtain ⟨x1, hx1, okx1⟩ := Rd.elem (Rd.mv (Nat.succ_pos _) V_v_a S8) k (by first | assumption | omega)
     obtain ⟨x2, hx2, okx2⟩ := Rd.elem (Rd.mv (Nat.succ_pos _) Q0 S8) k (by first | assumption | omega)
     refine x_draw (fun aZ wZ => Fr 27 [(0, .slice a_a a_n a_c), (1, .slice b_a b_n b_c), (5, .int .i64 ((k : Nat) : Int)), (26, .bool false)] aZ ∧ Mv [] w8 [] wZ) [] mixed S8.at' (listed := #[false, false, false, false, false, false, false, false, false, false]) rfl (fun w15 S15 => ?_) [] rfl ?_
     · skip
       refine g_take F12 rfl (i := 0) (listed' := #[true, false, false, false, false, false, false, false, false, false]) rfl (by kernel_rfl) (by kernel_rfl) (by kernel_rfl) (fun _ _ _ h => h) (Sd.of (Mv.refl S15.at') [] rfl) rfl rfl rfl rfl (fun _ hz => (r_move rfl (F12.ev 0 rfl))) fun _ F16 => ?_
       refine g_take F16 rfl (i := 1) (listed' := #[true, true, false, false, false, false, false, false, false, false]) rfl (by kernel_rfl) (by kernel_rfl) (by kernel_rfl) (fun _ _ _ h => h) (Sd.of (Mv.refl S15.at') [] rfl) rfl rfl rfl rfl (fun _ hz => (r_move rfl (F16.ev 5 rfl))) fun _ F17 => ?_
       obtain ⟨B18, O18, y18, ad18, hy18, oky18, ln18, cl18⟩ := Rd.atK (Nat.succ_pos _) (Rd.mv (Nat.succ_pos _) V_v_a (S8.trans S15)) k (by first | assumption | omega)
       clear ln18
       obtain rfl := Option.some.inj (hx1.symm.trans hy18)
       clear hy18 oky18
       refine g_take F17 rfl (i := 2) (listed' := #[true, true, true, false, false, false, false, false, false, false]) rfl (by kernel_rfl) (by kernel_rfl) (by kernel_rfl) (fun _ _ _ h => h) (Sd.of (Mv.refl S15.at') [] rfl) rfl rfl rfl rfl (fun _ hz => (r_indexAddr (i := k) ET_52 rfl ((F17.ev 17 rfl).trans (by rw [ad18])) (F17.ev 18 rfl) (by omega) (by first | assumption | omega))) fun _ F19 => ?_
       refine g_take (v := .agg #[.int .i64 x1.kind, .string x1.name, .string x1.to_, .int .i64 x1.a, .int .i64 x1.b, .string x1.text]) F19 rfl (i := 3) (listed' := #[true, true, true, true, false, false, false, false, false, false]) rfl (by kernel_rfl) (by kernel_rfl) (by kernel_rfl) (fun _ _ _ h => h) (Sd.of (Mv.refl S15.at') [] rfl) rfl rfl rfl rfl (fun _ hz => (r_load (cs := [.int .i64 x1.kind, .string x1.name, .string x1.to_, .int .i64 x1.a, .int .i64 x1.b, .string x1.text]) TI_140 rfl (F19.ev 19 rfl) rfl (fun h => nomatch h) (elem_sub (f := 0) (cl18 _ hz.kp) [.int .i64 x1.kind, .string x1.name, .string x1.to_, .int .i64 x1.a, .int .i64 x1.b, .string x1.text] rfl))) fun _ F20 => ?_
       refine g_take F20 rfl (i := 4) (listed' := #[true, true, true, true, true, false, false, false, false, false]) rfl (by kernel_rfl) (by kernel_rfl) (by kernel_rfl) (fun _ _ _ h => h) (Sd.of (Mv.refl S15.at') [] rfl) rfl rfl rfl rfl (fun _ hz => (r_move rfl (F20.ev 1 rfl))) fun _ F21 => ?_
       refine g_take F21 rfl (i := 5) (listed' := #[true, true, true, true, true, true, false, false, false, false]) rfl (by kernel_rfl) (by kernel_rfl) (by kernel_rfl) (fun _ _ _ h => h) (Sd.of (Mv.refl S15.at') [] rfl) rfl rfl rfl rfl (fun _ hz => (r_move rfl (F21.ev 5 rfl))) fun _ F22 => ?_
       obtain ⟨B23, O23, y23, ad23, hy23, oky23, ln23, cl23⟩ := Rd.atK (Nat.succ_pos _) (Rd.mv (Nat.succ_pos _) Q0 (S8.trans S15)) k (by first | assumption | omega)
       clear ln23
       obtain rfl := Option.some.inj (hx2.symm.trans hy23)
       clear hy23 oky23
       refine g_take F22 rfl (i := 6) (listed' := #[true, true, true, true, true, true, true, false, false, false]) rfl (by kernel_rfl) (by kernel_rfl) (by kernel_rfl) (fun _ _ _ h => h) (Sd.of (Mv.refl S15.at') [] rfl) rfl rfl rfl rfl (fun _ hz => (r_indexAddr (i := k) ET_52 rfl ((F22.ev 21 rfl).trans (by rw [ad23])) (F22.ev 22 rfl) (by omega) (by first | assumption | omega))) fun _ F24 => ?_
       refine g_take (v := .agg #[.int .i64 x2.kind, .string x2.name, .string x2.to_, .int .i64 x2.a, .int .i64 x2.b, .string x2.text]) F24 rfl (i := 7) (listed' := #[true, true, true, true, true, true, true, true, false, false]) rfl (by kernel_rfl) (by kernel_rfl) (by kernel_rfl) (fun _ _ _ h => h) (Sd.of (Mv.refl S15.at') [] rfl) rfl rfl rfl rfl (fun _ hz => (r_load (cs := [.int .i64 x2.kind, .string x2.name, .string x2.to_, .int .i64 x2.a, .int .i64 x2.b, .string x2.text]) TI_140 rfl (F24.ev 23 rfl) rfl (fun h => nomatch h) (elem_sub (f := 0) (cl23 _ hz.kp) [.int .i64 x2.kind, .string x2.name, .string x2.to_, .int .i64 x2.a, .int .i64 x2.b, .string x2.text] rfl))) fun _ F25 => ?_
       refine d_one (i := 8) (listed' := #[true, true, true, true, true, true, true, true, true, false]) rfl (by kernel_rfl) rfl rfl ?_
       refine f_call F25 CF_88 rfl rfl rfl rfl (lc (F25.ev 20 rfl) (lc (F25.ev 24 rfl) rfl)) (laws_eqCall_c (H := fun _ => True) (a := x1) (b := x2) okx1.1 okx1.2.1 okx1.2.2.1 okx1.2.2.2.1 okx1.2.2.2.2.1 okx1.2.2.2.2.2 okx2.1 okx2.2.1 okx2.2.2.1 okx2.2.2.2.1 okx2.2.2.2.2.1 okx2.2.2.2.2.2 (by exact el_eq p0 hx1 hx2)) ?_
       rintro _ w26 ⟨rfl, m26⟩
       refine ⟨_, rfl, fun _ F27 => ?_⟩
       have S26 := At.frame0 S15.at' m26
       clear m26
       refine ⟨Sd.of S26 [] rfl, ?_⟩
       refine g_take F27 rfl (i := 9) (listed' := #[true, true, true, true, true, true, true, true, true, true]) rfl (by kernel_rfl) (by kernel_rfl) (by kernel_rfl) (fun _ _ _ h => h) (Sd.of S26 [] rfl) rfl rfl rfl rfl (fun _ hz => (r_not rfl (F27.ev 25 rfl))) fun _ F28 => ?_
       refine wpAnyH_done (by kernel_rfl) (x_normal ?_) _
       exact ⟨F28.cut rfl, ((S15.trans S26).pick [] rfl)⟩
     · rintro a29 w29 ⟨F29, S29⟩
       refine x_normal (wp_cond_false (F29.ev 26 rfl) (wp_skip (x_block_normal (x_normal (wp_region_lit (l_op (f_mv F29 rfl rfl rfl rfl rfl fun _ F30 => ?_)))))))
       refine l_op (f_val F30 rfl rfl (r_add (z := ((k + 1 : Nat) : Int)) rfl (F30.ev 15 rfl) rfl (by first | rfl | omega) ⟨by first | omega | (unfold i64ok at *; omega), by first | omega | (unfold i64ok at *; omega)⟩) rfl fun _ F31 => ?_)
       refine l_op (f_as F31 rfl rfl rfl rfl rfl fun _ F32 => ?_)
       refine s_end ?_
       refine x_normal ⟨k + 1, by omega, F32.cut rfl, ((S8.trans S29).pick [] rfl), by omega⟩
   · skip
     refine wp_exit (x_then_exit (x_then_exit (x_block_here (x_normal (wp_seq (wp_region_lit (l_op (f_val F12 rfl rfl (r_assign rfl rfl) rfl fun _ F33 => ?_))))))))
     refine s_end (x_normal (wp_ret ?_))
     refine x_done (v := .bool true) F33 (results_1 Tryz.results72 (.tmp (F33.ev 4 rfl))) ?_
     exact ⟨rfl, (Mv.pick S8 [] rfl)⟩
theorem laws_eqAnswerS_c {w : World} {H : Nat → Prop} {a : List AnsD} {a_a : Option Addr} {a_n a_c : Nat} {b : List AnsD} {b_a : Option Addr} {b_n b_c : Nat} (v_a : Rd 3 encR okR H w (.slice a_a a_n a_c) a) (v_b : Rd 3 encR okR H w (.slice b_a b_n b_c) b) (p0 : a = b) :
    Calls Tryz.prog 73 #[.slice a_a a_n a_c, .slice b_a b_n b_c] w fun e w' => e = .returned (.bool true) ∧ Mv [] w [] w' := by
 have V_v_a : Rd 3 encR okR (V H w []) w (.slice a_a a_n a_c) a := Rd.start v_a (fun _ _ => fps_nil _)
 obtain ⟨ln_a, le_a, mx_a, ni_a⟩ := Rd.inv v_a
 have Q0 : Rd 3 encR okR (V H w []) w (.slice b_a b_n b_c) b := Rd.start v_b (fun _ _ => fps_nil _)
 obtain ⟨ln_b, le_b, mx_b, ni_b⟩ := Rd.inv v_b
 refine calls_enter 27 Tryz.func73 rfl Tryz.ntmps73 (Nat.le_of_ble_eq_true rfl) (fun _ F0i => ?_)
 have F0 : Fr 27 [(0, .slice a_a a_n a_c), (1, .slice b_a b_n b_c)] _ := F0i
 clear F0i
 refine wp_seq ?_
 have hab : a_n = b_n := by rw [ln_a, ln_b, p0]
 refine wp_region_lit (l_op (f_val F0 rfl rfl (r_assign rfl rfl) rfl fun _ F1 => ?_))
 refine s_end (x_normal (wp_seq (wp_seq (wp_region_lit (l_op (f_mv F1 rfl rfl rfl rfl rfl fun _ F2 => ?_))))))
 refine l_op (f_val F2 rfl rfl (r_len Tryz.underlying53 rfl (F2.ev 6 rfl)) rfl fun _ F3 => ?_)
 refine l_op (f_mv F3 rfl rfl rfl rfl rfl fun _ F4 => ?_)
 refine l_op (f_val F4 rfl rfl (r_len Tryz.underlying53 rfl (F4.ev 8 rfl)) rfl fun _ F5 => ?_)
 refine l_op (f_val F5 rfl rfl (r_cmp (b := decide (a_n ≠ b_n)) (.inr (.inl rfl)) rfl (F5.ev 7 rfl) (F5.ev 9 rfl) (dec_of (by omega))) rfl fun _ F6 => ?_)
 rw [show (decide (a_n ≠ b_n)) = false from decide_eq_false (fun h => h hab)] at F6
 refine s_end (x_normal (wp_cond_false (F6.ev 10 rfl) (wp_skip (x_normal (wp_seq (wp_seq (wp_region_lit (l_op (f_val F6 rfl rfl (r_assign rfl rfl) rfl fun _ F7 => ?_)))))))))
 refine s_end (x_normal (wp_block ?_))
 refine x_loop (fun (k : Nat) aZ wZ => Fr 27 [(5, .int .i64 ((k : Nat) : Int)), (0, .slice a_a a_n a_c), (1, .slice b_a b_n b_c)] aZ ∧ Mv [] w [] wZ ∧ (k ≤ a_n)) (fun (k : Nat) => a_n - k) (0) ?_ ?_
 · exact ⟨F7.cut rfl, (Mv.refl (At.nil w)), by omega⟩
 · rintro k a8 w8 ⟨F8, S8, hk_0⟩
   refine wp_seq (wp_seq (wp_region_lit (l_op (f_mv F8 rfl rfl rfl rfl rfl fun _ F9 => ?_))))
   refine l_op (f_mv F9 rfl rfl rfl rfl rfl fun _ F10 => ?_)
   refine l_op (f_val F10 rfl rfl (r_len Tryz.underlying53 rfl (F10.ev 12 rfl)) rfl fun _ F11 => ?_)
   refine l_op (f_val F11 rfl rfl (r_cmp (b := decide (k < a_n)) (.inr (.inr (.inl rfl))) rfl (F11.ev 11 rfl) (F11.ev 13 rfl) (dec_of (by omega))) rfl fun _ F12 => ?_)
   refine s_end (x_normal (x_cond (p := k < a_n) (F12.ev 14 rfl) (fun h13 => ?_) (fun h13 => ?_)))
   · skip
     refine wp_skip (x_normal (wp_seq (wp_block (wp_seq ?_))))
     obtain ⟨x1, hx1, okx1⟩ := Rd.elem (Rd.mv (Nat.succ_pos _) V_v_a S8) k (by first | assumption | omega)
     obtain ⟨x2, hx2, okx2⟩ := Rd.elem (Rd.mv (Nat.succ_pos _) Q0 S8) k (by first | assumption | omega)
     refine x_draw (fun aZ wZ => Fr 27 [(0, .slice a_a a_n a_c), (1, .slice b_a b_n b_c), (5, .int .i64 ((k : Nat) : Int)), (26, .bool false)] aZ ∧ Mv [] w8 [] wZ) [] mixed S8.at' (listed := #[false, false, false, false, false, false, false, false, false, false]) rfl (fun w15 S15 => ?_) [] rfl ?_
     · skip
       refine g_take F12 rfl (i := 0) (listed' := #[true, false, false, false, false, false, false, false, false, false]) rfl (by kernel_rfl) (by kernel_rfl) (by kernel_rfl) (fun _ _ _ h => h) (Sd.of (Mv.refl S15.at') [] rfl) rfl rfl rfl rfl (fun _ hz => (r_move rfl (F12.ev 0 rfl))) fun _ F16 => ?_
       refine g_take F16 rfl (i := 1) (listed' := #[true, true, false, false, false, false, false, false, false, false]) rfl (by kernel_rfl) (by kernel_rfl) (by kernel_rfl) (fun _ _ _ h => h) (Sd.of (Mv.refl S15.at') [] rfl) rfl rfl rfl rfl (fun _ hz => (r_move rfl (F16.ev 5 rfl))) fun _ F17 => ?_
       obtain ⟨B18, O18, y18, ad18, hy18, oky18, ln18, cl18⟩ := Rd.atK (Nat.succ_pos _) (Rd.mv (Nat.succ_pos _) V_v_a (S8.trans S15)) k (by first | assumption | omega)
       clear ln18
       obtain rfl := Option.some.inj (hx1.symm.trans hy18)
       clear hy18 oky18
       refine g_take F17 rfl (i := 2) (listed' := #[true, true, true, false, false, false, false, false, false, false]) rfl (by kernel_rfl) (by kernel_rfl) (by kernel_rfl) (fun _ _ _ h => h) (Sd.of (Mv.refl S15.at') [] rfl) rfl rfl rfl rfl (fun _ hz => (r_indexAddr (i := k) ET_53 rfl ((F17.ev 17 rfl).trans (by rw [ad18])) (F17.ev 18 rfl) (by omega) (by first | assumption | omega))) fun _ F19 => ?_
       refine g_take (v := .agg #[.int .i64 x1.code, .int .i64 x1.n, .string x1.text]) F19 rfl (i := 3) (listed' := #[true, true, true, true, false, false, false, false, false, false]) rfl (by kernel_rfl) (by kernel_rfl) (by kernel_rfl) (fun _ _ _ h => h) (Sd.of (Mv.refl S15.at') [] rfl) rfl rfl rfl rfl (fun _ hz => (r_load (cs := [.int .i64 x1.code, .int .i64 x1.n, .string x1.text]) TI_142 rfl (F19.ev 19 rfl) rfl (fun h => nomatch h) (elem_sub (f := 0) (cl18 _ hz.kp) [.int .i64 x1.code, .int .i64 x1.n, .string x1.text] rfl))) fun _ F20 => ?_
       refine g_take F20 rfl (i := 4) (listed' := #[true, true, true, true, true, false, false, false, false, false]) rfl (by kernel_rfl) (by kernel_rfl) (by kernel_rfl) (fun _ _ _ h => h) (Sd.of (Mv.refl S15.at') [] rfl) rfl rfl rfl rfl (fun _ hz => (r_move rfl (F20.ev 1 rfl))) fun _ F21 => ?_
       refine g_take F21 rfl (i := 5) (listed' := #[true, true, true, true, true, true, false, false, false, false]) rfl (by kernel_rfl) (by kernel_rfl) (by kernel_rfl) (fun _ _ _ h => h) (Sd.of (Mv.refl S15.at') [] rfl) rfl rfl rfl rfl (fun _ hz => (r_move rfl (F21.ev 5 rfl))) fun _ F22 => ?_
       obtain ⟨B23, O23, y23, ad23, hy23, oky23, ln23, cl23⟩ := Rd.atK (Nat.succ_pos _) (Rd.mv (Nat.succ_pos _) Q0 (S8.trans S15)) k (by first | assumption | omega)
       clear ln23
       obtain rfl := Option.some.inj (hx2.symm.trans hy23)
       clear hy23 oky23
       refine g_take F22 rfl (i := 6) (listed' := #[true, true, true, true, true, true, true, false, false, false]) rfl (by kernel_rfl) (by kernel_rfl) (by kernel_rfl) (fun _ _ _ h => h) (Sd.of (Mv.refl S15.at') [] rfl) rfl rfl rfl rfl (fun _ hz => (r_indexAddr (i := k) ET_53 rfl ((F22.ev 21 rfl).trans (by rw [ad23])) (F22.ev 22 rfl) (by omega) (by first | assumption | omega))) fun _ F24 => ?_
       refine g_take (v := .agg #[.int .i64 x2.code, .int .i64 x2.n, .string x2.text]) F24 rfl (i := 7) (listed' := #[true, true, true, true, true, true, true, true, false, false]) rfl (by kernel_rfl) (by kernel_rfl) (by kernel_rfl) (fun _ _ _ h => h) (Sd.of (Mv.refl S15.at') [] rfl) rfl rfl rfl rfl (fun _ hz => (r_load (cs := [.int .i64 x2.code, .int .i64 x2.n, .string x2.text]) TI_142 rfl (F24.ev 23 rfl) rfl (fun h => nomatch h) (elem_sub (f := 0) (cl23 _ hz.kp) [.int .i64 x2.code, .int .i64 x2.n, .string x2.text] rfl))) fun _ F25 => ?_
       refine d_one (i := 8) (listed' := #[true, true, true, true, true, true, true, true, true, false]) rfl (by kernel_rfl) rfl rfl ?_
       refine f_call F25 CF_89 rfl rfl rfl rfl (lc (F25.ev 20 rfl) (lc (F25.ev 24 rfl) rfl)) (laws_eqAnswer_c (H := fun _ => True) (a := x1) (b := x2) okx1.1 okx1.2.1 okx1.2.2 okx2.1 okx2.2.1 okx2.2.2 (by exact el_eq p0 hx1 hx2)) ?_
       rintro _ w26 ⟨rfl, m26⟩
       refine ⟨_, rfl, fun _ F27 => ?_⟩
       have S26 := At.frame0 S15.at' m26
       clear m26
       refine ⟨Sd.of S26 [] rfl, ?_⟩
       refine g_take F27 rfl (i := 9) (listed' := #[true, true, true, true, true, true, true, true, true, true]) rfl (by kernel_rfl) (by kernel_rfl) (by kernel_rfl) (fun _ _ _ h => h) (Sd.of S26 [] rfl) rfl rfl rfl rfl (fun _ hz => (r_not rfl (F27.ev 25 rfl))) fun _ F28 => ?_
       refine wpAnyH_done (by kernel_rfl) (x_normal ?_) _
       exact ⟨F28.cut rfl, ((S15.trans S26).pick [] rfl)⟩
     · rintro a29 w29 ⟨F29, S29⟩
       refine x_normal (wp_cond_false (F29.ev 26 rfl) (wp_skip (x_block_normal (x_normal (wp_region_lit (l_op (f_mv F29 rfl rfl rfl rfl rfl fun _ F30 => ?_)))))))
       refine l_op (f_val F30 rfl rfl (r_add (z := ((k + 1 : Nat) : Int)) rfl (F30.ev 15 rfl) rfl (by first | rfl | omega) ⟨by first | omega | (unfold i64ok at *; omega), by first | omega | (unfold i64ok at *; omega)⟩) rfl fun _ F31 => ?_)
       refine l_op (f_as F31 rfl rfl rfl rfl rfl fun _ F32 => ?_)
       refine s_end ?_
       refine x_normal ⟨k + 1, by omega, F32.cut rfl, ((S8.trans S29).pick [] rfl), by omega⟩
   · skip
     refine wp_exit (x_then_exit (x_then_exit (x_block_here (x_normal (wp_seq (wp_region_lit (l_op (f_val F12 rfl rfl (r_assign rfl rfl) rfl fun _ F33 => ?_))))))))
     refine s_end (x_normal (wp_ret ?_))
     refine x_done (v := .bool true) F33 (results_1 Tryz.results73 (.tmp (F33.ev 4 rfl))) ?_
     exact ⟨rfl, (Mv.pick S8 [] rfl)⟩
theorem laws_eqIntS_c {w : World} {H : Nat → Prop} {a : List Int} {a_a : Option Addr} {a_n a_c : Nat} {b : List Int} {b_a : Option Addr} {b_n b_c : Nat} (v_a : Rd 1 encI okI H w (.slice a_a a_n a_c) a) (v_b : Rd 1 encI okI H w (.slice b_a b_n b_c) b) (p0 : a = b) :
    Calls Tryz.prog 75 #[.slice a_a a_n a_c, .slice b_a b_n b_c] w fun e w' => e = .returned (.bool true) ∧ Mv [] w [] w' := by
 have V_v_a : Rd 1 encI okI (V H w []) w (.slice a_a a_n a_c) a := Rd.start v_a (fun _ _ => fps_nil _)
 obtain ⟨ln_a, le_a, mx_a, ni_a⟩ := Rd.inv v_a
 have Q0 : Rd 1 encI okI (V H w []) w (.slice b_a b_n b_c) b := Rd.start v_b (fun _ _ => fps_nil _)
 obtain ⟨ln_b, le_b, mx_b, ni_b⟩ := Rd.inv v_b
 refine calls_enter 26 Tryz.func75 rfl Tryz.ntmps75 (Nat.le_of_ble_eq_true rfl) (fun _ F0i => ?_)
 have F0 : Fr 26 [(0, .slice a_a a_n a_c), (1, .slice b_a b_n b_c)] _ := F0i
 clear F0i
 refine wp_seq ?_
 have hab : a_n = b_n := by rw [ln_a, ln_b, p0]
 refine wp_region_lit (l_op (f_val F0 rfl rfl (r_assign rfl rfl) rfl fun _ F1 => ?_))
 refine s_end (x_normal (wp_seq (wp_seq (wp_region_lit (l_op (f_mv F1 rfl rfl rfl rfl rfl fun _ F2 => ?_))))))
 refine l_op (f_val F2 rfl rfl (r_len Tryz.underlying56 rfl (F2.ev 6 rfl)) rfl fun _ F3 => ?_)
 refine l_op (f_mv F3 rfl rfl rfl rfl rfl fun _ F4 => ?_)
 refine l_op (f_val F4 rfl rfl (r_len Tryz.underlying56 rfl (F4.ev 8 rfl)) rfl fun _ F5 => ?_)
 refine l_op (f_val F5 rfl rfl (r_cmp (b := decide (a_n ≠ b_n)) (.inr (.inl rfl)) rfl (F5.ev 7 rfl) (F5.ev 9 rfl) (dec_of (by omega))) rfl fun _ F6 => ?_)
 rw [show (decide (a_n ≠ b_n)) = false from decide_eq_false (fun h => h hab)] at F6
 refine s_end (x_normal (wp_cond_false (F6.ev 10 rfl) (wp_skip (x_normal (wp_seq (wp_seq (wp_region_lit (l_op (f_val F6 rfl rfl (r_assign rfl rfl) rfl fun _ F7 => ?_)))))))))
 refine s_end (x_normal (wp_block ?_))
 refine x_loop (fun (k : Nat) aZ wZ => Fr 26 [(5, .int .i64 ((k : Nat) : Int)), (0, .slice a_a a_n a_c), (1, .slice b_a b_n b_c)] aZ ∧ Mv [] w [] wZ ∧ (k ≤ a_n)) (fun (k : Nat) => a_n - k) (0) ?_ ?_
 · exact ⟨F7.cut rfl, (Mv.refl (At.nil w)), by omega⟩
 · rintro k a8 w8 ⟨F8, S8, hk_0⟩
   refine wp_seq (wp_seq (wp_region_lit (l_op (f_mv F8 rfl rfl rfl rfl rfl fun _ F9 => ?_))))
   refine l_op (f_mv F9 rfl rfl rfl rfl rfl fun _ F10 => ?_)
   refine l_op (f_val F10 rfl rfl (r_len Tryz.underlying56 rfl (F10.ev 12 rfl)) rfl fun _ F11 => ?_)
   refine l_op (f_val F11 rfl rfl (r_cmp (b := decide (k < a_n)) (.inr (.inr (.inl rfl))) rfl (F11.ev 11 rfl) (F11.ev 13 rfl) (dec_of (by omega))) rfl fun _ F12 => ?_)
   refine s_end (x_normal (x_cond (p := k < a_n) (F12.ev 14 rfl) (fun h13 => ?_) (fun h13 => ?_)))
   · skip
     refine wp_skip (x_normal (wp_seq (wp_block (wp_seq ?_))))
     obtain ⟨x1, hx1, okx1⟩ := Rd.elem (Rd.mv (Nat.succ_pos _) V_v_a S8) k (by first | assumption | omega)
     obtain ⟨x2, hx2, okx2⟩ := Rd.elem (Rd.mv (Nat.succ_pos _) Q0 S8) k (by first | assumption | omega)
     refine x_draw (fun aZ wZ => Fr 26 [(0, .slice a_a a_n a_c), (1, .slice b_a b_n b_c), (5, .int .i64 ((k : Nat) : Int)), (25, .bool false)] aZ ∧ Mv [] w8 [] wZ) [] mixed S8.at' (listed := #[false, false, false, false, false, false, false, false, false]) rfl (fun w15 S15 => ?_) [] rfl ?_
     · skip
       refine g_take F12 rfl (i := 0) (listed' := #[true, false, false, false, false, false, false, false, false]) rfl (by kernel_rfl) (by kernel_rfl) (by kernel_rfl) (fun _ _ _ h => h) (Sd.of (Mv.refl S15.at') [] rfl) rfl rfl rfl rfl (fun _ hz => (r_move rfl (F12.ev 0 rfl))) fun _ F16 => ?_
       refine g_take F16 rfl (i := 1) (listed' := #[true, true, false, false, false, false, false, false, false]) rfl (by kernel_rfl) (by kernel_rfl) (by kernel_rfl) (fun _ _ _ h => h) (Sd.of (Mv.refl S15.at') [] rfl) rfl rfl rfl rfl (fun _ hz => (r_move rfl (F16.ev 5 rfl))) fun _ F17 => ?_
       obtain ⟨B18, O18, y18, ad18, hy18, oky18, ln18, cl18⟩ := Rd.atK (Nat.succ_pos _) (Rd.mv (Nat.succ_pos _) V_v_a (S8.trans S15)) k (by first | assumption | omega)
       clear ln18
       obtain rfl := Option.some.inj (hx1.symm.trans hy18)
       clear hy18 oky18
       refine g_take F17 rfl (i := 2) (listed' := #[true, true, true, false, false, false, false, false, false]) rfl (by kernel_rfl) (by kernel_rfl) (by kernel_rfl) (fun _ _ _ h => h) (Sd.of (Mv.refl S15.at') [] rfl) rfl rfl rfl rfl (fun _ hz => (r_indexAddr (i := k) ET_56 rfl ((F17.ev 17 rfl).trans (by rw [ad18])) (F17.ev 18 rfl) (by omega) (by first | assumption | omega))) fun _ F19 => ?_
       refine g_take (v := .int .i64 x1) F19 rfl (i := 3) (listed' := #[true, true, true, true, false, false, false, false, false]) rfl (by kernel_rfl) (by kernel_rfl) (by kernel_rfl) (fun _ _ _ h => h) (Sd.of (Mv.refl S15.at') [] rfl) rfl rfl rfl rfl (fun _ hz => (r_load (cs := [.int .i64 x1]) TI_3 rfl (F19.ev 19 rfl) rfl (fun _ => rfl) (elem_sub (f := 0) (cl18 _ hz.kp) [.int .i64 x1] rfl))) fun _ F20 => ?_
       refine g_take F20 rfl (i := 4) (listed' := #[true, true, true, true, true, false, false, false, false]) rfl (by kernel_rfl) (by kernel_rfl) (by kernel_rfl) (fun _ _ _ h => h) (Sd.of (Mv.refl S15.at') [] rfl) rfl rfl rfl rfl (fun _ hz => (r_move rfl (F20.ev 1 rfl))) fun _ F21 => ?_
       refine g_take F21 rfl (i := 5) (listed' := #[true, true, true, true, true, true, false, false, false]) rfl (by kernel_rfl) (by kernel_rfl) (by kernel_rfl) (fun _ _ _ h => h) (Sd.of (Mv.refl S15.at') [] rfl) rfl rfl rfl rfl (fun _ hz => (r_move rfl (F21.ev 5 rfl))) fun _ F22 => ?_
       obtain ⟨B23, O23, y23, ad23, hy23, oky23, ln23, cl23⟩ := Rd.atK (Nat.succ_pos _) (Rd.mv (Nat.succ_pos _) Q0 (S8.trans S15)) k (by first | assumption | omega)
       clear ln23
       obtain rfl := Option.some.inj (hx2.symm.trans hy23)
       clear hy23 oky23
       refine g_take F22 rfl (i := 6) (listed' := #[true, true, true, true, true, true, true, false, false]) rfl (by kernel_rfl) (by kernel_rfl) (by kernel_rfl) (fun _ _ _ h => h) (Sd.of (Mv.refl S15.at') [] rfl) rfl rfl rfl rfl (fun _ hz => (r_indexAddr (i := k) ET_56 rfl ((F22.ev 21 rfl).trans (by rw [ad23])) (F22.ev 22 rfl) (by omega) (by first | assumption | omega))) fun _ F24 => ?_
       refine g_take (v := .int .i64 x2) F24 rfl (i := 7) (listed' := #[true, true, true, true, true, true, true, true, false]) rfl (by kernel_rfl) (by kernel_rfl) (by kernel_rfl) (fun _ _ _ h => h) (Sd.of (Mv.refl S15.at') [] rfl) rfl rfl rfl rfl (fun _ hz => (r_load (cs := [.int .i64 x2]) TI_3 rfl (F24.ev 23 rfl) rfl (fun _ => rfl) (elem_sub (f := 0) (cl23 _ hz.kp) [.int .i64 x2] rfl))) fun _ F25 => ?_
       refine g_take F25 rfl (i := 8) (listed' := #[true, true, true, true, true, true, true, true, true]) rfl (by kernel_rfl) (by kernel_rfl) (by kernel_rfl) (fun _ _ _ h => h) (Sd.of (Mv.refl S15.at') [] rfl) rfl rfl rfl rfl (fun _ hz => (r_cmp (b := decide (x1 ≠ x2)) (.inr (.inl rfl)) rfl (F25.ev 20 rfl) (F25.ev 24 rfl) (dec_of (by omega)))) fun _ F26 => ?_
       rw [show (decide (x1 ≠ x2)) = false from decide_eq_false (fun h => h (el_eq p0 hx1 hx2))] at F26
       refine wpAnyH_done (by kernel_rfl) (x_normal ?_) _
       exact ⟨F26.cut rfl, (S15.pick [] rfl)⟩
     · rintro a27 w27 ⟨F27, S27⟩
       refine x_normal (wp_cond_false (F27.ev 25 rfl) (wp_skip (x_block_normal (x_normal (wp_region_lit (l_op (f_mv F27 rfl rfl rfl rfl rfl fun _ F28 => ?_)))))))
       refine l_op (f_val F28 rfl rfl (r_add (z := ((k + 1 : Nat) : Int)) rfl (F28.ev 15 rfl) rfl (by first | rfl | omega) ⟨by first | omega | (unfold i64ok at *; omega), by first | omega | (unfold i64ok at *; omega)⟩) rfl fun _ F29 => ?_)
       refine l_op (f_as F29 rfl rfl rfl rfl rfl fun _ F30 => ?_)
       refine s_end ?_
       refine x_normal ⟨k + 1, by omega, F30.cut rfl, ((S8.trans S27).pick [] rfl), by omega⟩
   · skip
     refine wp_exit (x_then_exit (x_then_exit (x_block_here (x_normal (wp_seq (wp_region_lit (l_op (f_val F12 rfl rfl (r_assign rfl rfl) rfl fun _ F31 => ?_))))))))
     refine s_end (x_normal (wp_ret ?_))
     refine x_done (v := .bool true) F31 (results_1 Tryz.results75 (.tmp (F31.ev 4 rfl))) ?_
     exact ⟨rfl, (Mv.pick S8 [] rfl)⟩
end Go.Proofs.YtgfilegkabbliaaGreat
