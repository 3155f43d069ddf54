/-
  Walks: calls, answers and marks in the laws' hands.
-/
import Derived.Test.YtgfilegkabbliaaDatTx
namespace Go.Proofs.Ytgfilegkabbliaa
open Go.ChangeShapes Go.WideShapes Go.ChangeAt Go.RowKit
set_option maxRecDepth 100000
set_option maxHeartbeats 1000000
theorem laws_szStringS_c {w : World} {H : Nat → Prop} {a : List ByteArray} {a_a : Option Addr} {a_n a_c : Nat} {left : Int} (v_a : RdA 1 encS okS H w (.slice a_a a_n a_c) a) (Q0 : i64ok left) (p0 : 0 ≤ left) (p1 : left ≤ 1048576) :
    Calls Try.prog 88 #[.slice a_a a_n a_c, .int .i64 left] w fun e w' => e = .returned (.int .i64 (subOr left (szStrs a))) ∧ Mv [] w [] w' ∧ i64ok (subOr left (szStrs a)) := by
  have uU : True := (fun _ => trivial) Q0
  clear uU
  refine (szStringS_c _ left w a v_a.1 p0 p1).mono ?_
  rintro e w' ⟨rfl, hb⟩
  exact ⟨rfl, Mv.of_bl hb, subOr_i64 p0 p1⟩
theorem laws_toStringS_c {w : World} {H : Nat → Prop} {a : List ByteArray} {a_a : Option Addr} {a_n a_c : Nat} (v_a : RdA 1 encS okS H w (.slice a_a a_n a_c) a) (p0 : a.length ≤ 1048576) :
    Calls Try.prog 93 #[.slice a_a a_n a_c] w fun e w' => ∃ (r0_a : Option Addr), ∃ (r0_n : Nat), ∃ (r0_c : Nat), e = .returned (.slice r0_a r0_n r0_c) ∧ Mv [] w [ow 9 1 encS okS (.slice r0_a r0_n r0_c) a] w' := by
  refine (toStringS_s _ w a v_a.1 p0).mono ?_
  rintro e w' ⟨x, n, c, rfl, h1, h2, h3⟩
  exact ⟨x, n, c, rfl, mv_of_fresh h1 h2 h3⟩
theorem laws_eqStringS_c {w : World} {H : Nat → Prop} {a : List ByteArray} {a_a : Option Addr} {a_n a_c : Nat} {b : List ByteArray} {b_a : Option Addr} {b_n b_c : Nat} (v_a : Rd 1 encS okS H w (.slice a_a a_n a_c) a) (v_b : Rd 1 encS okS H w (.slice b_a b_n b_c) b) (p0 : a = b) :
    Calls Try.prog 101 #[.slice a_a a_n a_c, .slice b_a b_n b_c] w fun e w' => e = .returned (.bool true) ∧ Mv [] w [] w' := by
  subst p0
  refine (eqStringS_c _ _ w a v_a.1 v_b.1).mono ?_
  rintro e w' ⟨rfl, hb⟩
  exact ⟨rfl, Mv.of_bl hb⟩
theorem laws_markStringS_c {w : World} {H : Nat → Prop} {a : List ByteArray} {a_a : Option Addr} {a_n a_c : Nat} {k : Nat} (h_k : i64ok (k : Int)) (p0 : k + a.length ≤ 4611686018427387904) (hA : At w [ow 9 1 encS okS (.slice a_a a_n a_c) a]) :
    Calls Try.prog 81 #[.slice a_a a_n a_c, .int .i64 ((k : Nat) : Int)] w fun e w' => e = .returned (.int .i64 ((k + a.length : Nat) : Int)) ∧ Mv [ow 9 1 encS okS (.slice a_a a_n a_c) a] w [ow 9 1 encS okS (.slice a_a a_n a_c) (marks k a.length)] w' := by
  have uU : True := (fun _ _ => trivial) H h_k
  clear uU
  have hO := hA.ok _ (List.mem_singleton.2 rfl)
  refine (markStringS_c _ k _ rfl w a hO p0).mono ?_
  rintro e w' ⟨rfl, h1, h2⟩
  exact ⟨rfl, mv_of_own h1 h2 (Moved.refl _ _)⟩
theorem laws_heldStringS_c {w : World} {H : Nat → Prop} {a : List ByteArray} {a_a : Option Addr} {a_n a_c : Nat} {k : Nat} {n : Nat} (v_a : Rd 1 encS okS H w (.slice a_a a_n a_c) a) (h_k : i64ok (k : Int)) (p0 : a = marks k n) (p1 : k + n ≤ 4611686018427387904) :
    Calls Try.prog 84 #[.slice a_a a_n a_c, .int .i64 ((k : Nat) : Int)] w fun e w' => e = .returned (.int .i64 ((k + n : Nat) : Int)) ∧ Mv [] w [] w' := by
  have uU : True := (fun _ => trivial) h_k
  clear uU
  subst p0
  refine (heldStringS_c _ k n _ rfl w v_a.1 p1).mono ?_
  rintro e w' ⟨rfl, hb⟩
  exact ⟨rfl, Mv.of_bl hb⟩
theorem slices_Clone_Sstring_string_c {w : World} {H : Nat → Prop} {s : List ByteArray} {s_a : Option Addr} {s_n s_c : Nat} (v_s : Rd 1 encS okS H w (.slice s_a s_n s_c) s) (p0 : s_n ≤ 1099511627776) :
    Calls Try.prog 149 #[.slice s_a s_n s_c] w fun e w' => ∃ (r0_a : Option Addr), ∃ (r0_n : Nat), ∃ (r0_c : Nat), e = .returned (.slice r0_a r0_n r0_c) ∧ Mv [] w [ow 9 1 encS okS (.slice r0_a r0_n r0_c) s] w' := by
  have uU : True := (fun _ => trivial) p0
  clear uU
  obtain ⟨hl, _⟩ := v_s.inv
  refine (cloneStrs_s _ w s v_s.1 (by omega)).mono ?_
  rintro e w' ⟨a, n, c, rfl, h1, h2, h3⟩
  exact ⟨a, n, c, rfl, mv_of_fresh h1 h2 h3⟩
theorem laws_szTouch_c {w : World} {H : Nat → Prop} {a : TouchD} {a_Ra : Option Addr} {a_Rn a_Rc : Nat} {a_Wa : Option Addr} {a_Wn a_Wc : Nat} {left : Int} (Q0 : RdA 1 encS okS H w (.slice a_Ra a_Rn a_Rc) a.reads) (Q1 : RdA 1 encS okS H w (.slice a_Wa a_Wn a_Wc) a.writes) (Q4 : i64ok left) (p0 : 0 ≤ left) (p1 : left ≤ 1048576) :
    Calls Try.prog 111 #[.agg #[.slice a_Ra a_Rn a_Rc, .slice a_Wa a_Wn a_Wc], .int .i64 left] w fun e w' => e = .returned (.int .i64 (subOr left (szTouchD a))) ∧ Mv [] w [] w' ∧ i64ok (subOr left (szTouchD a)) := by
 have Q2 : RdA 1 encS okS (V H w []) w (.slice a_Ra a_Rn a_Rc) a.reads := RdA.start Q0 (fun _ _ => fps_nil _)
 obtain ⟨Q7, Q5, Q9, Q11⟩ := RdA.inv Q0
 have Q3 : RdA 1 encS okS (V H w []) w (.slice a_Wa a_Wn a_Wc) a.writes := RdA.start Q1 (fun _ _ => fps_nil _)
 obtain ⟨Q8, Q6, Q10, Q12⟩ := RdA.inv Q1
 refine calls_enter 18 Try.func111 rfl Try.ntmps111 (Nat.le_of_ble_eq_true rfl) (fun _ F0i => ?_)
 have F0 : Fr 18 [(0, .agg #[.slice a_Ra a_Rn a_Rc, .slice a_Wa a_Wn a_Wc]), (1, .int .i64 left)] _ := F0i
 clear F0i
 refine wp_seq (wp_region_lit (l_op (f_box F0 (At.nil w) rfl rfl rfl (F0.ev 0 rfl) rfl rfl fun b1 _ w1 F2 S1 => ?_)))
 refine l_op (f_val F2 rfl rfl (r_assign rfl rfl) rfl fun _ F3 => ?_)
 refine s_end (x_normal (wp_seq (wp_region_lit (l_op (f_val F3 rfl rfl (r_field FI_91_0 rfl (F3.ev 2 rfl) rfl) rfl fun _ F4 => ?_)))))
 refine l_op (f_val (v := .slice a_Ra a_Rn a_Rc) F4 rfl rfl (r_loadB S1.at' 0 TI_62 rfl rfl (F4.ev 5 rfl) rfl rfl (fun _ => rfl) rfl) rfl fun _ F5 => ?_)
 refine l_op (f_mv F5 rfl rfl rfl rfl rfl fun _ F6 => ?_)
 refine l_op (f_call F6 CF_88 rfl rfl rfl rfl (lc (F6.ev 6 rfl) (lc (F6.ev 7 rfl) rfl)) (laws_szStringS_c (a := a.reads) (left := left) (RdA.mv (Nat.succ_pos _) Q2 S1) Q4 (by first | assumption | omega | (simp <;> omega)) (by first | assumption | (have := subOr_bd left (szStrs a.reads) p0; omega))) ?_)
 rintro _ w7 ⟨rfl, m7, q7_0⟩
 refine ⟨_, rfl, fun _ F8 => ?_⟩
 have S7 := At.frame0 S1.at' m7
 clear m7
 refine l_op (f_as F8 rfl rfl rfl rfl rfl fun _ F9 => ?_)
 refine s_end (x_normal (wp_seq (wp_seq (wp_region_lit (l_op (f_mv F9 rfl rfl rfl rfl rfl fun _ F10 => ?_))))))
 refine l_op (f_val F10 rfl rfl (r_cmp (b := decide ((subOr left (szStrs a.reads)) < 0)) (.inr (.inr (.inl rfl))) rfl (F10.ev 9 rfl) rfl (dec_of (by omega))) rfl fun _ F11 => ?_)
 refine s_end (x_normal (x_cond (p := (subOr left (szStrs a.reads)) < 0) (F11.ev 10 rfl) (fun h12 => ?_) (fun h12 => ?_)))
 · skip
   refine wp_seq (wp_region_lit (l_op (f_val F11 rfl rfl (r_assign rfl rfl) rfl fun _ F13 => ?_)))
   refine s_end (x_normal (wp_ret (x_then_ret ?_)))
   refine x_done (v := .int .i64 (-1)) F13 (results_1 Try.results111 (.tmp (F13.ev 4 rfl))) ?_
   exact ⟨(by rw [(show (-1) = (subOr left (szTouchD a)) from by unfold szTouchD; exact (subOr_neg left _ _ (by assumption)).symm)]), (Mv.pick (S1.trans S7) [] rfl), subOr_i64 p0 p1⟩
 · skip
   refine wp_skip (x_normal (wp_seq (wp_region_lit (l_op (f_val F11 rfl rfl (r_field FI_91_1 rfl (F11.ev 2 rfl) rfl) rfl fun _ F14 => ?_)))))
   refine l_op (f_val (v := .slice a_Wa a_Wn a_Wc) F14 rfl rfl (r_loadB S7.at' 0 TI_62 rfl rfl (F14.ev 11 rfl) rfl rfl (fun _ => rfl) rfl) rfl fun _ F15 => ?_)
   refine l_op (f_mv F15 rfl rfl rfl rfl rfl fun _ F16 => ?_)
   refine l_op (f_call F16 CF_88 rfl rfl rfl rfl (lc (F16.ev 12 rfl) (lc (F16.ev 13 rfl) rfl)) (laws_szStringS_c (a := a.writes) (left := (subOr left (szStrs a.reads))) (RdA.mv (Nat.succ_pos _) Q3 (S1.trans S7)) (by first | assumption | exact ⟨by omega, by omega⟩ | (unfold i64ok at *; omega)) (by first | assumption | omega | (simp <;> omega)) (by first | assumption | (have := subOr_bd left (szStrs a.reads) p0; omega))) ?_)
   rintro _ w17 ⟨rfl, m17, q17_0⟩
   refine ⟨_, rfl, fun _ F18 => ?_⟩
   have S17 := At.frame0 S7.at' m17
   clear m17
   refine l_op (f_as F18 rfl rfl rfl rfl rfl fun _ F19 => ?_)
   refine s_end (x_normal (wp_seq (wp_seq (wp_region_lit (l_op (f_mv F19 rfl rfl rfl rfl rfl fun _ F20 => ?_))))))
   refine l_op (f_val F20 rfl rfl (r_cmp (b := decide ((subOr (subOr left (szStrs a.reads)) (szStrs a.writes)) < 0)) (.inr (.inr (.inl rfl))) rfl (F20.ev 15 rfl) rfl (dec_of (by omega))) rfl fun _ F21 => ?_)
   refine s_end (x_normal (x_cond (p := (subOr (subOr left (szStrs a.reads)) (szStrs a.writes)) < 0) (F21.ev 16 rfl) (fun h22 => ?_) (fun h22 => ?_)))
   · skip
     refine wp_seq (wp_region_lit (l_op (f_val F21 rfl rfl (r_assign rfl rfl) rfl fun _ F23 => ?_)))
     refine s_end (x_normal (wp_ret (x_then_ret ?_)))
     refine x_done (v := .int .i64 (-1)) F23 (results_1 Try.results111 (.tmp (F23.ev 4 rfl))) ?_
     exact ⟨(by rw [(show (-1) = (subOr left (szTouchD a)) from by unfold szTouchD; rw [subOr_add left _ _ (by omega)] at *; unfold subOr at *; split at * <;> omega)]), (Mv.pick (S1.trans (S7.trans S17)) [] rfl), subOr_i64 p0 p1⟩
   · skip
     refine wp_skip (x_normal (wp_seq (wp_region_lit (l_op (f_mv F21 rfl rfl rfl rfl rfl fun _ F24 => ?_)))))
     refine l_op (f_as F24 rfl rfl rfl rfl rfl fun _ F25 => ?_)
     refine s_end (x_normal (wp_ret ?_))
     refine x_done (v := .int .i64 (subOr (subOr left (szStrs a.reads)) (szStrs a.writes))) F25 (results_1 Try.results111 (.tmp (F25.ev 4 rfl))) ?_
     exact ⟨(by rw [(show (subOr (subOr left (szStrs a.reads)) (szStrs a.writes)) = (subOr left (szTouchD a)) from by unfold szTouchD; exact subOr_add left _ _ (by omega))]), (Mv.pick (S1.trans (S7.trans S17)) [] rfl), subOr_i64 p0 p1⟩
theorem laws_toTouch_c {w : World} {H : Nat → Prop} {a : TouchD} {a_Ra : Option Addr} {a_Rn a_Rc : Nat} {a_Wa : Option Addr} {a_Wn a_Wc : Nat} (Q12 : RdA 1 encS okS H w (.slice a_Ra a_Rn a_Rc) a.reads) (Q13 : RdA 1 encS okS H w (.slice a_Wa a_Wn a_Wc) a.writes) (p0 : a.reads.length ≤ 1048576) (p1 : a.writes.length ≤ 1048576) :
    Calls Try.prog 115 #[.agg #[.slice a_Ra a_Rn a_Rc, .slice a_Wa a_Wn a_Wc]] w fun e w' => ∃ (Q6 : Option Addr), ∃ (Q8 : Nat), ∃ (Q7 : Nat), ∃ (Q9 : Option Addr), ∃ (Q11 : Nat), ∃ (Q10 : Nat), e = .returned (.agg #[.slice Q6 Q8 Q7, .slice Q9 Q11 Q10]) ∧ Mv [] w [ow 9 1 encS okS (.slice Q6 Q8 Q7) a.reads, ow 9 1 encS okS (.slice Q9 Q11 Q10) a.writes] w' := by
 have uU : True := (fun _ _ => trivial) p0 p1
 clear uU
 have Q14 : RdA 1 encS okS (V H w []) w (.slice a_Ra a_Rn a_Rc) a.reads := RdA.start Q12 (fun _ _ => fps_nil _)
 obtain ⟨Q18, Q16, Q26, Q28⟩ := RdA.inv Q12
 have Q15 : RdA 1 encS okS (V H w []) w (.slice a_Wa a_Wn a_Wc) a.writes := RdA.start Q13 (fun _ _ => fps_nil _)
 obtain ⟨Q19, Q17, Q27, Q29⟩ := RdA.inv Q13
 refine calls_enter 13 Try.func115 rfl Try.ntmps115 (Nat.le_of_ble_eq_true rfl) (fun _ F0i => ?_)
 have F0 : Fr 13 [(0, .agg #[.slice a_Ra a_Rn a_Rc, .slice a_Wa a_Wn a_Wc])] _ := F0i
 clear F0i
 refine wp_seq (wp_region_lit (l_op (f_box F0 (At.nil w) rfl rfl rfl (F0.ev 0 rfl) rfl rfl fun b1 _ w1 F2 S1 => ?_)))
 refine l_op (f_alloc F2 S1.at' ZI_69 rfl rfl rfl rfl rfl fun b3 _ w3 F4 S3 => ?_)
 refine s_end (x_normal (wp_seq (wp_region_lit (l_op (f_alloc F4 S3.at' ZI_69 rfl rfl rfl rfl rfl fun b5 _ w5 F6 S5 => ?_)))))
 refine s_end (x_normal (wp_seq (wp_region_lit (l_op (f_val F6 rfl rfl (r_field FI_91_0 rfl (F6.ev 1 rfl) rfl) rfl fun _ F7 => ?_)))))
 refine l_op (f_val (v := .slice a_Ra a_Rn a_Rc) F7 rfl rfl (r_loadB S5.at' 2 TI_62 rfl rfl (F7.ev 4 rfl) rfl rfl (fun _ => rfl) rfl) rfl fun _ F8 => ?_)
 refine l_op (f_call F8 CF_93 rfl rfl rfl rfl (lc (F8.ev 5 rfl) rfl) (laws_toStringS_c (a := a.reads) (RdA.mv (Nat.succ_pos _) Q14 (S1.trans (S3.trans S5))) (by first | assumption | omega | (simp <;> omega))) ?_)
 rintro _ w9 ⟨Q0, Q2, Q1, rfl, m9⟩
 refine ⟨_, rfl, fun _ F10 => ?_⟩
 have S9 : Mv _ _ [ow 9 1 encS okS (.slice Q0 Q2 Q1) a.reads, bx b5 [.slice none 0 0, .slice none 0 0] 69, bx b3 [.slice none 0 0, .slice none 0 0] 69, bx b1 [.slice a_Ra a_Rn a_Rc, .slice a_Wa a_Wn a_Wc] 91] _ := At.frame S5.at' [] rfl m9
 obtain ⟨Q21, Q23, Q25⟩ := At.ownInv S9.at' ET_62.hk 0 rfl
 clear m9
 refine l_op (f_val F10 rfl rfl (r_field FI_69_0 rfl (F10.ev 3 rfl) rfl) rfl fun _ F11 => ?_)
 refine l_op (s_store S9.at' 1 TI_62 rfl rfl rfl rfl rfl (F11.ev 7 rfl) (F11.ev 6 rfl) rfl rfl rfl rfl rfl fun w12 S12 => ?_)
 have T13 : Mv _ _ [bx b5 [.slice Q0 Q2 Q1, .slice none 0 0] 69, ow 9 1 encS okS (.slice Q0 Q2 Q1) a.reads, bx b3 [.slice none 0 0, .slice none 0 0] 69, bx b1 [.slice a_Ra a_Rn a_Rc, .slice a_Wa a_Wn a_Wc] 91] _ := S12
 refine s_end (x_normal (wp_seq (wp_region_lit (l_op (f_val F11 rfl rfl (r_field FI_91_1 rfl (F11.ev 1 rfl) rfl) rfl fun _ F14 => ?_)))))
 refine l_op (f_val (v := .slice a_Wa a_Wn a_Wc) F14 rfl rfl (r_loadB T13.at' 3 TI_62 rfl rfl (F14.ev 8 rfl) rfl rfl (fun _ => rfl) rfl) rfl fun _ F15 => ?_)
 refine l_op (f_call F15 CF_93 rfl rfl rfl rfl (lc (F15.ev 9 rfl) rfl) (laws_toStringS_c (a := a.writes) (RdA.mv (Nat.succ_pos _) Q15 (S1.trans (S3.trans (S5.trans (S9.trans T13))))) (by first | assumption | omega | (simp <;> omega))) ?_)
 rintro _ w16 ⟨Q3, Q5, Q4, rfl, m16⟩
 refine ⟨_, rfl, fun _ F17 => ?_⟩
 have S16 : Mv _ _ [ow 9 1 encS okS (.slice Q3 Q5 Q4) a.writes, bx b5 [.slice Q0 Q2 Q1, .slice none 0 0] 69, ow 9 1 encS okS (.slice Q0 Q2 Q1) a.reads, bx b3 [.slice none 0 0, .slice none 0 0] 69, bx b1 [.slice a_Ra a_Rn a_Rc, .slice a_Wa a_Wn a_Wc] 91] _ := At.frame T13.at' [] rfl m16
 obtain ⟨Q20, Q22, Q24⟩ := At.ownInv S16.at' ET_62.hk 0 rfl
 clear m16
 refine l_op (f_val F17 rfl rfl (r_field FI_69_1 rfl (F17.ev 3 rfl) rfl) rfl fun _ F18 => ?_)
 refine l_op (s_store S16.at' 1 TI_62 rfl rfl rfl rfl rfl (F18.ev 11 rfl) (F18.ev 10 rfl) rfl rfl rfl rfl rfl fun w19 S19 => ?_)
 refine s_end (x_normal (wp_seq (wp_region_lit (l_op (f_val (v := .agg #[.slice Q0 Q2 Q1, .slice Q3 Q5 Q4]) F18 rfl rfl (r_loadB S19.at' 0 TI_69 rfl rfl (F18.ev 3 rfl) rfl rfl (fun h => nomatch h) rfl) rfl fun _ F20 => ?_)))))
 refine l_op (s_store S19.at' 3 TI_69 rfl rfl rfl rfl rfl (F20.ev 2 rfl) (F20.ev 12 rfl) rfl rfl rfl rfl rfl fun w21 S21 => ?_)
 refine s_end (x_normal (wp_ret ?_))
 refine x_done (v := .agg #[.slice Q0 Q2 Q1, .slice Q3 Q5 Q4]) F20 (results_1 Try.results115 (.cell (F20.ev 2 rfl) (run_loadVar' TI_69 _ [.slice Q0 Q2 Q1, .slice Q3 Q5 Q4] rfl (fun h => nomatch h) (At.cells S21.at' 0 rfl 0 [.slice Q0 Q2 Q1, .slice Q3 Q5 Q4] rfl)))) ?_
 exact ⟨Q0, Q2, Q1, Q3, Q5, Q4, rfl, (Mv.pick (S1.trans (S3.trans (S5.trans (S9.trans (T13.trans (S16.trans (S19.trans S21))))))) [3, 2] rfl)⟩
theorem laws_eqTouch_c {w : World} {H : Nat → Prop} {a : TouchD} {a_Ra : Option Addr} {a_Rn a_Rc : Nat} {a_Wa : Option Addr} {a_Wn a_Wc : Nat} {b : TouchD} {b_Ra : Option Addr} {b_Rn b_Rc : Nat} {b_Wa : Option Addr} {b_Wn b_Wc : Nat} (Q0 : Rd 1 encS okS H w (.slice a_Ra a_Rn a_Rc) a.reads) (Q1 : Rd 1 encS okS H w (.slice a_Wa a_Wn a_Wc) a.writes) (Q2 : Rd 1 encS okS H w (.slice b_Ra b_Rn b_Rc) b.reads) (Q3 : Rd 1 encS okS H w (.slice b_Wa b_Wn b_Wc) b.writes) (p0 : a = b) :
    Calls Try.prog 98 #[.agg #[.slice a_Ra a_Rn a_Rc, .slice a_Wa a_Wn a_Wc], .agg #[.slice b_Ra b_Rn b_Rc, .slice b_Wa b_Wn b_Wc]] w fun e w' => e = .returned (.bool true) ∧ Mv [] w [] w' := by
 have Q4 : Rd 1 encS okS (V H w []) w (.slice a_Ra a_Rn a_Rc) a.reads := Rd.start Q0 (fun _ _ => fps_nil _)
 obtain ⟨Q12, Q8, Q16, Q20⟩ := Rd.inv Q0
 have Q5 : Rd 1 encS okS (V H w []) w (.slice a_Wa a_Wn a_Wc) a.writes := Rd.start Q1 (fun _ _ => fps_nil _)
 obtain ⟨Q13, Q9, Q17, Q21⟩ := Rd.inv Q1
 have Q6 : Rd 1 encS okS (V H w []) w (.slice b_Ra b_Rn b_Rc) b.reads := Rd.start Q2 (fun _ _ => fps_nil _)
 obtain ⟨Q14, Q10, Q18, Q22⟩ := Rd.inv Q2
 have Q7 : Rd 1 encS okS (V H w []) w (.slice b_Wa b_Wn b_Wc) b.writes := Rd.start Q3 (fun _ _ => fps_nil _)
 obtain ⟨Q15, Q11, Q19, Q23⟩ := Rd.inv Q3
 refine calls_enter 17 Try.func98 rfl Try.ntmps98 (Nat.le_of_ble_eq_true rfl) (fun _ F0i => ?_)
 have F0 : Fr 17 [(0, .agg #[.slice a_Ra a_Rn a_Rc, .slice a_Wa a_Wn a_Wc]), (1, .agg #[.slice b_Ra b_Rn b_Rc, .slice b_Wa b_Wn b_Wc])] _ := F0i
 clear F0i
 refine wp_seq (wp_region_lit (l_op (f_box F0 (At.nil w) rfl rfl rfl (F0.ev 0 rfl) rfl rfl fun b1 _ w1 F2 S1 => ?_)))
 refine l_op (f_box F2 S1.at' rfl rfl rfl (F2.ev 1 rfl) rfl rfl fun b3 _ w3 F4 S3 => ?_)
 refine l_op (f_val F4 rfl rfl (r_assign rfl rfl) rfl fun _ F5 => ?_)
 refine s_end (x_normal (wp_seq (wp_seq (wp_region_lit (l_op (f_val F5 rfl rfl (r_field FI_69_0 rfl (F5.ev 2 rfl) rfl) rfl fun _ F6 => ?_))))))
 refine l_op (f_val (v := .slice a_Ra a_Rn a_Rc) F6 rfl rfl (r_loadB S3.at' 1 TI_62 rfl rfl (F6.ev 5 rfl) rfl rfl (fun _ => rfl) rfl) rfl fun _ F7 => ?_)
 refine l_op (f_val F7 rfl rfl (r_field FI_69_0 rfl (F7.ev 3 rfl) rfl) rfl fun _ F8 => ?_)
 refine l_op (f_val (v := .slice b_Ra b_Rn b_Rc) F8 rfl rfl (r_loadB S3.at' 0 TI_62 rfl rfl (F8.ev 7 rfl) rfl rfl (fun _ => rfl) rfl) rfl fun _ F9 => ?_)
 refine l_op (f_call F9 CF_101 rfl rfl rfl rfl (lc (F9.ev 6 rfl) (lc (F9.ev 8 rfl) rfl)) (laws_eqStringS_c (a := a.reads) (b := b.reads) (Rd.mv (Nat.succ_pos _) Q4 (S1.trans S3)) (Rd.mv (Nat.succ_pos _) Q6 (S1.trans S3)) (by rw [p0])) ?_)
 rintro _ w10 ⟨rfl, m10⟩
 refine ⟨_, rfl, fun _ F11 => ?_⟩
 have S10 := At.frame0 S3.at' m10
 clear m10
 refine l_op (f_val F11 rfl rfl (r_not rfl (F11.ev 9 rfl)) rfl fun _ F12 => ?_)
 refine s_end (x_normal (wp_cond_false (F12.ev 10 rfl) (wp_skip (x_normal (wp_seq (wp_seq (wp_region_lit (l_op (f_val F12 rfl rfl (r_field FI_69_1 rfl (F12.ev 2 rfl) rfl) rfl fun _ F13 => ?_)))))))))
 refine l_op (f_val (v := .slice a_Wa a_Wn a_Wc) F13 rfl rfl (r_loadB S10.at' 1 TI_62 rfl rfl (F13.ev 11 rfl) rfl rfl (fun _ => rfl) rfl) rfl fun _ F14 => ?_)
 refine l_op (f_val F14 rfl rfl (r_field FI_69_1 rfl (F14.ev 3 rfl) rfl) rfl fun _ F15 => ?_)
 refine l_op (f_val (v := .slice b_Wa b_Wn b_Wc) F15 rfl rfl (r_loadB S10.at' 0 TI_62 rfl rfl (F15.ev 13 rfl) rfl rfl (fun _ => rfl) rfl) rfl fun _ F16 => ?_)
 refine l_op (f_call F16 CF_101 rfl rfl rfl rfl (lc (F16.ev 12 rfl) (lc (F16.ev 14 rfl) rfl)) (laws_eqStringS_c (a := a.writes) (b := b.writes) (Rd.mv (Nat.succ_pos _) Q5 (S1.trans (S3.trans S10))) (Rd.mv (Nat.succ_pos _) Q7 (S1.trans (S3.trans S10))) (by rw [p0])) ?_)
 rintro _ w17 ⟨rfl, m17⟩
 refine ⟨_, rfl, fun _ F18 => ?_⟩
 have S17 := At.frame0 S10.at' m17
 clear m17
 refine l_op (f_val F18 rfl rfl (r_not rfl (F18.ev 15 rfl)) rfl fun _ F19 => ?_)
 have T20 : Mv _ _ [bx b3 [.slice b_Ra b_Rn b_Rc, .slice b_Wa b_Wn b_Wc] 69, bx b1 [.slice a_Ra a_Rn a_Rc, .slice a_Wa a_Wn a_Wc] 69] _ := S17
 refine s_end (x_normal (wp_cond_false (F19.ev 16 rfl) (wp_skip (x_normal (wp_seq (wp_region_lit (l_op (f_val F19 rfl rfl (r_assign rfl rfl) rfl fun _ F21 => ?_))))))))
 refine s_end (x_normal (wp_ret ?_))
 refine x_done (v := .bool true) F21 (results_1 Try.results98 (.tmp (F21.ev 4 rfl))) ?_
 exact ⟨rfl, (Mv.pick (S1.trans (S3.trans (S10.trans T20))) [] rfl)⟩
theorem laws_markTouch_c {w : World} {H : Nat → Prop} {a : TouchD} {a_Ra : Option Addr} {a_Rn a_Rc : Nat} {a_Wa : Option Addr} {a_Wn a_Wc : Nat} {k : Nat} (h_k : i64ok (k : Int)) (p0 : k ≤ 1099511627776) (p1 : a.reads.length ≤ 1099511627776) (p2 : a.writes.length ≤ 1099511627776) (hA : At w [ow 9 1 encS okS (.slice a_Ra a_Rn a_Rc) a.reads, ow 9 1 encS okS (.slice a_Wa a_Wn a_Wc) a.writes]) :
    Calls Try.prog 104 #[.agg #[.slice a_Ra a_Rn a_Rc, .slice a_Wa a_Wn a_Wc], .int .i64 ((k : Nat) : Int)] w fun e w' => e = .returned (.int .i64 ((k + cntT a : Nat) : Int)) ∧ Mv [ow 9 1 encS okS (.slice a_Ra a_Rn a_Rc) a.reads, ow 9 1 encS okS (.slice a_Wa a_Wn a_Wc) a.writes] w [ow 9 1 encS okS (.slice a_Ra a_Rn a_Rc) (marksT k a).reads, ow 9 1 encS okS (.slice a_Wa a_Wn a_Wc) (marksT k a).writes] w' := by
 have uU : True := (fun _ _ _ _ _ => trivial) H h_k p0 p1 p2
 clear uU
 obtain ⟨lo0, lp0, lq0⟩ := At.ownInv hA ET_62.hk 0 rfl
 obtain ⟨lo1, lp1, lq1⟩ := At.ownInv hA ET_62.hk 1 rfl
 refine calls_enter 14 Try.func104 rfl Try.ntmps104 (Nat.le_of_ble_eq_true rfl) (fun _ F0i => ?_)
 have F0 : Fr 14 [(0, .agg #[.slice a_Ra a_Rn a_Rc, .slice a_Wa a_Wn a_Wc]), (1, .int .i64 ((k : Nat) : Int))] _ := F0i
 clear F0i
 refine wp_seq (wp_region_lit (l_op (f_box F0 hA rfl rfl rfl (F0.ev 0 rfl) rfl rfl fun b1 _ w1 F2 S1 => ?_)))
 refine l_op (f_val F2 rfl rfl (r_assign rfl rfl) rfl fun _ F3 => ?_)
 refine s_end (x_normal (wp_seq (wp_region_lit (l_op (f_val F3 rfl rfl (r_field FI_69_0 rfl (F3.ev 2 rfl) rfl) rfl fun _ F4 => ?_)))))
 refine l_op (f_val (v := .slice a_Ra a_Rn a_Rc) F4 rfl rfl (r_loadB S1.at' 0 TI_62 rfl rfl (F4.ev 5 rfl) rfl rfl (fun _ => rfl) rfl) rfl fun _ F5 => ?_)
 refine l_op (f_mv F5 rfl rfl rfl rfl rfl fun _ F6 => ?_)
 refine l_op (f_call F6 CF_81 rfl rfl rfl rfl (lc (F6.ev 6 rfl) (lc (F6.ev 7 rfl) rfl)) (laws_markStringS_c (H := fun _ => True) (a := a.reads) (k := k) ⟨by omega, by first | omega | (unfold i64ok at *; omega)⟩ (by first | assumption | omega | (simp <;> omega)) (At.pick (is := [1]) S1.at' rfl)) ?_)
 rintro _ w7 ⟨rfl, m7⟩
 refine ⟨_, rfl, fun _ F8 => ?_⟩
 have S7 : Mv _ _ [ow 9 1 encS okS (.slice a_Ra a_Rn a_Rc) (marks k a.reads.length), bx b1 [.slice a_Ra a_Rn a_Rc, .slice a_Wa a_Wn a_Wc] 69, ow 9 1 encS okS (.slice a_Wa a_Wn a_Wc) a.writes] _ := At.frame S1.at' [1] rfl m7
 obtain ⟨Q1, Q3, Q5⟩ := At.ownInv S7.at' ET_62.hk 0 rfl
 clear m7
 refine l_op (f_as F8 rfl rfl rfl rfl rfl fun _ F9 => ?_)
 refine s_end (x_normal (wp_seq (wp_region_lit (l_op (f_val F9 rfl rfl (r_field FI_69_1 rfl (F9.ev 2 rfl) rfl) rfl fun _ F10 => ?_)))))
 refine l_op (f_val (v := .slice a_Wa a_Wn a_Wc) F10 rfl rfl (r_loadB S7.at' 1 TI_62 rfl rfl (F10.ev 9 rfl) rfl rfl (fun _ => rfl) rfl) rfl fun _ F11 => ?_)
 refine l_op (f_mv F11 rfl rfl rfl rfl rfl fun _ F12 => ?_)
 refine l_op (f_call F12 CF_81 rfl rfl rfl rfl (lc (F12.ev 10 rfl) (lc (F12.ev 11 rfl) rfl)) (laws_markStringS_c (H := fun _ => True) (a := a.writes) (k := k + a.reads.length) ⟨by omega, by first | omega | (unfold i64ok at *; omega)⟩ (by first | assumption | omega | (simp <;> omega)) (At.pick (is := [2]) S7.at' rfl)) ?_)
 rintro _ w13 ⟨rfl, m13⟩
 refine ⟨_, rfl, fun _ F14 => ?_⟩
 have S13 : Mv _ _ [ow 9 1 encS okS (.slice a_Wa a_Wn a_Wc) (marks (k + a.reads.length) a.writes.length), ow 9 1 encS okS (.slice a_Ra a_Rn a_Rc) (marks k a.reads.length), bx b1 [.slice a_Ra a_Rn a_Rc, .slice a_Wa a_Wn a_Wc] 69] _ := At.frame S7.at' [2] rfl m13
 obtain ⟨Q0, Q2, Q4⟩ := At.ownInv S13.at' ET_62.hk 0 rfl
 clear m13
 refine l_op (f_as F14 rfl rfl rfl rfl rfl fun _ F15 => ?_)
 refine s_end (x_normal (wp_seq (wp_region_lit (l_op (f_mv F15 rfl rfl rfl rfl rfl fun _ F16 => ?_)))))
 refine l_op (f_as F16 rfl rfl rfl rfl rfl fun _ F17 => ?_)
 refine s_end (x_normal (wp_ret ?_))
 refine x_done (v := .int .i64 (((k + a.reads.length) + a.writes.length : Nat) : Int)) F17 (results_1 Try.results104 (.tmp (F17.ev 4 rfl))) ?_
 exact ⟨(by rw [(show (((k + a.reads.length) + a.writes.length : Nat) : Int) = ((k + cntT a : Nat) : Int) from by first | rfl | (unfold cntT; omega))]), (Mv.cast (Mv.pick (S1.trans (S7.trans S13)) [1, 0] rfl) (by rw [(show (marks k a.reads.length) = (marksT k a).reads from by first | rfl | (unfold cntT; omega)), (show (marks (k + a.reads.length) a.writes.length) = (marksT k a).writes from by first | rfl | (unfold cntT; omega))]; all_goals rfl))⟩
theorem laws_heldTouch_c {w : World} {H : Nat → Prop} {a : TouchD} {a_Ra : Option Addr} {a_Rn a_Rc : Nat} {a_Wa : Option Addr} {a_Wn a_Wc : Nat} {k : Nat} {d : TouchD} (Q0 : Rd 1 encS okS H w (.slice a_Ra a_Rn a_Rc) a.reads) (Q1 : Rd 1 encS okS H w (.slice a_Wa a_Wn a_Wc) a.writes) (h_k : i64ok (k : Int)) (p0 : a = marksT k d) (p1 : k ≤ 1099511627776) (p2 : d.reads.length ≤ 1099511627776) (p3 : d.writes.length ≤ 1099511627776) :
    Calls Try.prog 105 #[.agg #[.slice a_Ra a_Rn a_Rc, .slice a_Wa a_Wn a_Wc], .int .i64 ((k : Nat) : Int)] w fun e w' => e = .returned (.int .i64 ((k + cntT d : Nat) : Int)) ∧ Mv [] w [] w' := by
 have uU : True := (fun _ _ _ _ => trivial) h_k p1 p2 p3
 clear uU
 have Q2 : Rd 1 encS okS (V H w []) w (.slice a_Ra a_Rn a_Rc) a.reads := Rd.start Q0 (fun _ _ => fps_nil _)
 obtain ⟨Q6, Q4, Q8, Q10⟩ := Rd.inv Q0
 have Q3 : Rd 1 encS okS (V H w []) w (.slice a_Wa a_Wn a_Wc) a.writes := Rd.start Q1 (fun _ _ => fps_nil _)
 obtain ⟨Q7, Q5, Q9, Q11⟩ := Rd.inv Q1
 refine calls_enter 18 Try.func105 rfl Try.ntmps105 (Nat.le_of_ble_eq_true rfl) (fun _ F0i => ?_)
 have F0 : Fr 18 [(0, .agg #[.slice a_Ra a_Rn a_Rc, .slice a_Wa a_Wn a_Wc]), (1, .int .i64 ((k : Nat) : Int))] _ := F0i
 clear F0i
 refine wp_seq (wp_region_lit (l_op (f_box F0 (At.nil w) rfl rfl rfl (F0.ev 0 rfl) rfl rfl fun b1 _ w1 F2 S1 => ?_)))
 refine l_op (f_val F2 rfl rfl (r_assign rfl rfl) rfl fun _ F3 => ?_)
 refine s_end (x_normal (wp_seq (wp_region_lit (l_op (f_val F3 rfl rfl (r_field FI_69_0 rfl (F3.ev 2 rfl) rfl) rfl fun _ F4 => ?_)))))
 refine l_op (f_val (v := .slice a_Ra a_Rn a_Rc) F4 rfl rfl (r_loadB S1.at' 0 TI_62 rfl rfl (F4.ev 5 rfl) rfl rfl (fun _ => rfl) rfl) rfl fun _ F5 => ?_)
 refine l_op (f_mv F5 rfl rfl rfl rfl rfl fun _ F6 => ?_)
 refine l_op (f_call F6 CF_84 rfl rfl rfl rfl (lc (F6.ev 6 rfl) (lc (F6.ev 7 rfl) rfl)) (laws_heldStringS_c (n := d.reads.length) (a := a.reads) (k := k) (Rd.mv (Nat.succ_pos _) Q2 S1) ⟨by omega, by first | omega | (unfold i64ok at *; omega)⟩ (by rw [p0]; rfl) (by first | assumption | omega | (simp <;> omega))) ?_)
 rintro _ w7 ⟨rfl, m7⟩
 refine ⟨_, rfl, fun _ F8 => ?_⟩
 have S7 := At.frame0 S1.at' m7
 clear m7
 refine l_op (f_as F8 rfl rfl rfl rfl rfl fun _ F9 => ?_)
 refine s_end (x_normal (wp_seq (wp_seq (wp_region_lit (l_op (f_mv F9 rfl rfl rfl rfl rfl fun _ F10 => ?_))))))
 refine l_op (f_val F10 rfl rfl (r_cmp (b := false) (.inr (.inr (.inl rfl))) rfl (F10.ev 9 rfl) rfl (cmp_lt0 _ _ (by omega))) rfl fun _ F11 => ?_)
 refine s_end (x_normal (wp_cond_false (F11.ev 10 rfl) (wp_skip (x_normal (wp_seq (wp_region_lit (l_op (f_val F11 rfl rfl (r_field FI_69_1 rfl (F11.ev 2 rfl) rfl) rfl fun _ F12 => ?_))))))))
 refine l_op (f_val (v := .slice a_Wa a_Wn a_Wc) F12 rfl rfl (r_loadB S7.at' 0 TI_62 rfl rfl (F12.ev 11 rfl) rfl rfl (fun _ => rfl) rfl) rfl fun _ F13 => ?_)
 refine l_op (f_mv F13 rfl rfl rfl rfl rfl fun _ F14 => ?_)
 refine l_op (f_call F14 CF_84 rfl rfl rfl rfl (lc (F14.ev 12 rfl) (lc (F14.ev 13 rfl) rfl)) (laws_heldStringS_c (n := d.writes.length) (a := a.writes) (k := k + d.reads.length) (Rd.mv (Nat.succ_pos _) Q3 (S1.trans S7)) ⟨by omega, by first | omega | (unfold i64ok at *; omega)⟩ (by rw [p0]; rfl) (by first | assumption | omega | (simp <;> omega))) ?_)
 rintro _ w15 ⟨rfl, m15⟩
 refine ⟨_, rfl, fun _ F16 => ?_⟩
 have S15 := At.frame0 S7.at' m15
 clear m15
 refine l_op (f_as F16 rfl rfl rfl rfl rfl fun _ F17 => ?_)
 refine s_end (x_normal (wp_seq (wp_seq (wp_region_lit (l_op (f_mv F17 rfl rfl rfl rfl rfl fun _ F18 => ?_))))))
 refine l_op (f_val F18 rfl rfl (r_cmp (b := false) (.inr (.inr (.inl rfl))) rfl (F18.ev 15 rfl) rfl (cmp_lt0 _ _ (by omega))) rfl fun _ F19 => ?_)
 refine s_end (x_normal (wp_cond_false (F19.ev 16 rfl) (wp_skip (x_normal (wp_seq (wp_region_lit (l_op (f_mv F19 rfl rfl rfl rfl rfl fun _ F20 => ?_))))))))
 refine l_op (f_as F20 rfl rfl rfl rfl rfl fun _ F21 => ?_)
 refine s_end (x_normal (wp_ret ?_))
 refine x_done (v := .int .i64 (((k + d.reads.length) + d.writes.length : Nat) : Int)) F21 (results_1 Try.results105 (.tmp (F21.ev 4 rfl))) ?_
 exact ⟨(by rw [(show (((k + d.reads.length) + d.writes.length : Nat) : Int) = ((k + cntT d : Nat) : Int) from by unfold cntT; omega)]), (Mv.pick (S1.trans (S7.trans S15)) [] rfl)⟩
theorem impl_Touch_clone_c {w : World} {H : Nat → Prop} {t : TouchD} {t_Ra : Option Addr} {t_Rn t_Rc : Nat} {t_Wa : Option Addr} {t_Wn t_Wc : Nat} (Q12 : Rd 1 encS okS H w (.slice t_Ra t_Rn t_Rc) t.reads) (Q13 : Rd 1 encS okS H w (.slice t_Wa t_Wn t_Wc) t.writes) (p0 : t.reads.length ≤ 1099511627776) (p1 : t.writes.length ≤ 1099511627776) :
    Calls Try.prog 137 #[.agg #[.slice t_Ra t_Rn t_Rc, .slice t_Wa t_Wn t_Wc]] w fun e w' => ∃ (Q6 : Option Addr), ∃ (Q8 : Nat), ∃ (Q7 : Nat), ∃ (Q9 : Option Addr), ∃ (Q11 : Nat), ∃ (Q10 : Nat), e = .returned (.agg #[.slice Q6 Q8 Q7, .slice Q9 Q11 Q10]) ∧ Mv [] w [ow 9 1 encS okS (.slice Q6 Q8 Q7) t.reads, ow 9 1 encS okS (.slice Q9 Q11 Q10) t.writes] w' := by
 have uU : True := (fun _ _ => trivial) p0 p1
 clear uU
 have Q14 : Rd 1 encS okS (V H w []) w (.slice t_Ra t_Rn t_Rc) t.reads := Rd.start Q12 (fun _ _ => fps_nil _)
 obtain ⟨Q18, Q16, Q32, Q34⟩ := Rd.inv Q12
 have Q15 : Rd 1 encS okS (V H w []) w (.slice t_Wa t_Wn t_Wc) t.writes := Rd.start Q13 (fun _ _ => fps_nil _)
 obtain ⟨Q19, Q17, Q33, Q35⟩ := Rd.inv Q13
 refine calls_enter 10 Try.func137 rfl Try.ntmps137 (Nat.le_of_ble_eq_true rfl) (fun _ F0i => ?_)
 have F0 : Fr 10 [(0, .agg #[.slice t_Ra t_Rn t_Rc, .slice t_Wa t_Wn t_Wc])] _ := F0i
 clear F0i
 refine wp_seq (wp_region_lit (l_op (f_box F0 (At.nil w) rfl rfl rfl (F0.ev 0 rfl) rfl rfl fun b1 _ w1 F2 S1 => ?_)))
 refine l_op (f_alloc F2 S1.at' ZI_69 rfl rfl rfl rfl rfl fun b3 _ w3 F4 S3 => ?_)
 refine s_end (x_normal (wp_seq ?_))
 refine x_draw (fun aZ wZ => ∃ (Q0 : Option Addr), ∃ (Q2 : Nat), ∃ (Q1 : Nat), ∃ (Q3 : Option Addr), ∃ (Q5 : Nat), ∃ (Q4 : Nat), Fr 10 [(2, .pointer (some ⟨b3, 0, none⟩))] aZ ∧ Mv [bx b3 [.slice none 0 0, .slice none 0 0] 69, bx b1 [.slice t_Ra t_Rn t_Rc, .slice t_Wa t_Wn t_Wc] 69] w3 [bx b3 [.slice Q0 Q2 Q1, .slice Q3 Q5 Q4] 69, bx b1 [.slice t_Ra t_Rn t_Rc, .slice t_Wa t_Wn t_Wc] 69, ow 9 1 encS okS (.slice Q0 Q2 Q1) t.reads, ow 9 1 encS okS (.slice Q3 Q5 Q4) t.writes] wZ) [bx b1 [.slice t_Ra t_Rn t_Rc, .slice t_Wa t_Wn t_Wc] 69] mixed S3.at' (listed := #[false, false, false, false, false, false, false, false]) rfl (fun w6 S6 => ?_) [1] rfl ?_
 · skip
   refine g_take F4 rfl (i := 0) (listed' := #[true, false, false, false, false, false, false, false]) rfl (by kernel_rfl) (by kernel_rfl) (by kernel_rfl) (fun _ _ _ h => h) (Sd.of (Mv.refl S6.at') [1] rfl) rfl rfl rfl rfl (fun _ hz => (r_field FI_69_0 rfl (F4.ev 1 rfl) rfl)) fun _ F7 => ?_
   refine g_take (v := .slice t_Ra t_Rn t_Rc) F7 rfl (i := 1) (listed' := #[true, true, false, false, false, false, false, false]) rfl (by kernel_rfl) (by kernel_rfl) (by kernel_rfl) (fun _ _ _ h => h) (Sd.of (Mv.refl S6.at') [1] rfl) rfl rfl rfl rfl (fun _ hz => (r_loadX (hz.bx 0 rfl) TI_62 rfl (F7.ev 3 rfl) rfl rfl (fun _ => rfl) rfl)) fun _ F8 => ?_
   refine g_take F8 rfl (i := 3) (listed' := #[true, true, false, true, false, false, false, false]) rfl (by kernel_rfl) (by kernel_rfl) (by kernel_rfl) (fun _ _ _ h => h) (Sd.of (Mv.refl S6.at') [1] rfl) rfl rfl rfl rfl (fun _ hz => (r_field FI_69_1 rfl (F8.ev 1 rfl) rfl)) fun _ F9 => ?_
   refine g_take (v := .slice t_Wa t_Wn t_Wc) F9 rfl (i := 4) (listed' := #[true, true, false, true, true, false, false, false]) rfl (by kernel_rfl) (by kernel_rfl) (by kernel_rfl) (fun _ _ _ h => h) (Sd.of (Mv.refl S6.at') [1] rfl) rfl rfl rfl rfl (fun _ hz => (r_loadX (hz.bx 0 rfl) TI_62 rfl (F9.ev 6 rfl) rfl rfl (fun _ => rfl) rfl)) fun _ F10 => ?_
   refine d_one (i := 2) (listed' := #[true, true, true, true, true, false, false, false]) rfl (by kernel_rfl) rfl rfl ?_
   refine f_call F10 CF_149 rfl rfl rfl rfl (lc (F10.ev 4 rfl) rfl) (slices_Clone_Sstring_string_c (s := t.reads) (Rd.mv (Nat.succ_pos _) Q14 (S1.trans (S3.trans S6))) (by first | assumption | omega | (simp <;> omega))) ?_
   rintro _ w11 ⟨Q0, Q2, Q1, rfl, m11⟩
   refine ⟨_, rfl, fun _ F12 => ?_⟩
   have S11 : Mv _ _ [ow 9 1 encS okS (.slice Q0 Q2 Q1) t.reads, bx b3 [.slice none 0 0, .slice none 0 0] 69, bx b1 [.slice t_Ra t_Rn t_Rc, .slice t_Wa t_Wn t_Wc] 69] _ := At.frame S6.at' [] rfl m11
   obtain ⟨Q20, Q24, Q28⟩ := At.ownInv S11.at' ET_62.hk 0 rfl
   clear m11
   refine ⟨Sd.of S11 [2] rfl, ?_⟩
   refine d_one (i := 5) (listed' := #[true, true, true, true, true, true, false, false]) rfl (by kernel_rfl) rfl rfl ?_
   refine f_call F12 CF_149 rfl rfl rfl rfl (lc (F12.ev 7 rfl) rfl) (slices_Clone_Sstring_string_c (s := t.writes) (Rd.mv (Nat.succ_pos _) Q15 (S1.trans (S3.trans (S6.trans S11)))) (by first | assumption | omega | (simp <;> omega))) ?_
   rintro _ w13 ⟨Q3, Q5, Q4, rfl, m13⟩
   refine ⟨_, rfl, fun _ F14 => ?_⟩
   have S13 : Mv _ _ [ow 9 1 encS okS (.slice Q3 Q5 Q4) t.writes, ow 9 1 encS okS (.slice Q0 Q2 Q1) t.reads, bx b3 [.slice none 0 0, .slice none 0 0] 69, bx b1 [.slice t_Ra t_Rn t_Rc, .slice t_Wa t_Wn t_Wc] 69] _ := At.frame S11.at' [] rfl m13
   obtain ⟨Q21, Q25, Q29⟩ := At.ownInv S13.at' ET_62.hk 0 rfl
   clear m13
   refine ⟨Sd.of (S11.trans S13) [3] rfl, ?_⟩
   refine g_take (v := .agg #[.slice Q0 Q2 Q1, .slice Q3 Q5 Q4]) F14 rfl (i := 6) (listed' := #[true, true, true, true, true, true, true, false]) rfl (by kernel_rfl) (by kernel_rfl) (by kernel_rfl) (fun _ _ _ h => h) (Sd.of (S11.trans S13) [3] rfl) rfl rfl rfl rfl (fun _ hz => (r_build BI_69 rfl (lc (pr2 (F14.ev 5 rfl)) (lc (pr2 (F14.ev 8 rfl)) rfl)) rfl)) fun _ F15 => ?_
   refine d_one (i := 7) (listed' := #[true, true, true, true, true, true, true, true]) rfl (by kernel_rfl) rfl rfl ?_
   refine s_store S13.at' 2 TI_69 rfl rfl rfl rfl rfl (F15.ev 2 rfl) (F15.ev 9 rfl) rfl rfl rfl rfl rfl fun w16 S16 => ?_
   refine ⟨Sd.of (S11.trans (S13.trans S16)) [3] rfl, ?_⟩
   refine wpAnyH_done (by kernel_rfl) (x_normal ?_) _
   exact ⟨Q0, Q2, Q1, Q3, Q5, Q4, F15.cut rfl, ((S6.trans (S11.trans (S13.trans S16))).pick [0, 3, 2, 1] rfl)⟩
 · rintro a17 w17 ⟨Q0, Q2, Q1, Q3, Q5, Q4, F17, S17⟩
   obtain ⟨Q22, Q26, Q30⟩ := At.ownInv S17.at' ET_62.hk 2 rfl
   obtain ⟨Q23, Q27, Q31⟩ := At.ownInv S17.at' ET_62.hk 3 rfl
   refine x_normal (wp_ret ?_)
   refine x_done (v := .agg #[.slice Q0 Q2 Q1, .slice Q3 Q5 Q4]) F17 (results_1 Try.results137 (.cell (F17.ev 2 rfl) (run_loadVar' TI_69 _ [.slice Q0 Q2 Q1, .slice Q3 Q5 Q4] rfl (fun h => nomatch h) (At.cells S17.at' 0 rfl 0 [.slice Q0 Q2 Q1, .slice Q3 Q5 Q4] rfl)))) ?_
   exact ⟨Q0, Q2, Q1, Q3, Q5, Q4, rfl, (Mv.pick (S1.trans (S3.trans S17)) [2, 3] rfl)⟩
theorem laws_markText_c {w : World} {H : Nat → Prop} {k : Nat} (h_k : i64ok (k : Int)) :
    Calls Try.prog 127 #[.int .i64 ((k : Nat) : Int)] w fun e w' => e = .returned (.string (markT k)) ∧ Mv [] w [] w' ∧ okS (markT k) := by
  have uU : True := (fun _ => trivial) H
  clear uU
  refine (markText_c k w (by obtain ⟨_, h⟩ := h_k; omega)).mono ?_
  rintro e w' ⟨rfl, hb⟩
  exact ⟨rfl, Mv.of_bl hb, markT_ok k⟩
theorem laws_szCall_c {w : World} {H : Nat → Prop} {a : CallD} {left : Int} (Q1 : i64ok a.kind) (Q2 : okS a.name) (Q4 : okS a.to_) (h_a_a : i64ok a.a) (Q0 : i64ok a.b) (Q3 : okS a.text) (Q5 : i64ok left) (p0 : 0 ≤ left) (p1 : left ≤ 1048576) :
    Calls Try.prog 143 #[.agg #[.int .i64 a.kind, .string a.name, .string a.to_, .int .i64 a.a, .int .i64 a.b, .string a.text], .int .i64 left] w fun e w' => e = .returned (.int .i64 (subOr left (szCallD a))) ∧ Mv [] w [] w' ∧ i64ok (subOr left (szCallD a)) := by
 have uU : True := (fun _ _ _ _ _ => trivial) H Q1 h_a_a Q0 Q5
 clear uU
 unfold okS at Q2 Q4 Q3
 refine calls_enter 27 Try.func143 rfl Try.ntmps143 (Nat.le_of_ble_eq_true rfl) (fun _ F0i => ?_)
 have F0 : Fr 27 [(0, .agg #[.int .i64 a.kind, .string a.name, .string a.to_, .int .i64 a.a, .int .i64 a.b, .string a.text]), (1, .int .i64 left)] _ := F0i
 clear F0i
 refine wp_seq (wp_region_lit (l_op (f_box F0 (At.nil w) rfl rfl rfl (F0.ev 0 rfl) rfl rfl fun b1 _ w1 F2 S1 => ?_)))
 refine l_op (f_val F2 rfl rfl (r_assign rfl rfl) rfl fun _ F3 => ?_)
 refine s_end (x_normal (wp_seq (wp_region_lit (l_op (f_mv F3 rfl rfl rfl rfl rfl fun _ F4 => ?_)))))
 refine l_op (f_val F4 rfl rfl (r_field FI_173_1 rfl (F4.ev 2 rfl) rfl) rfl fun _ F5 => ?_)
 refine l_op (f_val (v := .string a.name) F5 rfl rfl (r_loadB S1.at' 0 TI_9 rfl rfl (F5.ev 6 rfl) rfl rfl (fun _ => rfl) rfl) rfl fun _ F6 => ?_)
 refine l_op (f_val F6 rfl rfl (r_lenS (fun t ht => by cases ht; exact Try.underlying9) rfl rfl (F6.ev 7 rfl)) rfl fun _ F7 => ?_)
 refine l_op (f_val F7 rfl rfl (r_sub (z := (left - ((a.name.size : Nat) : Int))) rfl (F7.ev 5 rfl) (F7.ev 8 rfl) (by first | rfl | omega) ⟨by first | omega | (unfold i64ok at *; omega), by first | omega | (unfold i64ok at *; omega)⟩) rfl fun _ F8 => ?_)
 refine l_op (f_as F8 rfl rfl rfl rfl rfl fun _ F9 => ?_)
 refine s_end (x_normal (wp_seq (wp_seq (wp_region_lit (l_op (f_mv F9 rfl rfl rfl rfl rfl fun _ F10 => ?_))))))
 refine l_op (f_val F10 rfl rfl (r_cmp (b := decide ((left - ((a.name.size : Nat) : Int)) < 0)) (.inr (.inr (.inl rfl))) rfl (F10.ev 10 rfl) rfl (dec_of (by omega))) rfl fun _ F11 => ?_)
 refine s_end (x_normal (x_cond (p := (left - ((a.name.size : Nat) : Int)) < 0) (F11.ev 11 rfl) (fun h12 => ?_) (fun h12 => ?_)))
 · skip
   refine wp_seq (wp_region_lit (l_op (f_val F11 rfl rfl (r_assign rfl rfl) rfl fun _ F13 => ?_)))
   refine s_end (x_normal (wp_ret (x_then_ret ?_)))
   refine x_done (v := .int .i64 (-1)) F13 (results_1 Try.results143 (.tmp (F13.ev 4 rfl))) ?_
   exact ⟨(by rw [(show (-1) = (subOr left (szCallD a)) from by unfold szCallD; first | exact sz3_a (by assumption) | exact sz3_b (by assumption) | exact sz3_c (by assumption) | exact sz3_d (by assumption))]), (Mv.pick S1 [] rfl), subOr_i64 p0 p1⟩
 · skip
   refine wp_skip (x_normal (wp_seq (wp_region_lit (l_op (f_mv F11 rfl rfl rfl rfl rfl fun _ F14 => ?_)))))
   refine l_op (f_val F14 rfl rfl (r_field FI_173_2 rfl (F14.ev 2 rfl) rfl) rfl fun _ F15 => ?_)
   refine l_op (f_val (v := .string a.to_) F15 rfl rfl (r_loadB S1.at' 0 TI_9 rfl rfl (F15.ev 13 rfl) rfl rfl (fun _ => rfl) rfl) rfl fun _ F16 => ?_)
   refine l_op (f_val F16 rfl rfl (r_lenS (fun t ht => by cases ht; exact Try.underlying9) rfl rfl (F16.ev 14 rfl)) rfl fun _ F17 => ?_)
   refine l_op (f_val F17 rfl rfl (r_sub (z := ((left - ((a.name.size : Nat) : Int)) - ((a.to_.size : Nat) : Int))) rfl (F17.ev 12 rfl) (F17.ev 15 rfl) (by first | rfl | omega) ⟨by first | omega | (unfold i64ok at *; omega), by first | omega | (unfold i64ok at *; omega)⟩) rfl fun _ F18 => ?_)
   refine l_op (f_as F18 rfl rfl rfl rfl rfl fun _ F19 => ?_)
   refine s_end (x_normal (wp_seq (wp_seq (wp_region_lit (l_op (f_mv F19 rfl rfl rfl rfl rfl fun _ F20 => ?_))))))
   refine l_op (f_val F20 rfl rfl (r_cmp (b := decide (((left - ((a.name.size : Nat) : Int)) - ((a.to_.size : Nat) : Int)) < 0)) (.inr (.inr (.inl rfl))) rfl (F20.ev 17 rfl) rfl (dec_of (by omega))) rfl fun _ F21 => ?_)
   refine s_end (x_normal (x_cond (p := ((left - ((a.name.size : Nat) : Int)) - ((a.to_.size : Nat) : Int)) < 0) (F21.ev 18 rfl) (fun h22 => ?_) (fun h22 => ?_)))
   · skip
     refine wp_seq (wp_region_lit (l_op (f_val F21 rfl rfl (r_assign rfl rfl) rfl fun _ F23 => ?_)))
     refine s_end (x_normal (wp_ret (x_then_ret ?_)))
     refine x_done (v := .int .i64 (-1)) F23 (results_1 Try.results143 (.tmp (F23.ev 4 rfl))) ?_
     exact ⟨(by rw [(show (-1) = (subOr left (szCallD a)) from by unfold szCallD; first | exact sz3_a (by assumption) | exact sz3_b (by assumption) | exact sz3_c (by assumption) | exact sz3_d (by assumption))]), (Mv.pick S1 [] rfl), subOr_i64 p0 p1⟩
   · skip
     refine wp_skip (x_normal (wp_seq (wp_region_lit (l_op (f_mv F21 rfl rfl rfl rfl rfl fun _ F24 => ?_)))))
     refine l_op (f_val F24 rfl rfl (r_field FI_173_5 rfl (F24.ev 2 rfl) rfl) rfl fun _ F25 => ?_)
     refine l_op (f_val (v := .string a.text) F25 rfl rfl (r_loadB S1.at' 0 TI_9 rfl rfl (F25.ev 20 rfl) rfl rfl (fun _ => rfl) rfl) rfl fun _ F26 => ?_)
     refine l_op (f_val F26 rfl rfl (r_lenS (fun t ht => by cases ht; exact Try.underlying9) rfl rfl (F26.ev 21 rfl)) rfl fun _ F27 => ?_)
     refine l_op (f_val F27 rfl rfl (r_sub (z := (((left - ((a.name.size : Nat) : Int)) - ((a.to_.size : Nat) : Int)) - ((a.text.size : Nat) : Int))) rfl (F27.ev 19 rfl) (F27.ev 22 rfl) (by first | rfl | omega) ⟨by first | omega | (unfold i64ok at *; omega), by first | omega | (unfold i64ok at *; omega)⟩) rfl fun _ F28 => ?_)
     refine l_op (f_as F28 rfl rfl rfl rfl rfl fun _ F29 => ?_)
     refine s_end (x_normal (wp_seq (wp_seq (wp_region_lit (l_op (f_mv F29 rfl rfl rfl rfl rfl fun _ F30 => ?_))))))
     refine l_op (f_val F30 rfl rfl (r_cmp (b := decide ((((left - ((a.name.size : Nat) : Int)) - ((a.to_.size : Nat) : Int)) - ((a.text.size : Nat) : Int)) < 0)) (.inr (.inr (.inl rfl))) rfl (F30.ev 24 rfl) rfl (dec_of (by omega))) rfl fun _ F31 => ?_)
     refine s_end (x_normal (x_cond (p := (((left - ((a.name.size : Nat) : Int)) - ((a.to_.size : Nat) : Int)) - ((a.text.size : Nat) : Int)) < 0) (F31.ev 25 rfl) (fun h32 => ?_) (fun h32 => ?_)))
     · skip
       refine wp_seq (wp_region_lit (l_op (f_val F31 rfl rfl (r_assign rfl rfl) rfl fun _ F33 => ?_)))
       refine s_end (x_normal (wp_ret (x_then_ret ?_)))
       refine x_done (v := .int .i64 (-1)) F33 (results_1 Try.results143 (.tmp (F33.ev 4 rfl))) ?_
       exact ⟨(by rw [(show (-1) = (subOr left (szCallD a)) from by unfold szCallD; first | exact sz3_a (by assumption) | exact sz3_b (by assumption) | exact sz3_c (by assumption) | exact sz3_d (by assumption))]), (Mv.pick S1 [] rfl), subOr_i64 p0 p1⟩
     · skip
       refine wp_skip (x_normal (wp_seq (wp_region_lit (l_op (f_mv F31 rfl rfl rfl rfl rfl fun _ F34 => ?_)))))
       refine l_op (f_as F34 rfl rfl rfl rfl rfl fun _ F35 => ?_)
       refine s_end (x_normal (wp_ret ?_))
       refine x_done (v := .int .i64 (((left - ((a.name.size : Nat) : Int)) - ((a.to_.size : Nat) : Int)) - ((a.text.size : Nat) : Int))) F35 (results_1 Try.results143 (.tmp (F35.ev 4 rfl))) ?_
       exact ⟨(by rw [(show (((left - ((a.name.size : Nat) : Int)) - ((a.to_.size : Nat) : Int)) - ((a.text.size : Nat) : Int)) = (subOr left (szCallD a)) from by unfold szCallD; first | exact sz3_a (by assumption) | exact sz3_b (by assumption) | exact sz3_c (by assumption) | exact sz3_d (by assumption))]), (Mv.pick S1 [] rfl), subOr_i64 p0 p1⟩
theorem laws_szAnswer_c {w : World} {H : Nat → Prop} {a : AnsD} {left : Int} (Q0 : i64ok a.code) (h_a_n : i64ok a.n) (Q1 : okS a.text) (Q2 : i64ok left) (p0 : 0 ≤ left) (p1 : left ≤ 1048576) :
    Calls Try.prog 144 #[.agg #[.int .i64 a.code, .int .i64 a.n, .string a.text], .int .i64 left] w fun e w' => e = .returned (.int .i64 (subOr left (szAnsD a))) ∧ Mv [] w [] w' ∧ i64ok (subOr left (szAnsD a)) := by
 have uU : True := (fun _ _ _ _ => trivial) H Q0 h_a_n Q2
 clear uU
 unfold okS at Q1
 refine calls_enter 13 Try.func144 rfl Try.ntmps144 (Nat.le_of_ble_eq_true rfl) (fun _ F0i => ?_)
 have F0 : Fr 13 [(0, .agg #[.int .i64 a.code, .int .i64 a.n, .string a.text]), (1, .int .i64 left)] _ := F0i
 clear F0i
 refine wp_seq (wp_region_lit (l_op (f_box F0 (At.nil w) rfl rfl rfl (F0.ev 0 rfl) rfl rfl fun b1 _ w1 F2 S1 => ?_)))
 refine l_op (f_val F2 rfl rfl (r_assign rfl rfl) rfl fun _ F3 => ?_)
 refine s_end (x_normal (wp_seq (wp_region_lit (l_op (f_mv F3 rfl rfl rfl rfl rfl fun _ F4 => ?_)))))
 refine l_op (f_val F4 rfl rfl (r_field FI_175_2 rfl (F4.ev 2 rfl) rfl) rfl fun _ F5 => ?_)
 refine l_op (f_val (v := .string a.text) F5 rfl rfl (r_loadB S1.at' 0 TI_9 rfl rfl (F5.ev 6 rfl) rfl rfl (fun _ => rfl) rfl) rfl fun _ F6 => ?_)
 refine l_op (f_val F6 rfl rfl (r_lenS (fun t ht => by cases ht; exact Try.underlying9) rfl rfl (F6.ev 7 rfl)) rfl fun _ F7 => ?_)
 refine l_op (f_val F7 rfl rfl (r_sub (z := (left - ((a.text.size : Nat) : Int))) rfl (F7.ev 5 rfl) (F7.ev 8 rfl) (by first | rfl | omega) ⟨by first | omega | (unfold i64ok at *; omega), by first | omega | (unfold i64ok at *; omega)⟩) rfl fun _ F8 => ?_)
 refine l_op (f_as F8 rfl rfl rfl rfl rfl fun _ F9 => ?_)
 refine s_end (x_normal (wp_seq (wp_seq (wp_region_lit (l_op (f_mv F9 rfl rfl rfl rfl rfl fun _ F10 => ?_))))))
 refine l_op (f_val F10 rfl rfl (r_cmp (b := decide ((left - ((a.text.size : Nat) : Int)) < 0)) (.inr (.inr (.inl rfl))) rfl (F10.ev 10 rfl) rfl (dec_of (by omega))) rfl fun _ F11 => ?_)
 refine s_end (x_normal (x_cond (p := (left - ((a.text.size : Nat) : Int)) < 0) (F11.ev 11 rfl) (fun h12 => ?_) (fun h12 => ?_)))
 · skip
   refine wp_seq (wp_region_lit (l_op (f_val F11 rfl rfl (r_assign rfl rfl) rfl fun _ F13 => ?_)))
   refine s_end (x_normal (wp_ret (x_then_ret ?_)))
   refine x_done (v := .int .i64 (-1)) F13 (results_1 Try.results144 (.tmp (F13.ev 4 rfl))) ?_
   exact ⟨(by rw [(show (-1) = (subOr left (szAnsD a)) from by unfold szAnsD; first | exact sz1_a (by assumption) | exact sz1_b (by assumption))]), (Mv.pick S1 [] rfl), subOr_i64 p0 p1⟩
 · skip
   refine wp_skip (x_normal (wp_seq (wp_region_lit (l_op (f_mv F11 rfl rfl rfl rfl rfl fun _ F14 => ?_)))))
   refine l_op (f_as F14 rfl rfl rfl rfl rfl fun _ F15 => ?_)
   refine s_end (x_normal (wp_ret ?_))
   refine x_done (v := .int .i64 (left - ((a.text.size : Nat) : Int))) F15 (results_1 Try.results144 (.tmp (F15.ev 4 rfl))) ?_
   exact ⟨(by rw [(show (left - ((a.text.size : Nat) : Int)) = (subOr left (szAnsD a)) from by unfold szAnsD; first | exact sz1_a (by assumption) | exact sz1_b (by assumption))]), (Mv.pick S1 [] rfl), subOr_i64 p0 p1⟩
theorem laws_szCallS_c {w : World} {H : Nat → Prop} {a : List CallD} {a_a : Option Addr} {a_n a_c : Nat} {left : Int} (v_a : RdA 6 encK okK H w (.slice a_a a_n a_c) a) (Q0 : i64ok left) (p0 : 0 ≤ left) (p1 : left ≤ 1048576) :
    Calls Try.prog 109 #[.slice a_a a_n a_c, .int .i64 left] w fun e w' => e = .returned (.int .i64 (subOr left (szCalls a))) ∧ Mv [] w [] w' ∧ i64ok (subOr left (szCalls a)) := by
 have uU : True := (fun _ => trivial) Q0
 clear uU
 have V_v_a : RdA 6 encK okK (V H w []) w (.slice a_a a_n a_c) a := RdA.start v_a (fun _ _ => fps_nil _)
 obtain ⟨ln_a, le_a, mx_a, ni_a⟩ := RdA.inv v_a
 refine calls_enter 27 Try.func109 rfl Try.ntmps109 (Nat.le_of_ble_eq_true rfl) (fun _ F0i => ?_)
 have F0 : Fr 27 [(0, .slice a_a a_n a_c), (1, .int .i64 left)] _ := F0i
 clear F0i
 refine wp_seq (wp_region_lit (l_op (f_val F0 rfl rfl (r_assign rfl rfl) rfl fun _ F1 => ?_)))
 refine s_end (x_normal (wp_seq (wp_region_lit (l_op (f_mv F1 rfl rfl rfl rfl rfl fun _ F2 => ?_)))))
 refine l_op (f_mv F2 rfl rfl rfl rfl rfl fun _ F3 => ?_)
 refine l_op (f_val F3 rfl rfl (r_len Try.underlying89 rfl (F3.ev 7 rfl)) rfl fun _ F4 => ?_)
 refine l_op (f_val F4 rfl rfl (r_sub (z := (left - ((a_n : Nat) : Int))) rfl (F4.ev 6 rfl) (F4.ev 8 rfl) (by first | rfl | omega) ⟨by first | omega | (unfold i64ok at *; omega), by first | omega | (unfold i64ok at *; omega)⟩) rfl fun _ F5 => ?_)
 refine l_op (f_as F5 rfl rfl rfl rfl rfl fun _ F6 => ?_)
 refine s_end (x_normal (wp_seq (wp_seq (wp_region_lit (l_op (f_mv F6 rfl rfl rfl rfl rfl fun _ F7 => ?_))))))
 refine l_op (f_val F7 rfl rfl (r_cmp (b := decide ((left - ((a_n : Nat) : Int)) < 0)) (.inr (.inr (.inl rfl))) rfl (F7.ev 10 rfl) rfl (dec_of (by omega))) rfl fun _ F8 => ?_)
 refine s_end (x_normal (x_cond (p := (left - ((a_n : Nat) : Int)) < 0) (F8.ev 11 rfl) (fun h9 => ?_) (fun h9 => ?_)))
 · skip
   refine wp_seq (wp_region_lit (l_op (f_val F8 rfl rfl (r_assign rfl rfl) rfl fun _ F10 => ?_)))
   refine s_end (x_normal (wp_ret (x_then_ret ?_)))
   refine x_done (v := .int .i64 (-1)) F10 (results_1 Try.results109 (.tmp (F10.ev 4 rfl))) ?_
   exact ⟨(by rw [(show (-1) = (subOr left (szCalls a)) from by unfold szCalls; rw [← ln_a]; exact sz_neg (by assumption))]), (Mv.pick (Mv.refl (At.nil w)) [] rfl), subOr_i64 p0 p1⟩
 · skip
   refine wp_skip (x_normal (wp_seq (wp_seq (wp_region_lit (l_op (f_val F8 rfl rfl (r_assign rfl rfl) rfl fun _ F11 => ?_))))))
   refine s_end (x_normal (wp_block ?_))
   refine x_loop (fun (k : Nat) aZ wZ => ∃ (lv : Int), Fr 27 [(5, .int .i64 ((k : Nat) : Int)), (1, .int .i64 lv), (0, .slice a_a a_n a_c)] aZ ∧ Mv [] w [] wZ ∧ (k ≤ a_n) ∧ (lv = left - ((a.length + sumOf szCallD (a.take k) : Nat) : Int)) ∧ (0 ≤ lv)) (fun (k : Nat) => a_n - k) (0) ?_ ?_
   · exact ⟨(left - ((a_n : Nat) : Int)), F11.cut rfl, (Mv.refl (At.nil w)), by omega, by have e : sumOf szCallD (a.take 0) = 0 := rfl; rw [e]; omega, by omega⟩
   · rintro k a12 w12 ⟨lv, F12, S12, hk_0, hk_1, hk_2⟩
     refine wp_seq (wp_seq (wp_region_lit (l_op (f_mv F12 rfl rfl rfl rfl rfl fun _ F13 => ?_))))
     refine l_op (f_mv F13 rfl rfl rfl rfl rfl fun _ F14 => ?_)
     refine l_op (f_val F14 rfl rfl (r_len Try.underlying89 rfl (F14.ev 13 rfl)) rfl fun _ F15 => ?_)
     refine l_op (f_val F15 rfl rfl (r_cmp (b := decide (k < a_n)) (.inr (.inr (.inl rfl))) rfl (F15.ev 12 rfl) (F15.ev 14 rfl) (dec_of (by omega))) rfl fun _ F16 => ?_)
     refine s_end (x_normal (x_cond (p := k < a_n) (F16.ev 15 rfl) (fun h17 => ?_) (fun h17 => ?_)))
     · skip
       refine wp_skip (x_normal (wp_seq (wp_block (wp_seq (wp_region_lit (l_op (f_mv F16 rfl rfl rfl rfl rfl fun _ F18 => ?_)))))))
       refine l_op (f_mv F18 rfl rfl rfl rfl rfl fun _ F19 => ?_)
       obtain ⟨B20, O20, x1, ad20, hx1, okx1, ln20, cl20⟩ := RdA.at (RdA.mv (Nat.succ_pos _) V_v_a S12) k (by first | assumption | omega)
       clear ln20
       refine l_op (f_val F19 rfl rfl (r_indexAddr (i := k) ET_89 rfl ((F19.ev 18 rfl).trans (by rw [ad20])) (F19.ev 19 rfl) (by omega) (by first | assumption | omega)) rfl fun _ F21 => ?_)
       refine l_op (f_val (v := .agg #[.int .i64 x1.kind, .string x1.name, .string x1.to_, .int .i64 x1.a, .int .i64 x1.b, .string x1.text]) F21 rfl rfl (r_load (cs := [.int .i64 x1.kind, .string x1.name, .string x1.to_, .int .i64 x1.a, .int .i64 x1.b, .string x1.text]) TI_173 rfl (F21.ev 20 rfl) rfl (fun h => nomatch h) (elem_sub (f := 0) cl20 [.int .i64 x1.kind, .string x1.name, .string x1.to_, .int .i64 x1.a, .int .i64 x1.b, .string x1.text] rfl)) rfl fun _ F22 => ?_)
       refine l_op (f_mv F22 rfl rfl rfl rfl rfl fun _ F23 => ?_)
       refine l_op (f_call F23 CF_143 rfl rfl rfl rfl (lc (F23.ev 21 rfl) (lc (F23.ev 22 rfl) rfl)) (laws_szCall_c (H := fun _ => True) (a := x1) (left := lv) okx1.1 okx1.2.1 okx1.2.2.1 okx1.2.2.2.1 okx1.2.2.2.2.1 okx1.2.2.2.2.2 (by first | assumption | exact ⟨by omega, by omega⟩ | (unfold i64ok at *; omega)) (by first | assumption | omega | (simp <;> omega)) (by first | assumption | omega | (simp <;> omega))) ?_)
       rintro _ w24 ⟨rfl, m24, q24_0⟩
       refine ⟨_, rfl, fun _ F25 => ?_⟩
       have S24 := At.frame0 S12.at' m24
       clear m24
       refine l_op (f_as F25 rfl rfl rfl rfl rfl fun _ F26 => ?_)
       refine s_end (x_normal (wp_seq (wp_region_lit (l_op (f_mv F26 rfl rfl rfl rfl rfl fun _ F27 => ?_)))))
       refine l_op (f_val F27 rfl rfl (r_cmp (b := decide ((subOr lv (szCallD x1)) < 0)) (.inr (.inr (.inl rfl))) rfl (F27.ev 24 rfl) rfl (dec_of (by omega))) rfl fun _ F28 => ?_)
       refine s_end (x_normal (x_cond (p := (subOr lv (szCallD x1)) < 0) (F28.ev 25 rfl) (fun h29 => ?_) (fun h29 => ?_)))
       · skip
         refine wp_seq (wp_region_lit (l_op (f_val F28 rfl rfl (r_assign rfl rfl) rfl fun _ F30 => ?_)))
         refine s_end (x_normal (wp_ret (x_block_ret (x_then_ret (x_then_ret (x_block_ret (x_then_ret ?_)))))))
         refine x_done (v := .int .i64 (-1)) F30 (results_1 Try.results109 (.tmp (F30.ev 4 rfl))) ?_
         exact ⟨(by rw [(show (-1) = (subOr left (szCalls a)) from by unfold szCalls; exact sz_stop hx1 hk_1 (by assumption))]), (Mv.pick (S12.trans S24) [] rfl), subOr_i64 p0 p1⟩
       · skip
         refine wp_skip (x_block_normal (x_normal (wp_region_lit (l_op (f_mv F28 rfl rfl rfl rfl rfl fun _ F31 => ?_)))))
         refine l_op (f_val F31 rfl rfl (r_add (z := ((k + 1 : Nat) : Int)) rfl (F31.ev 16 rfl) rfl (by first | rfl | omega) ⟨by first | omega | (unfold i64ok at *; omega), by first | omega | (unfold i64ok at *; omega)⟩) rfl fun _ F32 => ?_)
         refine l_op (f_as F32 rfl rfl rfl rfl rfl fun _ F33 => ?_)
         refine s_end ?_
         refine x_normal ⟨k + 1, by omega, (subOr lv (szCallD x1)), F33.cut rfl, ((S12.trans S24).pick [] rfl), by omega, (sz_next hx1 hk_1 (by assumption)).1, (sz_next hx1 hk_1 (by assumption)).2⟩
     · skip
       refine wp_exit (x_then_exit (x_then_exit (x_block_here (x_normal (wp_seq (wp_region_lit (l_op (f_mv F16 rfl rfl rfl rfl rfl fun _ F34 => ?_))))))))
       refine l_op (f_as F34 rfl rfl rfl rfl rfl fun _ F35 => ?_)
       refine s_end (x_normal (wp_ret ?_))
       refine x_done (v := .int .i64 lv) F35 (results_1 Try.results109 (.tmp (F35.ev 4 rfl))) ?_
       exact ⟨(by rw [(show lv = (subOr left (szCalls a)) from by unfold szCalls; exact sz_done (by omega) hk_1 hk_2)]), (Mv.pick S12 [] rfl), subOr_i64 p0 p1⟩
theorem laws_szAnswerS_c {w : World} {H : Nat → Prop} {a : List AnsD} {a_a : Option Addr} {a_n a_c : Nat} {left : Int} (v_a : RdA 3 encR okR H w (.slice a_a a_n a_c) a) (Q0 : i64ok left) (p0 : 0 ≤ left) (p1 : left ≤ 1048576) :
    Calls Try.prog 110 #[.slice a_a a_n a_c, .int .i64 left] w fun e w' => e = .returned (.int .i64 (subOr left (szAnss a))) ∧ Mv [] w [] w' ∧ i64ok (subOr left (szAnss a)) := by
 have uU : True := (fun _ => trivial) Q0
 clear uU
 have V_v_a : RdA 3 encR okR (V H w []) w (.slice a_a a_n a_c) a := RdA.start v_a (fun _ _ => fps_nil _)
 obtain ⟨ln_a, le_a, mx_a, ni_a⟩ := RdA.inv v_a
 refine calls_enter 27 Try.func110 rfl Try.ntmps110 (Nat.le_of_ble_eq_true rfl) (fun _ F0i => ?_)
 have F0 : Fr 27 [(0, .slice a_a a_n a_c), (1, .int .i64 left)] _ := F0i
 clear F0i
 refine wp_seq (wp_region_lit (l_op (f_val F0 rfl rfl (r_assign rfl rfl) rfl fun _ F1 => ?_)))
 refine s_end (x_normal (wp_seq (wp_region_lit (l_op (f_mv F1 rfl rfl rfl rfl rfl fun _ F2 => ?_)))))
 refine l_op (f_mv F2 rfl rfl rfl rfl rfl fun _ F3 => ?_)
 refine l_op (f_val F3 rfl rfl (r_len Try.underlying90 rfl (F3.ev 7 rfl)) rfl fun _ F4 => ?_)
 refine l_op (f_val F4 rfl rfl (r_sub (z := (left - ((a_n : Nat) : Int))) rfl (F4.ev 6 rfl) (F4.ev 8 rfl) (by first | rfl | omega) ⟨by first | omega | (unfold i64ok at *; omega), by first | omega | (unfold i64ok at *; omega)⟩) rfl fun _ F5 => ?_)
 refine l_op (f_as F5 rfl rfl rfl rfl rfl fun _ F6 => ?_)
 refine s_end (x_normal (wp_seq (wp_seq (wp_region_lit (l_op (f_mv F6 rfl rfl rfl rfl rfl fun _ F7 => ?_))))))
 refine l_op (f_val F7 rfl rfl (r_cmp (b := decide ((left - ((a_n : Nat) : Int)) < 0)) (.inr (.inr (.inl rfl))) rfl (F7.ev 10 rfl) rfl (dec_of (by omega))) rfl fun _ F8 => ?_)
 refine s_end (x_normal (x_cond (p := (left - ((a_n : Nat) : Int)) < 0) (F8.ev 11 rfl) (fun h9 => ?_) (fun h9 => ?_)))
 · skip
   refine wp_seq (wp_region_lit (l_op (f_val F8 rfl rfl (r_assign rfl rfl) rfl fun _ F10 => ?_)))
   refine s_end (x_normal (wp_ret (x_then_ret ?_)))
   refine x_done (v := .int .i64 (-1)) F10 (results_1 Try.results110 (.tmp (F10.ev 4 rfl))) ?_
   exact ⟨(by rw [(show (-1) = (subOr left (szAnss a)) from by unfold szAnss; rw [← ln_a]; exact sz_neg (by assumption))]), (Mv.pick (Mv.refl (At.nil w)) [] rfl), subOr_i64 p0 p1⟩
 · skip
   refine wp_skip (x_normal (wp_seq (wp_seq (wp_region_lit (l_op (f_val F8 rfl rfl (r_assign rfl rfl) rfl fun _ F11 => ?_))))))
   refine s_end (x_normal (wp_block ?_))
   refine x_loop (fun (k : Nat) aZ wZ => ∃ (lv : Int), Fr 27 [(5, .int .i64 ((k : Nat) : Int)), (1, .int .i64 lv), (0, .slice a_a a_n a_c)] aZ ∧ Mv [] w [] wZ ∧ (k ≤ a_n) ∧ (lv = left - ((a.length + sumOf szAnsD (a.take k) : Nat) : Int)) ∧ (0 ≤ lv)) (fun (k : Nat) => a_n - k) (0) ?_ ?_
   · exact ⟨(left - ((a_n : Nat) : Int)), F11.cut rfl, (Mv.refl (At.nil w)), by omega, by have e : sumOf szAnsD (a.take 0) = 0 := rfl; rw [e]; omega, by omega⟩
   · rintro k a12 w12 ⟨lv, F12, S12, hk_0, hk_1, hk_2⟩
     refine wp_seq (wp_seq (wp_region_lit (l_op (f_mv F12 rfl rfl rfl rfl rfl fun _ F13 => ?_))))
     refine l_op (f_mv F13 rfl rfl rfl rfl rfl fun _ F14 => ?_)
     refine l_op (f_val F14 rfl rfl (r_len Try.underlying90 rfl (F14.ev 13 rfl)) rfl fun _ F15 => ?_)
     refine l_op (f_val F15 rfl rfl (r_cmp (b := decide (k < a_n)) (.inr (.inr (.inl rfl))) rfl (F15.ev 12 rfl) (F15.ev 14 rfl) (dec_of (by omega))) rfl fun _ F16 => ?_)
     refine s_end (x_normal (x_cond (p := k < a_n) (F16.ev 15 rfl) (fun h17 => ?_) (fun h17 => ?_)))
     · skip
       refine wp_skip (x_normal (wp_seq (wp_block (wp_seq (wp_region_lit (l_op (f_mv F16 rfl rfl rfl rfl rfl fun _ F18 => ?_)))))))
       refine l_op (f_mv F18 rfl rfl rfl rfl rfl fun _ F19 => ?_)
       obtain ⟨B20, O20, x1, ad20, hx1, okx1, ln20, cl20⟩ := RdA.at (RdA.mv (Nat.succ_pos _) V_v_a S12) k (by first | assumption | omega)
       clear ln20
       refine l_op (f_val F19 rfl rfl (r_indexAddr (i := k) ET_90 rfl ((F19.ev 18 rfl).trans (by rw [ad20])) (F19.ev 19 rfl) (by omega) (by first | assumption | omega)) rfl fun _ F21 => ?_)
       refine l_op (f_val (v := .agg #[.int .i64 x1.code, .int .i64 x1.n, .string x1.text]) F21 rfl rfl (r_load (cs := [.int .i64 x1.code, .int .i64 x1.n, .string x1.text]) TI_175 rfl (F21.ev 20 rfl) rfl (fun h => nomatch h) (elem_sub (f := 0) cl20 [.int .i64 x1.code, .int .i64 x1.n, .string x1.text] rfl)) rfl fun _ F22 => ?_)
       refine l_op (f_mv F22 rfl rfl rfl rfl rfl fun _ F23 => ?_)
       refine l_op (f_call F23 CF_144 rfl rfl rfl rfl (lc (F23.ev 21 rfl) (lc (F23.ev 22 rfl) rfl)) (laws_szAnswer_c (H := fun _ => True) (a := x1) (left := lv) okx1.1 okx1.2.1 okx1.2.2 (by first | assumption | exact ⟨by omega, by omega⟩ | (unfold i64ok at *; omega)) (by first | assumption | omega | (simp <;> omega)) (by first | assumption | omega | (simp <;> omega))) ?_)
       rintro _ w24 ⟨rfl, m24, q24_0⟩
       refine ⟨_, rfl, fun _ F25 => ?_⟩
       have S24 := At.frame0 S12.at' m24
       clear m24
       refine l_op (f_as F25 rfl rfl rfl rfl rfl fun _ F26 => ?_)
       refine s_end (x_normal (wp_seq (wp_region_lit (l_op (f_mv F26 rfl rfl rfl rfl rfl fun _ F27 => ?_)))))
       refine l_op (f_val F27 rfl rfl (r_cmp (b := decide ((subOr lv (szAnsD x1)) < 0)) (.inr (.inr (.inl rfl))) rfl (F27.ev 24 rfl) rfl (dec_of (by omega))) rfl fun _ F28 => ?_)
       refine s_end (x_normal (x_cond (p := (subOr lv (szAnsD x1)) < 0) (F28.ev 25 rfl) (fun h29 => ?_) (fun h29 => ?_)))
       · skip
         refine wp_seq (wp_region_lit (l_op (f_val F28 rfl rfl (r_assign rfl rfl) rfl fun _ F30 => ?_)))
         refine s_end (x_normal (wp_ret (x_block_ret (x_then_ret (x_then_ret (x_block_ret (x_then_ret ?_)))))))
         refine x_done (v := .int .i64 (-1)) F30 (results_1 Try.results110 (.tmp (F30.ev 4 rfl))) ?_
         exact ⟨(by rw [(show (-1) = (subOr left (szAnss a)) from by unfold szAnss; exact sz_stop hx1 hk_1 (by assumption))]), (Mv.pick (S12.trans S24) [] rfl), subOr_i64 p0 p1⟩
       · skip
         refine wp_skip (x_block_normal (x_normal (wp_region_lit (l_op (f_mv F28 rfl rfl rfl rfl rfl fun _ F31 => ?_)))))
         refine l_op (f_val F31 rfl rfl (r_add (z := ((k + 1 : Nat) : Int)) rfl (F31.ev 16 rfl) rfl (by first | rfl | omega) ⟨by first | omega | (unfold i64ok at *; omega), by first | omega | (unfold i64ok at *; omega)⟩) rfl fun _ F32 => ?_)
         refine l_op (f_as F32 rfl rfl rfl rfl rfl fun _ F33 => ?_)
         refine s_end ?_
         refine x_normal ⟨k + 1, by omega, (subOr lv (szAnsD x1)), F33.cut rfl, ((S12.trans S24).pick [] rfl), by omega, (sz_next hx1 hk_1 (by assumption)).1, (sz_next hx1 hk_1 (by assumption)).2⟩
     · skip
       refine wp_exit (x_then_exit (x_then_exit (x_block_here (x_normal (wp_seq (wp_region_lit (l_op (f_mv F16 rfl rfl rfl rfl rfl fun _ F34 => ?_))))))))
       refine l_op (f_as F34 rfl rfl rfl rfl rfl fun _ F35 => ?_)
       refine s_end (x_normal (wp_ret ?_))
       refine x_done (v := .int .i64 lv) F35 (results_1 Try.results110 (.tmp (F35.ev 4 rfl))) ?_
       exact ⟨(by rw [(show lv = (subOr left (szAnss a)) from by unfold szAnss; exact sz_done (by omega) hk_1 hk_2)]), (Mv.pick S12 [] rfl), subOr_i64 p0 p1⟩
theorem laws_szIntS_c {w : World} {H : Nat → Prop} {a : List Int} {a_a : Option Addr} {a_n a_c : Nat} {left : Int} (v_a : RdA 1 encI okI H w (.slice a_a a_n a_c) a) (Q0 : i64ok left) (p0 : 0 ≤ left) (p1 : left ≤ 1048576) :
    Calls Try.prog 112 #[.slice a_a a_n a_c, .int .i64 left] w fun e w' => e = .returned (.int .i64 (subOr left a.length)) ∧ Mv [] w [] w' ∧ i64ok (subOr left a.length) := by
 have uU : True := (fun _ => trivial) Q0
 clear uU
 have V_v_a : RdA 1 encI okI (V H w []) w (.slice a_a a_n a_c) a := RdA.start v_a (fun _ _ => fps_nil _)
 obtain ⟨ln_a, le_a, mx_a, ni_a⟩ := RdA.inv v_a
 refine calls_enter 12 Try.func112 rfl Try.ntmps112 (Nat.le_of_ble_eq_true rfl) (fun _ F0i => ?_)
 have F0 : Fr 12 [(0, .slice a_a a_n a_c), (1, .int .i64 left)] _ := F0i
 clear F0i
 refine wp_seq (wp_region_lit (l_op (f_val F0 rfl rfl (r_assign rfl rfl) rfl fun _ F1 => ?_)))
 refine s_end (x_normal (wp_seq (wp_region_lit (l_op (f_mv F1 rfl rfl rfl rfl rfl fun _ F2 => ?_)))))
 refine l_op (f_mv F2 rfl rfl rfl rfl rfl fun _ F3 => ?_)
 refine l_op (f_val F3 rfl rfl (r_len Try.underlying53 rfl (F3.ev 6 rfl)) rfl fun _ F4 => ?_)
 refine l_op (f_val F4 rfl rfl (r_sub (z := (left - ((a_n : Nat) : Int))) rfl (F4.ev 5 rfl) (F4.ev 7 rfl) (by first | rfl | omega) ⟨by first | omega | (unfold i64ok at *; omega), by first | omega | (unfold i64ok at *; omega)⟩) rfl fun _ F5 => ?_)
 refine l_op (f_as F5 rfl rfl rfl rfl rfl fun _ F6 => ?_)
 refine s_end (x_normal (wp_seq (wp_seq (wp_region_lit (l_op (f_mv F6 rfl rfl rfl rfl rfl fun _ F7 => ?_))))))
 refine l_op (f_val F7 rfl rfl (r_cmp (b := decide ((left - ((a_n : Nat) : Int)) < 0)) (.inr (.inr (.inl rfl))) rfl (F7.ev 9 rfl) rfl (dec_of (by omega))) rfl fun _ F8 => ?_)
 refine s_end (x_normal (x_cond (p := (left - ((a_n : Nat) : Int)) < 0) (F8.ev 10 rfl) (fun h9 => ?_) (fun h9 => ?_)))
 · skip
   refine wp_seq (wp_region_lit (l_op (f_val F8 rfl rfl (r_assign rfl rfl) rfl fun _ F10 => ?_)))
   refine s_end (x_normal (wp_ret (x_then_ret ?_)))
   refine x_done (v := .int .i64 (-1)) F10 (results_1 Try.results112 (.tmp (F10.ev 4 rfl))) ?_
   exact ⟨(by rw [(show (-1) = (subOr left a.length) from by rw [← ln_a]; first | exact sz1_a (by assumption) | exact sz1_b (by assumption))]), (Mv.pick (Mv.refl (At.nil w)) [] rfl), subOr_i64 p0 p1⟩
 · skip
   refine wp_skip (x_normal (wp_seq (wp_region_lit (l_op (f_mv F8 rfl rfl rfl rfl rfl fun _ F11 => ?_)))))
   refine l_op (f_as F11 rfl rfl rfl rfl rfl fun _ F12 => ?_)
   refine s_end (x_normal (wp_ret ?_))
   refine x_done (v := .int .i64 (left - ((a_n : Nat) : Int))) F12 (results_1 Try.results112 (.tmp (F12.ev 4 rfl))) ?_
   exact ⟨(by rw [(show (left - ((a_n : Nat) : Int)) = (subOr left a.length) from by rw [← ln_a]; first | exact sz1_a (by assumption) | exact sz1_b (by assumption))]), (Mv.pick (Mv.refl (At.nil w)) [] rfl), subOr_i64 p0 p1⟩
theorem laws_toCall_c {w : World} {H : Nat → Prop} {a : CallD} (Q1 : i64ok a.kind) (Q2 : okS a.name) (Q4 : okS a.to_) (h_a_a : i64ok a.a) (Q0 : i64ok a.b) (Q3 : okS a.text) :
    Calls Try.prog 145 #[.agg #[.int .i64 a.kind, .string a.name, .string a.to_, .int .i64 a.a, .int .i64 a.b, .string a.text]] w fun e w' => e = .returned (.agg #[.int .i64 a.kind, .string a.name, .string a.to_, .int .i64 a.a, .int .i64 a.b, .string a.text]) ∧ Mv [] w [] w' ∧ okS a.name ∧ okS a.to_ ∧ okS a.text ∧ i64ok a.kind ∧ i64ok a.a ∧ i64ok a.b := by
 have uU : True := (fun _ _ _ _ => trivial) H Q1 h_a_a Q0
 clear uU
 refine calls_enter 23 Try.func145 rfl Try.ntmps145 (Nat.le_of_ble_eq_true rfl) (fun _ F0i => ?_)
 have F0 : Fr 23 [(0, .agg #[.int .i64 a.kind, .string a.name, .string a.to_, .int .i64 a.a, .int .i64 a.b, .string a.text])] _ := F0i
 clear F0i
 refine wp_seq (wp_region_lit (l_op (f_box F0 (At.nil w) rfl rfl rfl (F0.ev 0 rfl) rfl rfl fun b1 _ w1 F2 S1 => ?_)))
 refine l_op (f_alloc F2 S1.at' ZI_148 rfl rfl rfl rfl rfl fun b3 _ w3 F4 S3 => ?_)
 refine s_end (x_normal (wp_seq (wp_region_lit (l_op (f_alloc F4 S3.at' ZI_148 rfl rfl rfl rfl rfl fun b5 _ w5 F6 S5 => ?_)))))
 refine s_end (x_normal (wp_seq (wp_region_lit (l_op (f_val F6 rfl rfl (r_field FI_173_0 rfl (F6.ev 1 rfl) rfl) rfl fun _ F7 => ?_)))))
 refine l_op (f_val (v := .int .i64 a.kind) F7 rfl rfl (r_loadB S5.at' 2 TI_3 rfl rfl (F7.ev 4 rfl) rfl rfl (fun _ => rfl) rfl) rfl fun _ F8 => ?_)
 refine l_op (f_val F8 rfl rfl (r_field FI_148_0 rfl (F8.ev 3 rfl) rfl) rfl fun _ F9 => ?_)
 refine l_op (s_store S5.at' 0 TI_3 rfl rfl rfl rfl rfl (F9.ev 6 rfl) (F9.ev 5 rfl) rfl rfl rfl rfl rfl fun w10 S10 => ?_)
 have T11 : Mv _ _ [bx b5 [.int .i64 a.kind, .string (⟨#[]⟩ : ByteArray), .string (⟨#[]⟩ : ByteArray), .int .i64 0, .int .i64 0, .string (⟨#[]⟩ : ByteArray)] 148, bx b3 [.int .i64 0, .string (⟨#[]⟩ : ByteArray), .string (⟨#[]⟩ : ByteArray), .int .i64 0, .int .i64 0, .string (⟨#[]⟩ : ByteArray)] 148, bx b1 [.int .i64 a.kind, .string a.name, .string a.to_, .int .i64 a.a, .int .i64 a.b, .string a.text] 173] _ := S10
 refine s_end (x_normal (wp_seq (wp_region_lit (l_op (f_val F9 rfl rfl (r_field FI_173_1 rfl (F9.ev 1 rfl) rfl) rfl fun _ F12 => ?_)))))
 refine l_op (f_val (v := .string a.name) F12 rfl rfl (r_loadB T11.at' 2 TI_9 rfl rfl (F12.ev 7 rfl) rfl rfl (fun _ => rfl) rfl) rfl fun _ F13 => ?_)
 refine l_op (f_val F13 rfl rfl (r_field FI_148_1 rfl (F13.ev 3 rfl) rfl) rfl fun _ F14 => ?_)
 refine l_op (s_store T11.at' 0 TI_9 rfl rfl rfl rfl rfl (F14.ev 9 rfl) (F14.ev 8 rfl) rfl rfl rfl rfl rfl fun w15 S15 => ?_)
 refine s_end (x_normal (wp_seq (wp_region_lit (l_op (f_val F14 rfl rfl (r_field FI_173_2 rfl (F14.ev 1 rfl) rfl) rfl fun _ F16 => ?_)))))
 refine l_op (f_val (v := .string a.to_) F16 rfl rfl (r_loadB S15.at' 2 TI_9 rfl rfl (F16.ev 10 rfl) rfl rfl (fun _ => rfl) rfl) rfl fun _ F17 => ?_)
 refine l_op (f_val F17 rfl rfl (r_field FI_148_2 rfl (F17.ev 3 rfl) rfl) rfl fun _ F18 => ?_)
 refine l_op (s_store S15.at' 0 TI_9 rfl rfl rfl rfl rfl (F18.ev 12 rfl) (F18.ev 11 rfl) rfl rfl rfl rfl rfl fun w19 S19 => ?_)
 refine s_end (x_normal (wp_seq (wp_region_lit (l_op (f_val F18 rfl rfl (r_field FI_173_3 rfl (F18.ev 1 rfl) rfl) rfl fun _ F20 => ?_)))))
 refine l_op (f_val (v := .int .i64 a.a) F20 rfl rfl (r_loadB S19.at' 2 TI_3 rfl rfl (F20.ev 13 rfl) rfl rfl (fun _ => rfl) rfl) rfl fun _ F21 => ?_)
 refine l_op (f_val F21 rfl rfl (r_field FI_148_3 rfl (F21.ev 3 rfl) rfl) rfl fun _ F22 => ?_)
 refine l_op (s_store S19.at' 0 TI_3 rfl rfl rfl rfl rfl (F22.ev 15 rfl) (F22.ev 14 rfl) rfl rfl rfl rfl rfl fun w23 S23 => ?_)
 refine s_end (x_normal (wp_seq (wp_region_lit (l_op (f_val F22 rfl rfl (r_field FI_173_4 rfl (F22.ev 1 rfl) rfl) rfl fun _ F24 => ?_)))))
 refine l_op (f_val (v := .int .i64 a.b) F24 rfl rfl (r_loadB S23.at' 2 TI_3 rfl rfl (F24.ev 16 rfl) rfl rfl (fun _ => rfl) rfl) rfl fun _ F25 => ?_)
 refine l_op (f_val F25 rfl rfl (r_field FI_148_4 rfl (F25.ev 3 rfl) rfl) rfl fun _ F26 => ?_)
 refine l_op (s_store S23.at' 0 TI_3 rfl rfl rfl rfl rfl (F26.ev 18 rfl) (F26.ev 17 rfl) rfl rfl rfl rfl rfl fun w27 S27 => ?_)
 have T28 : Mv _ _ [bx b5 [.int .i64 a.kind, .string a.name, .string a.to_, .int .i64 a.a, .int .i64 a.b, .string (⟨#[]⟩ : ByteArray)] 148, bx b3 [.int .i64 0, .string (⟨#[]⟩ : ByteArray), .string (⟨#[]⟩ : ByteArray), .int .i64 0, .int .i64 0, .string (⟨#[]⟩ : ByteArray)] 148, bx b1 [.int .i64 a.kind, .string a.name, .string a.to_, .int .i64 a.a, .int .i64 a.b, .string a.text] 173] _ := S27
 refine s_end (x_normal (wp_seq (wp_region_lit (l_op (f_val F26 rfl rfl (r_field FI_173_5 rfl (F26.ev 1 rfl) rfl) rfl fun _ F29 => ?_)))))
 refine l_op (f_val (v := .string a.text) F29 rfl rfl (r_loadB T28.at' 2 TI_9 rfl rfl (F29.ev 19 rfl) rfl rfl (fun _ => rfl) rfl) rfl fun _ F30 => ?_)
 refine l_op (f_val F30 rfl rfl (r_field FI_148_5 rfl (F30.ev 3 rfl) rfl) rfl fun _ F31 => ?_)
 refine l_op (s_store T28.at' 0 TI_9 rfl rfl rfl rfl rfl (F31.ev 21 rfl) (F31.ev 20 rfl) rfl rfl rfl rfl rfl fun w32 S32 => ?_)
 refine s_end (x_normal (wp_seq (wp_region_lit (l_op (f_val (v := .agg #[.int .i64 a.kind, .string a.name, .string a.to_, .int .i64 a.a, .int .i64 a.b, .string a.text]) F31 rfl rfl (r_loadB S32.at' 0 TI_148 rfl rfl (F31.ev 3 rfl) rfl rfl (fun h => nomatch h) rfl) rfl fun _ F33 => ?_)))))
 refine l_op (s_store S32.at' 1 TI_148 rfl rfl rfl rfl rfl (F33.ev 2 rfl) (F33.ev 22 rfl) rfl rfl rfl rfl rfl fun w34 S34 => ?_)
 refine s_end (x_normal (wp_ret ?_))
 refine x_done (v := .agg #[.int .i64 a.kind, .string a.name, .string a.to_, .int .i64 a.a, .int .i64 a.b, .string a.text]) F33 (results_1 Try.results145 (.cell (F33.ev 2 rfl) (run_loadVar' TI_148 _ [.int .i64 a.kind, .string a.name, .string a.to_, .int .i64 a.a, .int .i64 a.b, .string a.text] rfl (fun h => nomatch h) (At.cells S34.at' 0 rfl 0 [.int .i64 a.kind, .string a.name, .string a.to_, .int .i64 a.a, .int .i64 a.b, .string a.text] rfl)))) ?_
 exact ⟨rfl, (Mv.pick (S1.trans (S3.trans (S5.trans (T11.trans (S15.trans (S19.trans (S23.trans (T28.trans (S32.trans S34))))))))) [] rfl), Q2, Q4, Q3, by first | assumption | omega, by first | assumption | omega, by first | assumption | omega⟩
theorem laws_toAnswer_c {w : World} {H : Nat → Prop} {a : AnsD} (Q0 : i64ok a.code) (h_a_n : i64ok a.n) (Q1 : okS a.text) :
    Calls Try.prog 146 #[.agg #[.int .i64 a.code, .int .i64 a.n, .string a.text]] w fun e w' => e = .returned (.agg #[.int .i64 a.code, .int .i64 a.n, .string a.text]) ∧ Mv [] w [] w' ∧ okS a.text ∧ i64ok a.code ∧ i64ok a.n := by
 have uU : True := (fun _ _ _ => trivial) H Q0 h_a_n
 clear uU
 refine calls_enter 14 Try.func146 rfl Try.ntmps146 (Nat.le_of_ble_eq_true rfl) (fun _ F0i => ?_)
 have F0 : Fr 14 [(0, .agg #[.int .i64 a.code, .int .i64 a.n, .string a.text])] _ := F0i
 clear F0i
 refine wp_seq (wp_region_lit (l_op (f_box F0 (At.nil w) rfl rfl rfl (F0.ev 0 rfl) rfl rfl fun b1 _ w1 F2 S1 => ?_)))
 refine l_op (f_alloc F2 S1.at' ZI_151 rfl rfl rfl rfl rfl fun b3 _ w3 F4 S3 => ?_)
 refine s_end (x_normal (wp_seq (wp_region_lit (l_op (f_alloc F4 S3.at' ZI_151 rfl rfl rfl rfl rfl fun b5 _ w5 F6 S5 => ?_)))))
 refine s_end (x_normal (wp_seq (wp_region_lit (l_op (f_val F6 rfl rfl (r_field FI_175_0 rfl (F6.ev 1 rfl) rfl) rfl fun _ F7 => ?_)))))
 refine l_op (f_val (v := .int .i64 a.code) F7 rfl rfl (r_loadB S5.at' 2 TI_3 rfl rfl (F7.ev 4 rfl) rfl rfl (fun _ => rfl) rfl) rfl fun _ F8 => ?_)
 refine l_op (f_val F8 rfl rfl (r_field FI_151_0 rfl (F8.ev 3 rfl) rfl) rfl fun _ F9 => ?_)
 refine l_op (s_store S5.at' 0 TI_3 rfl rfl rfl rfl rfl (F9.ev 6 rfl) (F9.ev 5 rfl) rfl rfl rfl rfl rfl fun w10 S10 => ?_)
 have T11 : Mv _ _ [bx b5 [.int .i64 a.code, .int .i64 0, .string (⟨#[]⟩ : ByteArray)] 151, bx b3 [.int .i64 0, .int .i64 0, .string (⟨#[]⟩ : ByteArray)] 151, bx b1 [.int .i64 a.code, .int .i64 a.n, .string a.text] 175] _ := S10
 refine s_end (x_normal (wp_seq (wp_region_lit (l_op (f_val F9 rfl rfl (r_field FI_175_1 rfl (F9.ev 1 rfl) rfl) rfl fun _ F12 => ?_)))))
 refine l_op (f_val (v := .int .i64 a.n) F12 rfl rfl (r_loadB T11.at' 2 TI_3 rfl rfl (F12.ev 7 rfl) rfl rfl (fun _ => rfl) rfl) rfl fun _ F13 => ?_)
 refine l_op (f_val F13 rfl rfl (r_field FI_151_1 rfl (F13.ev 3 rfl) rfl) rfl fun _ F14 => ?_)
 refine l_op (s_store T11.at' 0 TI_3 rfl rfl rfl rfl rfl (F14.ev 9 rfl) (F14.ev 8 rfl) rfl rfl rfl rfl rfl fun w15 S15 => ?_)
 refine s_end (x_normal (wp_seq (wp_region_lit (l_op (f_val F14 rfl rfl (r_field FI_175_2 rfl (F14.ev 1 rfl) rfl) rfl fun _ F16 => ?_)))))
 refine l_op (f_val (v := .string a.text) F16 rfl rfl (r_loadB S15.at' 2 TI_9 rfl rfl (F16.ev 10 rfl) rfl rfl (fun _ => rfl) rfl) rfl fun _ F17 => ?_)
 refine l_op (f_val F17 rfl rfl (r_field FI_151_2 rfl (F17.ev 3 rfl) rfl) rfl fun _ F18 => ?_)
 refine l_op (s_store S15.at' 0 TI_9 rfl rfl rfl rfl rfl (F18.ev 12 rfl) (F18.ev 11 rfl) rfl rfl rfl rfl rfl fun w19 S19 => ?_)
 refine s_end (x_normal (wp_seq (wp_region_lit (l_op (f_val (v := .agg #[.int .i64 a.code, .int .i64 a.n, .string a.text]) F18 rfl rfl (r_loadB S19.at' 0 TI_151 rfl rfl (F18.ev 3 rfl) rfl rfl (fun h => nomatch h) rfl) rfl fun _ F20 => ?_)))))
 refine l_op (s_store S19.at' 1 TI_151 rfl rfl rfl rfl rfl (F20.ev 2 rfl) (F20.ev 13 rfl) rfl rfl rfl rfl rfl fun w21 S21 => ?_)
 refine s_end (x_normal (wp_ret ?_))
 refine x_done (v := .agg #[.int .i64 a.code, .int .i64 a.n, .string a.text]) F20 (results_1 Try.results146 (.cell (F20.ev 2 rfl) (run_loadVar' TI_151 _ [.int .i64 a.code, .int .i64 a.n, .string a.text] rfl (fun h => nomatch h) (At.cells S21.at' 0 rfl 0 [.int .i64 a.code, .int .i64 a.n, .string a.text] rfl)))) ?_
 exact ⟨rfl, (Mv.pick (S1.trans (S3.trans (S5.trans (T11.trans (S15.trans (S19.trans S21)))))) [] rfl), Q1, by first | assumption | omega, by first | assumption | omega⟩
theorem laws_toCallS_c {w : World} {H : Nat → Prop} {a : List CallD} {a_a : Option Addr} {a_n a_c : Nat} (v_a : RdA 6 encK okK H w (.slice a_a a_n a_c) a) (p0 : a.length ≤ 1048576) :
    Calls Try.prog 113 #[.slice a_a a_n a_c] w fun e w' => ∃ (r0_a : Option Addr), ∃ (r0_n : Nat), ∃ (r0_c : Nat), e = .returned (.slice r0_a r0_n r0_c) ∧ Mv [] w [ow 148 6 encK okK (.slice r0_a r0_n r0_c) a] w' := by
 have uU : True := (fun _ => trivial) p0
 clear uU
 have V_v_a : RdA 6 encK okK (V H w []) w (.slice a_a a_n a_c) a := RdA.start v_a (fun _ _ => fps_nil _)
 obtain ⟨ln_a, le_a, mx_a, ni_a⟩ := RdA.inv v_a
 refine calls_enter 23 Try.func113 rfl Try.ntmps113 (Nat.le_of_ble_eq_true rfl) (fun _ F0i => ?_)
 have F0 : Fr 23 [(0, .slice a_a a_n a_c)] _ := F0i
 clear F0i
 refine wp_seq (wp_region_lit (l_op (f_val F0 rfl rfl (r_assign rfl rfl) rfl fun _ F1 => ?_)))
 refine s_end (x_normal (wp_seq (wp_region_lit (l_op (f_mv F1 rfl rfl rfl rfl rfl fun _ F2 => ?_)))))
 refine l_op (f_val F2 rfl rfl (r_len Try.underlying89 rfl (F2.ev 5 rfl)) rfl fun _ F3 => ?_)
 refine l_op (f_mk (ok := okK) (⟨0, (⟨#[]⟩ : ByteArray), (⟨#[]⟩ : ByteArray), 0, 0, (⟨#[]⟩ : ByteArray)⟩ : CallD) F3 (At.nil w) ET_66 rfl rfl rfl rfl (F3.ev 6 rfl) (F3.ev 6 rfl) rfl ⟨(show i64ok 0 from by first | assumption | exact ⟨by omega, by omega⟩), (by unfold okS; decide), (by unfold okS; decide), (show i64ok 0 from by first | assumption | exact ⟨by omega, by omega⟩), (show i64ok 0 from by first | assumption | exact ⟨by omega, by omega⟩), (by unfold okS; decide)⟩ (by omega) fun b4 _ w4 F5 S4 => ?_)
 refine l_op (f_as F5 rfl rfl rfl rfl rfl fun _ F6 => ?_)
 refine s_end (x_normal (wp_seq (wp_seq (wp_region_lit (l_op (f_val F6 rfl rfl (r_assign rfl rfl) rfl fun _ F7 => ?_))))))
 refine s_end (x_normal (wp_block ?_))
 refine x_loop (fun (k : Nat) aZ wZ => ∃ (D : List CallD), ∃ (oa : Option Addr), ∃ (on : Nat), ∃ (oc : Nat), Fr 23 [(4, .int .i64 ((k : Nat) : Int)), (3, .slice oa on oc), (0, .slice a_a a_n a_c)] aZ ∧ Mv [ow 148 6 encK okK (.slice (some ⟨b4, 0, none⟩) a_n a_n) (List.replicate a_n (⟨0, (⟨#[]⟩ : ByteArray), (⟨#[]⟩ : ByteArray), 0, 0, (⟨#[]⟩ : ByteArray)⟩ : CallD))] w4 [ow 148 6 encK okK (.slice oa on oc) D] wZ ∧ (k ≤ a_n) ∧ (D = copyTo (⟨0, (⟨#[]⟩ : ByteArray), (⟨#[]⟩ : ByteArray), 0, 0, (⟨#[]⟩ : ByteArray)⟩ : CallD) k a) ∧ (on = a_n)) (fun (k : Nat) => a_n - k) (0) ?_ ?_
 · exact ⟨List.replicate a_n (⟨0, (⟨#[]⟩ : ByteArray), (⟨#[]⟩ : ByteArray), 0, 0, (⟨#[]⟩ : ByteArray)⟩ : CallD), (some ⟨b4, 0, none⟩), a_n, a_n, F7.cut rfl, (Mv.refl S4.at'), by omega, copyTo_start _ _ ln_a, rfl⟩
 · rintro k a8 w8 ⟨D, oa, on, oc, F8, S8, hk_0, hk_1, hk_2⟩
   refine wp_seq (wp_seq (wp_region_lit (l_op (f_mv F8 rfl rfl rfl rfl rfl fun _ F9 => ?_))))
   refine l_op (f_mv F9 rfl rfl rfl rfl rfl fun _ F10 => ?_)
   refine l_op (f_val F10 rfl rfl (r_len Try.underlying89 rfl (F10.ev 9 rfl)) rfl fun _ F11 => ?_)
   refine l_op (f_val F11 rfl rfl (r_cmp (b := decide (k < a_n)) (.inr (.inr (.inl rfl))) rfl (F11.ev 8 rfl) (F11.ev 10 rfl) (dec_of (by omega))) rfl fun _ F12 => ?_)
   refine s_end (x_normal (x_cond (p := k < a_n) (F12.ev 11 rfl) (fun h13 => ?_) (fun h13 => ?_)))
   · skip
     refine wp_skip (x_normal (wp_seq (wp_block (wp_region_lit (l_op (f_mv F12 rfl rfl rfl rfl rfl fun _ F14 => ?_))))))
     refine l_op (f_mv F14 rfl rfl rfl rfl rfl fun _ F15 => ?_)
     refine l_op (f_mv F15 rfl rfl rfl rfl rfl fun _ F16 => ?_)
     refine l_op (f_mv F16 rfl rfl rfl rfl rfl fun _ F17 => ?_)
     obtain ⟨B18, O18, x1, ad18, hx1, okx1, ln18, cl18⟩ := RdA.at (RdA.mv (Nat.succ_pos _) V_v_a (S4.trans S8)) k (by first | assumption | omega)
     clear ln18
     refine l_op (f_val F17 rfl rfl (r_indexAddr (i := k) ET_89 rfl ((F17.ev 16 rfl).trans (by rw [ad18])) (F17.ev 17 rfl) (by omega) (by first | assumption | omega)) rfl fun _ F19 => ?_)
     refine l_op (f_val (v := .agg #[.int .i64 x1.kind, .string x1.name, .string x1.to_, .int .i64 x1.a, .int .i64 x1.b, .string x1.text]) F19 rfl rfl (r_load (cs := [.int .i64 x1.kind, .string x1.name, .string x1.to_, .int .i64 x1.a, .int .i64 x1.b, .string x1.text]) TI_173 rfl (F19.ev 18 rfl) rfl (fun h => nomatch h) (elem_sub (f := 0) cl18 [.int .i64 x1.kind, .string x1.name, .string x1.to_, .int .i64 x1.a, .int .i64 x1.b, .string x1.text] rfl)) rfl fun _ F20 => ?_)
     refine l_op (f_call F20 CF_145 rfl rfl rfl rfl (lc (F20.ev 19 rfl) rfl) (laws_toCall_c (H := fun _ => True) (a := x1) okx1.1 okx1.2.1 okx1.2.2.1 okx1.2.2.2.1 okx1.2.2.2.2.1 okx1.2.2.2.2.2) ?_)
     rintro _ w21 ⟨rfl, m21, Q0, Q2, Q1, q21_0, q21_1, q21_2⟩
     refine ⟨_, rfl, fun _ F22 => ?_⟩
     have S21 := At.frame0 S8.at' m21
     clear m21
     obtain ⟨B23, x2, ad23, hx2, okx2, cl23⟩ := At.ownAt S21.at' ET_66.hk 0 rfl k (by first | assumption | omega)
     refine l_op (f_val F22 rfl rfl (r_indexAddr (i := k) ET_66 rfl ((F22.ev 14 rfl).trans (by rw [ad23])) (F22.ev 15 rfl) (by omega) (by first | assumption | omega)) rfl fun _ F24 => ?_)
     refine l_op (s_storeEl S21.at' 0 k x1 ET_66.hk ET_66.h1 TI_148 rfl ad23 rfl rfl rfl rfl (F24.ev 21 rfl) (F24.ev 20 rfl) rfl (by first | assumption | omega) ⟨(show i64ok x1.kind from by first | assumption | exact ⟨by omega, by omega⟩), Q0, Q2, (show i64ok x1.a from by first | assumption | exact ⟨by omega, by omega⟩), (show i64ok x1.b from by first | assumption | exact ⟨by omega, by omega⟩), Q1⟩ fun w25 S25 => ?_)
     have T26 : Mv _ _ [ow 148 6 encK okK (.slice oa on oc) (D.set k x1)] _ := S25
     refine s_end (x_block_normal (x_normal (wp_region_lit (l_op (f_mv F24 rfl rfl rfl rfl rfl fun _ F27 => ?_)))))
     refine l_op (f_val F27 rfl rfl (r_add (z := ((k + 1 : Nat) : Int)) rfl (F27.ev 12 rfl) rfl (by first | rfl | omega) ⟨by first | omega | (unfold i64ok at *; omega), by first | omega | (unfold i64ok at *; omega)⟩) rfl fun _ F28 => ?_)
     refine l_op (f_as F28 rfl rfl rfl rfl rfl fun _ F29 => ?_)
     refine s_end ?_
     refine x_normal ⟨k + 1, by omega, D.set k x1, oa, on, oc, F29.cut rfl, ((S8.trans (S21.trans T26)).pick [0] rfl), by omega, by rw [hk_1, copyTo_step hx1], by assumption⟩
   · skip
     refine wp_exit (x_then_exit (x_then_exit (x_block_here (x_normal (wp_seq (wp_region_lit (l_op (f_mv F12 rfl rfl rfl rfl rfl fun _ F30 => ?_))))))))
     refine l_op (f_as F30 rfl rfl rfl rfl rfl fun _ F31 => ?_)
     refine s_end (x_normal (wp_ret ?_))
     refine x_done (v := .slice oa on oc) F31 (results_1 Try.results113 (.tmp (F31.ev 2 rfl))) ?_
     exact ⟨oa, on, oc, rfl, (Mv.cast (Mv.pick (S4.trans S8) [0] rfl) (by rw [(show D = a from by rw [hk_1, copyTo_end (by omega)])]; all_goals rfl))⟩
theorem laws_toAnswerS_c {w : World} {H : Nat → Prop} {a : List AnsD} {a_a : Option Addr} {a_n a_c : Nat} (v_a : RdA 3 encR okR H w (.slice a_a a_n a_c) a) (p0 : a.length ≤ 1048576) :
    Calls Try.prog 114 #[.slice a_a a_n a_c] w fun e w' => ∃ (r0_a : Option Addr), ∃ (r0_n : Nat), ∃ (r0_c : Nat), e = .returned (.slice r0_a r0_n r0_c) ∧ Mv [] w [ow 151 3 encR okR (.slice r0_a r0_n r0_c) a] w' := by
 have uU : True := (fun _ => trivial) p0
 clear uU
 have V_v_a : RdA 3 encR okR (V H w []) w (.slice a_a a_n a_c) a := RdA.start v_a (fun _ _ => fps_nil _)
 obtain ⟨ln_a, le_a, mx_a, ni_a⟩ := RdA.inv v_a
 refine calls_enter 23 Try.func114 rfl Try.ntmps114 (Nat.le_of_ble_eq_true rfl) (fun _ F0i => ?_)
 have F0 : Fr 23 [(0, .slice a_a a_n a_c)] _ := F0i
 clear F0i
 refine wp_seq (wp_region_lit (l_op (f_val F0 rfl rfl (r_assign rfl rfl) rfl fun _ F1 => ?_)))
 refine s_end (x_normal (wp_seq (wp_region_lit (l_op (f_mv F1 rfl rfl rfl rfl rfl fun _ F2 => ?_)))))
 refine l_op (f_val F2 rfl rfl (r_len Try.underlying90 rfl (F2.ev 5 rfl)) rfl fun _ F3 => ?_)
 refine l_op (f_mk (ok := okR) (⟨0, 0, (⟨#[]⟩ : ByteArray)⟩ : AnsD) F3 (At.nil w) ET_67 rfl rfl rfl rfl (F3.ev 6 rfl) (F3.ev 6 rfl) rfl ⟨(show i64ok 0 from by first | assumption | exact ⟨by omega, by omega⟩), (show i64ok 0 from by first | assumption | exact ⟨by omega, by omega⟩), (by unfold okS; decide)⟩ (by omega) fun b4 _ w4 F5 S4 => ?_)
 refine l_op (f_as F5 rfl rfl rfl rfl rfl fun _ F6 => ?_)
 refine s_end (x_normal (wp_seq (wp_seq (wp_region_lit (l_op (f_val F6 rfl rfl (r_assign rfl rfl) rfl fun _ F7 => ?_))))))
 refine s_end (x_normal (wp_block ?_))
 refine x_loop (fun (k : Nat) aZ wZ => ∃ (D : List AnsD), ∃ (oa : Option Addr), ∃ (on : Nat), ∃ (oc : Nat), Fr 23 [(4, .int .i64 ((k : Nat) : Int)), (3, .slice oa on oc), (0, .slice a_a a_n a_c)] aZ ∧ Mv [ow 151 3 encR okR (.slice (some ⟨b4, 0, none⟩) a_n a_n) (List.replicate a_n (⟨0, 0, (⟨#[]⟩ : ByteArray)⟩ : AnsD))] w4 [ow 151 3 encR okR (.slice oa on oc) D] wZ ∧ (k ≤ a_n) ∧ (D = copyTo (⟨0, 0, (⟨#[]⟩ : ByteArray)⟩ : AnsD) k a) ∧ (on = a_n)) (fun (k : Nat) => a_n - k) (0) ?_ ?_
 · exact ⟨List.replicate a_n (⟨0, 0, (⟨#[]⟩ : ByteArray)⟩ : AnsD), (some ⟨b4, 0, none⟩), a_n, a_n, F7.cut rfl, (Mv.refl S4.at'), by omega, copyTo_start _ _ ln_a, rfl⟩
 · rintro k a8 w8 ⟨D, oa, on, oc, F8, S8, hk_0, hk_1, hk_2⟩
   refine wp_seq (wp_seq (wp_region_lit (l_op (f_mv F8 rfl rfl rfl rfl rfl fun _ F9 => ?_))))
   refine l_op (f_mv F9 rfl rfl rfl rfl rfl fun _ F10 => ?_)
   refine l_op (f_val F10 rfl rfl (r_len Try.underlying90 rfl (F10.ev 9 rfl)) rfl fun _ F11 => ?_)
   refine l_op (f_val F11 rfl rfl (r_cmp (b := decide (k < a_n)) (.inr (.inr (.inl rfl))) rfl (F11.ev 8 rfl) (F11.ev 10 rfl) (dec_of (by omega))) rfl fun _ F12 => ?_)
   refine s_end (x_normal (x_cond (p := k < a_n) (F12.ev 11 rfl) (fun h13 => ?_) (fun h13 => ?_)))
   · skip
     refine wp_skip (x_normal (wp_seq (wp_block (wp_region_lit (l_op (f_mv F12 rfl rfl rfl rfl rfl fun _ F14 => ?_))))))
     refine l_op (f_mv F14 rfl rfl rfl rfl rfl fun _ F15 => ?_)
     refine l_op (f_mv F15 rfl rfl rfl rfl rfl fun _ F16 => ?_)
     refine l_op (f_mv F16 rfl rfl rfl rfl rfl fun _ F17 => ?_)
     obtain ⟨B18, O18, x1, ad18, hx1, okx1, ln18, cl18⟩ := RdA.at (RdA.mv (Nat.succ_pos _) V_v_a (S4.trans S8)) k (by first | assumption | omega)
     clear ln18
     refine l_op (f_val F17 rfl rfl (r_indexAddr (i := k) ET_90 rfl ((F17.ev 16 rfl).trans (by rw [ad18])) (F17.ev 17 rfl) (by omega) (by first | assumption | omega)) rfl fun _ F19 => ?_)
     refine l_op (f_val (v := .agg #[.int .i64 x1.code, .int .i64 x1.n, .string x1.text]) F19 rfl rfl (r_load (cs := [.int .i64 x1.code, .int .i64 x1.n, .string x1.text]) TI_175 rfl (F19.ev 18 rfl) rfl (fun h => nomatch h) (elem_sub (f := 0) cl18 [.int .i64 x1.code, .int .i64 x1.n, .string x1.text] rfl)) rfl fun _ F20 => ?_)
     refine l_op (f_call F20 CF_146 rfl rfl rfl rfl (lc (F20.ev 19 rfl) rfl) (laws_toAnswer_c (H := fun _ => True) (a := x1) okx1.1 okx1.2.1 okx1.2.2) ?_)
     rintro _ w21 ⟨rfl, m21, Q0, q21_0, q21_1⟩
     refine ⟨_, rfl, fun _ F22 => ?_⟩
     have S21 := At.frame0 S8.at' m21
     clear m21
     obtain ⟨B23, x2, ad23, hx2, okx2, cl23⟩ := At.ownAt S21.at' ET_67.hk 0 rfl k (by first | assumption | omega)
     refine l_op (f_val F22 rfl rfl (r_indexAddr (i := k) ET_67 rfl ((F22.ev 14 rfl).trans (by rw [ad23])) (F22.ev 15 rfl) (by omega) (by first | assumption | omega)) rfl fun _ F24 => ?_)
     refine l_op (s_storeEl S21.at' 0 k x1 ET_67.hk ET_67.h1 TI_151 rfl ad23 rfl rfl rfl rfl (F24.ev 21 rfl) (F24.ev 20 rfl) rfl (by first | assumption | omega) ⟨(show i64ok x1.code from by first | assumption | exact ⟨by omega, by omega⟩), (show i64ok x1.n from by first | assumption | exact ⟨by omega, by omega⟩), Q0⟩ fun w25 S25 => ?_)
     have T26 : Mv _ _ [ow 151 3 encR okR (.slice oa on oc) (D.set k x1)] _ := S25
     refine s_end (x_block_normal (x_normal (wp_region_lit (l_op (f_mv F24 rfl rfl rfl rfl rfl fun _ F27 => ?_)))))
     refine l_op (f_val F27 rfl rfl (r_add (z := ((k + 1 : Nat) : Int)) rfl (F27.ev 12 rfl) rfl (by first | rfl | omega) ⟨by first | omega | (unfold i64ok at *; omega), by first | omega | (unfold i64ok at *; omega)⟩) rfl fun _ F28 => ?_)
     refine l_op (f_as F28 rfl rfl rfl rfl rfl fun _ F29 => ?_)
     refine s_end ?_
     refine x_normal ⟨k + 1, by omega, D.set k x1, oa, on, oc, F29.cut rfl, ((S8.trans (S21.trans T26)).pick [0] rfl), by omega, by rw [hk_1, copyTo_step hx1], by assumption⟩
   · skip
     refine wp_exit (x_then_exit (x_then_exit (x_block_here (x_normal (wp_seq (wp_region_lit (l_op (f_mv F12 rfl rfl rfl rfl rfl fun _ F30 => ?_))))))))
     refine l_op (f_as F30 rfl rfl rfl rfl rfl fun _ F31 => ?_)
     refine s_end (x_normal (wp_ret ?_))
     refine x_done (v := .slice oa on oc) F31 (results_1 Try.results114 (.tmp (F31.ev 2 rfl))) ?_
     exact ⟨oa, on, oc, rfl, (Mv.cast (Mv.pick (S4.trans S8) [0] rfl) (by rw [(show D = a from by rw [hk_1, copyTo_end (by omega)])]; all_goals rfl))⟩
theorem laws_toIntS_c {w : World} {H : Nat → Prop} {a : List Int} {a_a : Option Addr} {a_n a_c : Nat} (v_a : RdA 1 encI okI H w (.slice a_a a_n a_c) a) (p0 : a.length ≤ 1048576) :
    Calls Try.prog 34 #[.slice a_a a_n a_c] w fun e w' => ∃ (r0_a : Option Addr), ∃ (r0_n : Nat), ∃ (r0_c : Nat), e = .returned (.slice r0_a r0_n r0_c) ∧ Mv [] w [ow 3 1 encI okI (.slice r0_a r0_n r0_c) a] w' := by
 have uU : True := (fun _ => trivial) p0
 clear uU
 have V_v_a : RdA 1 encI okI (V H w []) w (.slice a_a a_n a_c) a := RdA.start v_a (fun _ _ => fps_nil _)
 obtain ⟨ln_a, le_a, mx_a, ni_a⟩ := RdA.inv v_a
 refine calls_enter 22 Try.func34 rfl Try.ntmps34 (Nat.le_of_ble_eq_true rfl) (fun _ F0i => ?_)
 have F0 : Fr 22 [(0, .slice a_a a_n a_c)] _ := F0i
 clear F0i
 refine wp_seq (wp_region_lit (l_op (f_val F0 rfl rfl (r_assign rfl rfl) rfl fun _ F1 => ?_)))
 refine s_end (x_normal (wp_seq (wp_region_lit (l_op (f_mv F1 rfl rfl rfl rfl rfl fun _ F2 => ?_)))))
 refine l_op (f_val F2 rfl rfl (r_len Try.underlying53 rfl (F2.ev 5 rfl)) rfl fun _ F3 => ?_)
 refine l_op (f_mk (ok := okI) 0 F3 (At.nil w) ET_53 rfl rfl rfl rfl (F3.ev 6 rfl) (F3.ev 6 rfl) rfl ⟨by omega, by omega⟩ (by omega) fun b4 _ w4 F5 S4 => ?_)
 refine l_op (f_as F5 rfl rfl rfl rfl rfl fun _ F6 => ?_)
 refine s_end (x_normal (wp_seq (wp_seq (wp_region_lit (l_op (f_val F6 rfl rfl (r_assign rfl rfl) rfl fun _ F7 => ?_))))))
 refine s_end (x_normal (wp_block ?_))
 refine x_loop (fun (k : Nat) aZ wZ => ∃ (D : List Int), ∃ (oa : Option Addr), ∃ (on : Nat), ∃ (oc : Nat), Fr 22 [(4, .int .i64 ((k : Nat) : Int)), (3, .slice oa on oc), (0, .slice a_a a_n a_c)] aZ ∧ Mv [ow 3 1 encI okI (.slice (some ⟨b4, 0, none⟩) a_n a_n) (List.replicate a_n 0)] w4 [ow 3 1 encI okI (.slice oa on oc) D] wZ ∧ (k ≤ a_n) ∧ (D = copyTo (0 : Int) k a) ∧ (on = a_n)) (fun (k : Nat) => a_n - k) (0) ?_ ?_
 · exact ⟨List.replicate a_n 0, (some ⟨b4, 0, none⟩), a_n, a_n, F7.cut rfl, (Mv.refl S4.at'), by omega, copyTo_start _ _ ln_a, rfl⟩
 · rintro k a8 w8 ⟨D, oa, on, oc, F8, S8, hk_0, hk_1, hk_2⟩
   refine wp_seq (wp_seq (wp_region_lit (l_op (f_mv F8 rfl rfl rfl rfl rfl fun _ F9 => ?_))))
   refine l_op (f_mv F9 rfl rfl rfl rfl rfl fun _ F10 => ?_)
   refine l_op (f_val F10 rfl rfl (r_len Try.underlying53 rfl (F10.ev 9 rfl)) rfl fun _ F11 => ?_)
   refine l_op (f_val F11 rfl rfl (r_cmp (b := decide (k < a_n)) (.inr (.inr (.inl rfl))) rfl (F11.ev 8 rfl) (F11.ev 10 rfl) (dec_of (by omega))) rfl fun _ F12 => ?_)
   refine s_end (x_normal (x_cond (p := k < a_n) (F12.ev 11 rfl) (fun h13 => ?_) (fun h13 => ?_)))
   · skip
     refine wp_skip (x_normal (wp_seq (wp_block (wp_region_lit (l_op (f_mv F12 rfl rfl rfl rfl rfl fun _ F14 => ?_))))))
     refine l_op (f_mv F14 rfl rfl rfl rfl rfl fun _ F15 => ?_)
     refine l_op (f_mv F15 rfl rfl rfl rfl rfl fun _ F16 => ?_)
     refine l_op (f_mv F16 rfl rfl rfl rfl rfl fun _ F17 => ?_)
     obtain ⟨B18, O18, x1, ad18, hx1, okx1, ln18, cl18⟩ := RdA.at (RdA.mv (Nat.succ_pos _) V_v_a (S4.trans S8)) k (by first | assumption | omega)
     clear ln18
     refine l_op (f_val F17 rfl rfl (r_indexAddr (i := k) ET_53 rfl ((F17.ev 16 rfl).trans (by rw [ad18])) (F17.ev 17 rfl) (by omega) (by first | assumption | omega)) rfl fun _ F19 => ?_)
     refine l_op (f_val (v := .int .i64 x1) F19 rfl rfl (r_load (cs := [.int .i64 x1]) TI_3 rfl (F19.ev 18 rfl) rfl (fun _ => rfl) (elem_sub (f := 0) cl18 [.int .i64 x1] rfl)) rfl fun _ F20 => ?_)
     obtain ⟨B21, x2, ad21, hx2, okx2, cl21⟩ := At.ownAt S8.at' ET_53.hk 0 rfl k (by first | assumption | omega)
     refine l_op (f_val F20 rfl rfl (r_indexAddr (i := k) ET_53 rfl ((F20.ev 14 rfl).trans (by rw [ad21])) (F20.ev 15 rfl) (by omega) (by first | assumption | omega)) rfl fun _ F22 => ?_)
     refine l_op (s_storeEl S8.at' 0 k x1 ET_53.hk ET_53.h1 TI_3 rfl ad21 rfl rfl rfl rfl (F22.ev 20 rfl) (F22.ev 19 rfl) rfl (by first | assumption | omega) okx1 fun w23 S23 => ?_)
     refine s_end (x_block_normal (x_normal (wp_region_lit (l_op (f_mv F22 rfl rfl rfl rfl rfl fun _ F24 => ?_)))))
     refine l_op (f_val F24 rfl rfl (r_add (z := ((k + 1 : Nat) : Int)) rfl (F24.ev 12 rfl) rfl (by first | rfl | omega) ⟨by first | omega | (unfold i64ok at *; omega), by first | omega | (unfold i64ok at *; omega)⟩) rfl fun _ F25 => ?_)
     refine l_op (f_as F25 rfl rfl rfl rfl rfl fun _ F26 => ?_)
     refine s_end ?_
     refine x_normal ⟨k + 1, by omega, D.set k x1, oa, on, oc, F26.cut rfl, ((S8.trans S23).pick [0] rfl), by omega, by rw [hk_1, copyTo_step hx1], by assumption⟩
   · skip
     refine wp_exit (x_then_exit (x_then_exit (x_block_here (x_normal (wp_seq (wp_region_lit (l_op (f_mv F12 rfl rfl rfl rfl rfl fun _ F27 => ?_))))))))
     refine l_op (f_as F27 rfl rfl rfl rfl rfl fun _ F28 => ?_)
     refine s_end (x_normal (wp_ret ?_))
     refine x_done (v := .slice oa on oc) F28 (results_1 Try.results34 (.tmp (F28.ev 2 rfl))) ?_
     exact ⟨oa, on, oc, rfl, (Mv.cast (Mv.pick (S4.trans S8) [0] rfl) (by rw [(show D = a from by rw [hk_1, copyTo_end (by omega)])]; all_goals rfl))⟩
theorem laws_eqCall_c {w : World} {H : Nat → Prop} {a : CallD} {b : CallD} (Q1 : i64ok a.kind) (Q2 : okS a.name) (Q4 : okS a.to_) (h_a_a : i64ok a.a) (Q0 : i64ok a.b) (Q3 : okS a.text) (Q6 : i64ok b.kind) (Q7 : okS b.name) (Q9 : okS b.to_) (h_b_a : i64ok b.a) (Q5 : i64ok b.b) (Q8 : okS b.text) (p0 : a = b) :
    Calls Try.prog 138 #[.agg #[.int .i64 a.kind, .string a.name, .string a.to_, .int .i64 a.a, .int .i64 a.b, .string a.text], .agg #[.int .i64 b.kind, .string b.name, .string b.to_, .int .i64 b.a, .int .i64 b.b, .string b.text]] w fun e w' => e = .returned (.bool true) ∧ Mv [] w [] w' := by
 have uU : True := (fun _ _ _ _ _ _ _ _ _ _ _ _ _ => trivial) H Q1 Q2 Q4 h_a_a Q0 Q3 Q6 Q7 Q9 h_b_a Q5 Q8
 clear uU
 refine calls_enter 35 Try.func138 rfl Try.ntmps138 (Nat.le_of_ble_eq_true rfl) (fun _ F0i => ?_)
 have F0 : Fr 35 [(0, .agg #[.int .i64 a.kind, .string a.name, .string a.to_, .int .i64 a.a, .int .i64 a.b, .string a.text]), (1, .agg #[.int .i64 b.kind, .string b.name, .string b.to_, .int .i64 b.a, .int .i64 b.b, .string b.text])] _ := F0i
 clear F0i
 refine wp_seq (wp_region_lit (l_op (f_box F0 (At.nil w) rfl rfl rfl (F0.ev 0 rfl) rfl rfl fun b1 _ w1 F2 S1 => ?_)))
 refine l_op (f_box F2 S1.at' rfl rfl rfl (F2.ev 1 rfl) rfl rfl fun b3 _ w3 F4 S3 => ?_)
 refine l_op (f_val F4 rfl rfl (r_assign rfl rfl) rfl fun _ F5 => ?_)
 refine s_end (x_normal (wp_seq (wp_seq (wp_region_lit (l_op (f_val F5 rfl rfl (r_field FI_148_0 rfl (F5.ev 2 rfl) rfl) rfl fun _ F6 => ?_))))))
 refine l_op (f_val (v := .int .i64 a.kind) F6 rfl rfl (r_loadB S3.at' 1 TI_3 rfl rfl (F6.ev 5 rfl) rfl rfl (fun _ => rfl) rfl) rfl fun _ F7 => ?_)
 refine l_op (f_val F7 rfl rfl (r_field FI_148_0 rfl (F7.ev 3 rfl) rfl) rfl fun _ F8 => ?_)
 refine l_op (f_val (v := .int .i64 b.kind) F8 rfl rfl (r_loadB S3.at' 0 TI_3 rfl rfl (F8.ev 7 rfl) rfl rfl (fun _ => rfl) rfl) rfl fun _ F9 => ?_)
 refine l_op (f_val F9 rfl rfl (r_cmp (b := decide (a.kind ≠ b.kind)) (.inr (.inl rfl)) rfl (F9.ev 6 rfl) (F9.ev 8 rfl) (dec_of (by omega))) rfl fun _ F10 => ?_)
 rw [show (decide (a.kind ≠ b.kind)) = false from decide_eq_false (fun h => h (by rw [p0]))] at F10
 refine s_end (x_normal (wp_cond_false (F10.ev 9 rfl) (wp_skip (x_normal (wp_seq (wp_seq (wp_region_lit (l_op (f_val F10 rfl rfl (r_field FI_148_1 rfl (F10.ev 2 rfl) rfl) rfl fun _ F11 => ?_)))))))))
 refine l_op (f_val (v := .string a.name) F11 rfl rfl (r_loadB S3.at' 1 TI_9 rfl rfl (F11.ev 10 rfl) rfl rfl (fun _ => rfl) rfl) rfl fun _ F12 => ?_)
 refine l_op (f_val F12 rfl rfl (r_field FI_148_1 rfl (F12.ev 3 rfl) rfl) rfl fun _ F13 => ?_)
 refine l_op (f_val (v := .string b.name) F13 rfl rfl (r_loadB S3.at' 0 TI_9 rfl rfl (F13.ev 12 rfl) rfl rfl (fun _ => rfl) rfl) rfl fun _ F14 => ?_)
 refine l_op (f_val F14 rfl rfl (r_cmps (b := (decide (a.name ≠ b.name))) (.inr (.inl rfl)) rfl (F14.ev 11 rfl) (F14.ev 13 rfl) rfl) rfl fun _ F15 => ?_)
 rw [show (decide (a.name ≠ b.name)) = false from decide_eq_false (fun h => h (by rw [p0]))] at F15
 refine s_end (x_normal (wp_cond_false (F15.ev 14 rfl) (wp_skip (x_normal (wp_seq (wp_seq (wp_region_lit (l_op (f_val F15 rfl rfl (r_field FI_148_2 rfl (F15.ev 2 rfl) rfl) rfl fun _ F16 => ?_)))))))))
 refine l_op (f_val (v := .string a.to_) F16 rfl rfl (r_loadB S3.at' 1 TI_9 rfl rfl (F16.ev 15 rfl) rfl rfl (fun _ => rfl) rfl) rfl fun _ F17 => ?_)
 refine l_op (f_val F17 rfl rfl (r_field FI_148_2 rfl (F17.ev 3 rfl) rfl) rfl fun _ F18 => ?_)
 refine l_op (f_val (v := .string b.to_) F18 rfl rfl (r_loadB S3.at' 0 TI_9 rfl rfl (F18.ev 17 rfl) rfl rfl (fun _ => rfl) rfl) rfl fun _ F19 => ?_)
 refine l_op (f_val F19 rfl rfl (r_cmps (b := (decide (a.to_ ≠ b.to_))) (.inr (.inl rfl)) rfl (F19.ev 16 rfl) (F19.ev 18 rfl) rfl) rfl fun _ F20 => ?_)
 rw [show (decide (a.to_ ≠ b.to_)) = false from decide_eq_false (fun h => h (by rw [p0]))] at F20
 refine s_end (x_normal (wp_cond_false (F20.ev 19 rfl) (wp_skip (x_normal (wp_seq (wp_seq (wp_region_lit (l_op (f_val F20 rfl rfl (r_field FI_148_3 rfl (F20.ev 2 rfl) rfl) rfl fun _ F21 => ?_)))))))))
 refine l_op (f_val (v := .int .i64 a.a) F21 rfl rfl (r_loadB S3.at' 1 TI_3 rfl rfl (F21.ev 20 rfl) rfl rfl (fun _ => rfl) rfl) rfl fun _ F22 => ?_)
 refine l_op (f_val F22 rfl rfl (r_field FI_148_3 rfl (F22.ev 3 rfl) rfl) rfl fun _ F23 => ?_)
 refine l_op (f_val (v := .int .i64 b.a) F23 rfl rfl (r_loadB S3.at' 0 TI_3 rfl rfl (F23.ev 22 rfl) rfl rfl (fun _ => rfl) rfl) rfl fun _ F24 => ?_)
 refine l_op (f_val F24 rfl rfl (r_cmp (b := decide (a.a ≠ b.a)) (.inr (.inl rfl)) rfl (F24.ev 21 rfl) (F24.ev 23 rfl) (dec_of (by omega))) rfl fun _ F25 => ?_)
 rw [show (decide (a.a ≠ b.a)) = false from decide_eq_false (fun h => h (by rw [p0]))] at F25
 refine s_end (x_normal (wp_cond_false (F25.ev 24 rfl) (wp_skip (x_normal (wp_seq (wp_seq (wp_region_lit (l_op (f_val F25 rfl rfl (r_field FI_148_4 rfl (F25.ev 2 rfl) rfl) rfl fun _ F26 => ?_)))))))))
 refine l_op (f_val (v := .int .i64 a.b) F26 rfl rfl (r_loadB S3.at' 1 TI_3 rfl rfl (F26.ev 25 rfl) rfl rfl (fun _ => rfl) rfl) rfl fun _ F27 => ?_)
 refine l_op (f_val F27 rfl rfl (r_field FI_148_4 rfl (F27.ev 3 rfl) rfl) rfl fun _ F28 => ?_)
 refine l_op (f_val (v := .int .i64 b.b) F28 rfl rfl (r_loadB S3.at' 0 TI_3 rfl rfl (F28.ev 27 rfl) rfl rfl (fun _ => rfl) rfl) rfl fun _ F29 => ?_)
 refine l_op (f_val F29 rfl rfl (r_cmp (b := decide (a.b ≠ b.b)) (.inr (.inl rfl)) rfl (F29.ev 26 rfl) (F29.ev 28 rfl) (dec_of (by omega))) rfl fun _ F30 => ?_)
 rw [show (decide (a.b ≠ b.b)) = false from decide_eq_false (fun h => h (by rw [p0]))] at F30
 refine s_end (x_normal (wp_cond_false (F30.ev 29 rfl) (wp_skip (x_normal (wp_seq (wp_seq (wp_region_lit (l_op (f_val F30 rfl rfl (r_field FI_148_5 rfl (F30.ev 2 rfl) rfl) rfl fun _ F31 => ?_)))))))))
 refine l_op (f_val (v := .string a.text) F31 rfl rfl (r_loadB S3.at' 1 TI_9 rfl rfl (F31.ev 30 rfl) rfl rfl (fun _ => rfl) rfl) rfl fun _ F32 => ?_)
 refine l_op (f_val F32 rfl rfl (r_field FI_148_5 rfl (F32.ev 3 rfl) rfl) rfl fun _ F33 => ?_)
 refine l_op (f_val (v := .string b.text) F33 rfl rfl (r_loadB S3.at' 0 TI_9 rfl rfl (F33.ev 32 rfl) rfl rfl (fun _ => rfl) rfl) rfl fun _ F34 => ?_)
 refine l_op (f_val F34 rfl rfl (r_cmps (b := (decide (a.text ≠ b.text))) (.inr (.inl rfl)) rfl (F34.ev 31 rfl) (F34.ev 33 rfl) rfl) rfl fun _ F35 => ?_)
 rw [show (decide (a.text ≠ b.text)) = false from decide_eq_false (fun h => h (by rw [p0]))] at F35
 refine s_end (x_normal (wp_cond_false (F35.ev 34 rfl) (wp_skip (x_normal (wp_seq (wp_region_lit (l_op (f_val F35 rfl rfl (r_assign rfl rfl) rfl fun _ F36 => ?_))))))))
 refine s_end (x_normal (wp_ret ?_))
 refine x_done (v := .bool true) F36 (results_1 Try.results138 (.tmp (F36.ev 4 rfl))) ?_
 exact ⟨rfl, (Mv.pick (S1.trans S3) [] rfl)⟩
theorem laws_eqAnswer_c {w : World} {H : Nat → Prop} {a : AnsD} {b : AnsD} (Q0 : i64ok a.code) (h_a_n : i64ok a.n) (Q1 : okS a.text) (Q2 : i64ok b.code) (h_b_n : i64ok b.n) (Q3 : okS b.text) (p0 : a = b) :
    Calls Try.prog 139 #[.agg #[.int .i64 a.code, .int .i64 a.n, .string a.text], .agg #[.int .i64 b.code, .int .i64 b.n, .string b.text]] w fun e w' => e = .returned (.bool true) ∧ Mv [] w [] w' := by
 have uU : True := (fun _ _ _ _ _ _ _ => trivial) H Q0 h_a_n Q1 Q2 h_b_n Q3
 clear uU
 refine calls_enter 20 Try.func139 rfl Try.ntmps139 (Nat.le_of_ble_eq_true rfl) (fun _ F0i => ?_)
 have F0 : Fr 20 [(0, .agg #[.int .i64 a.code, .int .i64 a.n, .string a.text]), (1, .agg #[.int .i64 b.code, .int .i64 b.n, .string b.text])] _ := F0i
 clear F0i
 refine wp_seq (wp_region_lit (l_op (f_box F0 (At.nil w) rfl rfl rfl (F0.ev 0 rfl) rfl rfl fun b1 _ w1 F2 S1 => ?_)))
 refine l_op (f_box F2 S1.at' rfl rfl rfl (F2.ev 1 rfl) rfl rfl fun b3 _ w3 F4 S3 => ?_)
 refine l_op (f_val F4 rfl rfl (r_assign rfl rfl) rfl fun _ F5 => ?_)
 refine s_end (x_normal (wp_seq (wp_seq (wp_region_lit (l_op (f_val F5 rfl rfl (r_field FI_151_0 rfl (F5.ev 2 rfl) rfl) rfl fun _ F6 => ?_))))))
 refine l_op (f_val (v := .int .i64 a.code) F6 rfl rfl (r_loadB S3.at' 1 TI_3 rfl rfl (F6.ev 5 rfl) rfl rfl (fun _ => rfl) rfl) rfl fun _ F7 => ?_)
 refine l_op (f_val F7 rfl rfl (r_field FI_151_0 rfl (F7.ev 3 rfl) rfl) rfl fun _ F8 => ?_)
 refine l_op (f_val (v := .int .i64 b.code) F8 rfl rfl (r_loadB S3.at' 0 TI_3 rfl rfl (F8.ev 7 rfl) rfl rfl (fun _ => rfl) rfl) rfl fun _ F9 => ?_)
 refine l_op (f_val F9 rfl rfl (r_cmp (b := decide (a.code ≠ b.code)) (.inr (.inl rfl)) rfl (F9.ev 6 rfl) (F9.ev 8 rfl) (dec_of (by omega))) rfl fun _ F10 => ?_)
 rw [show (decide (a.code ≠ b.code)) = false from decide_eq_false (fun h => h (by rw [p0]))] at F10
 refine s_end (x_normal (wp_cond_false (F10.ev 9 rfl) (wp_skip (x_normal (wp_seq (wp_seq (wp_region_lit (l_op (f_val F10 rfl rfl (r_field FI_151_1 rfl (F10.ev 2 rfl) rfl) rfl fun _ F11 => ?_)))))))))
 refine l_op (f_val (v := .int .i64 a.n) F11 rfl rfl (r_loadB S3.at' 1 TI_3 rfl rfl (F11.ev 10 rfl) rfl rfl (fun _ => rfl) rfl) rfl fun _ F12 => ?_)
 refine l_op (f_val F12 rfl rfl (r_field FI_151_1 rfl (F12.ev 3 rfl) rfl) rfl fun _ F13 => ?_)
 refine l_op (f_val (v := .int .i64 b.n) F13 rfl rfl (r_loadB S3.at' 0 TI_3 rfl rfl (F13.ev 12 rfl) rfl rfl (fun _ => rfl) rfl) rfl fun _ F14 => ?_)
 refine l_op (f_val F14 rfl rfl (r_cmp (b := decide (a.n ≠ b.n)) (.inr (.inl rfl)) rfl (F14.ev 11 rfl) (F14.ev 13 rfl) (dec_of (by omega))) rfl fun _ F15 => ?_)
 rw [show (decide (a.n ≠ b.n)) = false from decide_eq_false (fun h => h (by rw [p0]))] at F15
 refine s_end (x_normal (wp_cond_false (F15.ev 14 rfl) (wp_skip (x_normal (wp_seq (wp_seq (wp_region_lit (l_op (f_val F15 rfl rfl (r_field FI_151_2 rfl (F15.ev 2 rfl) rfl) rfl fun _ F16 => ?_)))))))))
 refine l_op (f_val (v := .string a.text) F16 rfl rfl (r_loadB S3.at' 1 TI_9 rfl rfl (F16.ev 15 rfl) rfl rfl (fun _ => rfl) rfl) rfl fun _ F17 => ?_)
 refine l_op (f_val F17 rfl rfl (r_field FI_151_2 rfl (F17.ev 3 rfl) rfl) rfl fun _ F18 => ?_)
 refine l_op (f_val (v := .string b.text) F18 rfl rfl (r_loadB S3.at' 0 TI_9 rfl rfl (F18.ev 17 rfl) rfl rfl (fun _ => rfl) rfl) rfl fun _ F19 => ?_)
 refine l_op (f_val F19 rfl rfl (r_cmps (b := (decide (a.text ≠ b.text))) (.inr (.inl rfl)) rfl (F19.ev 16 rfl) (F19.ev 18 rfl) rfl) rfl fun _ F20 => ?_)
 rw [show (decide (a.text ≠ b.text)) = false from decide_eq_false (fun h => h (by rw [p0]))] at F20
 refine s_end (x_normal (wp_cond_false (F20.ev 19 rfl) (wp_skip (x_normal (wp_seq (wp_region_lit (l_op (f_val F20 rfl rfl (r_assign rfl rfl) rfl fun _ F21 => ?_))))))))
 refine s_end (x_normal (wp_ret ?_))
 refine x_done (v := .bool true) F21 (results_1 Try.results139 (.tmp (F21.ev 4 rfl))) ?_
 exact ⟨rfl, (Mv.pick (S1.trans S3) [] rfl)⟩
theorem laws_eqCallS_c {w : World} {H : Nat → Prop} {a : List CallD} {a_a : Option Addr} {a_n a_c : Nat} {b : List CallD} {b_a : Option Addr} {b_n b_c : Nat} (v_a : Rd 6 encK okK H w (.slice a_a a_n a_c) a) (v_b : Rd 6 encK okK H w (.slice b_a b_n b_c) b) (p0 : a = b) :
    Calls Try.prog 96 #[.slice a_a a_n a_c, .slice b_a b_n b_c] w fun e w' => e = .returned (.bool true) ∧ Mv [] w [] w' := by
 have V_v_a : Rd 6 encK okK (V H w []) w (.slice a_a a_n a_c) a := Rd.start v_a (fun _ _ => fps_nil _)
 obtain ⟨ln_a, le_a, mx_a, ni_a⟩ := Rd.inv v_a
 have Q0 : Rd 6 encK okK (V H w []) w (.slice b_a b_n b_c) b := Rd.start v_b (fun _ _ => fps_nil _)
 obtain ⟨ln_b, le_b, mx_b, ni_b⟩ := Rd.inv v_b
 refine calls_enter 27 Try.func96 rfl Try.ntmps96 (Nat.le_of_ble_eq_true rfl) (fun _ F0i => ?_)
 have F0 : Fr 27 [(0, .slice a_a a_n a_c), (1, .slice b_a b_n b_c)] _ := F0i
 clear F0i
 refine wp_seq ?_
 have hab : a_n = b_n := by rw [ln_a, ln_b, p0]
 refine wp_region_lit (l_op (f_val F0 rfl rfl (r_assign rfl rfl) rfl fun _ F1 => ?_))
 refine s_end (x_normal (wp_seq (wp_seq (wp_region_lit (l_op (f_mv F1 rfl rfl rfl rfl rfl fun _ F2 => ?_))))))
 refine l_op (f_val F2 rfl rfl (r_len Try.underlying66 rfl (F2.ev 6 rfl)) rfl fun _ F3 => ?_)
 refine l_op (f_mv F3 rfl rfl rfl rfl rfl fun _ F4 => ?_)
 refine l_op (f_val F4 rfl rfl (r_len Try.underlying66 rfl (F4.ev 8 rfl)) rfl fun _ F5 => ?_)
 refine l_op (f_val F5 rfl rfl (r_cmp (b := decide (a_n ≠ b_n)) (.inr (.inl rfl)) rfl (F5.ev 7 rfl) (F5.ev 9 rfl) (dec_of (by omega))) rfl fun _ F6 => ?_)
 rw [show (decide (a_n ≠ b_n)) = false from decide_eq_false (fun h => h hab)] at F6
 refine s_end (x_normal (wp_cond_false (F6.ev 10 rfl) (wp_skip (x_normal (wp_seq (wp_seq (wp_region_lit (l_op (f_val F6 rfl rfl (r_assign rfl rfl) rfl fun _ F7 => ?_)))))))))
 refine s_end (x_normal (wp_block ?_))
 refine x_loop (fun (k : Nat) aZ wZ => Fr 27 [(5, .int .i64 ((k : Nat) : Int)), (0, .slice a_a a_n a_c), (1, .slice b_a b_n b_c)] aZ ∧ Mv [] w [] wZ ∧ (k ≤ a_n)) (fun (k : Nat) => a_n - k) (0) ?_ ?_
 · exact ⟨F7.cut rfl, (Mv.refl (At.nil w)), by omega⟩
 · rintro k a8 w8 ⟨F8, S8, hk_0⟩
   refine wp_seq (wp_seq (wp_region_lit (l_op (f_mv F8 rfl rfl rfl rfl rfl fun _ F9 => ?_))))
   refine l_op (f_mv F9 rfl rfl rfl rfl rfl fun _ F10 => ?_)
   refine l_op (f_val F10 rfl rfl (r_len Try.underlying66 rfl (F10.ev 12 rfl)) rfl fun _ F11 => ?_)
   refine l_op (f_val F11 rfl rfl (r_cmp (b := decide (k < a_n)) (.inr (.inr (.inl rfl))) rfl (F11.ev 11 rfl) (F11.ev 13 rfl) (dec_of (by omega))) rfl fun _ F12 => ?_)
   refine s_end (x_normal (x_cond (p := k < a_n) (F12.ev 14 rfl) (fun h13 => ?_) (fun h13 => ?_)))
   · skip
     refine wp_skip (x_normal (wp_seq (wp_block (wp_seq ?_))))
     obtain ⟨x1, hx1, okx1⟩ := Rd.elem (Rd.mv (Nat.succ_pos _) V_v_a S8) k (by first | assumption | omega)
     obtain ⟨x2, hx2, okx2⟩ := Rd.elem (Rd.mv (Nat.succ_pos _) Q0 S8) k (by first | assumption | omega)
     refine x_draw (fun aZ wZ => Fr 27 [(0, .slice a_a a_n a_c), (1, .slice b_a b_n b_c), (5, .int .i64 ((k : Nat) : Int)), (26, .bool false)] aZ ∧ Mv [] w8 [] wZ) [] mixed S8.at' (listed := #[false, false, false, false, false, false, false, false, false, false]) rfl (fun w15 S15 => ?_) [] rfl ?_
     · skip
       refine g_take F12 rfl (i := 0) (listed' := #[true, false, false, false, false, false, false, false, false, false]) rfl (by kernel_rfl) (by kernel_rfl) (by kernel_rfl) (fun _ _ _ h => h) (Sd.of (Mv.refl S15.at') [] rfl) rfl rfl rfl rfl (fun _ hz => (r_move rfl (F12.ev 0 rfl))) fun _ F16 => ?_
       refine g_take F16 rfl (i := 1) (listed' := #[true, true, false, false, false, false, false, false, false, false]) rfl (by kernel_rfl) (by kernel_rfl) (by kernel_rfl) (fun _ _ _ h => h) (Sd.of (Mv.refl S15.at') [] rfl) rfl rfl rfl rfl (fun _ hz => (r_move rfl (F16.ev 5 rfl))) fun _ F17 => ?_
       obtain ⟨B18, O18, y18, ad18, hy18, oky18, ln18, cl18⟩ := Rd.atK (Nat.succ_pos _) (Rd.mv (Nat.succ_pos _) V_v_a (S8.trans S15)) k (by first | assumption | omega)
       clear ln18
       obtain rfl := Option.some.inj (hx1.symm.trans hy18)
       clear hy18 oky18
       refine g_take F17 rfl (i := 2) (listed' := #[true, true, true, false, false, false, false, false, false, false]) rfl (by kernel_rfl) (by kernel_rfl) (by kernel_rfl) (fun _ _ _ h => h) (Sd.of (Mv.refl S15.at') [] rfl) rfl rfl rfl rfl (fun _ hz => (r_indexAddr (i := k) ET_66 rfl ((F17.ev 17 rfl).trans (by rw [ad18])) (F17.ev 18 rfl) (by omega) (by first | assumption | omega))) fun _ F19 => ?_
       refine g_take (v := .agg #[.int .i64 x1.kind, .string x1.name, .string x1.to_, .int .i64 x1.a, .int .i64 x1.b, .string x1.text]) F19 rfl (i := 3) (listed' := #[true, true, true, true, false, false, false, false, false, false]) rfl (by kernel_rfl) (by kernel_rfl) (by kernel_rfl) (fun _ _ _ h => h) (Sd.of (Mv.refl S15.at') [] rfl) rfl rfl rfl rfl (fun _ hz => (r_load (cs := [.int .i64 x1.kind, .string x1.name, .string x1.to_, .int .i64 x1.a, .int .i64 x1.b, .string x1.text]) TI_148 rfl (F19.ev 19 rfl) rfl (fun h => nomatch h) (elem_sub (f := 0) (cl18 _ hz.kp) [.int .i64 x1.kind, .string x1.name, .string x1.to_, .int .i64 x1.a, .int .i64 x1.b, .string x1.text] rfl))) fun _ F20 => ?_
       refine g_take F20 rfl (i := 4) (listed' := #[true, true, true, true, true, false, false, false, false, false]) rfl (by kernel_rfl) (by kernel_rfl) (by kernel_rfl) (fun _ _ _ h => h) (Sd.of (Mv.refl S15.at') [] rfl) rfl rfl rfl rfl (fun _ hz => (r_move rfl (F20.ev 1 rfl))) fun _ F21 => ?_
       refine g_take F21 rfl (i := 5) (listed' := #[true, true, true, true, true, true, false, false, false, false]) rfl (by kernel_rfl) (by kernel_rfl) (by kernel_rfl) (fun _ _ _ h => h) (Sd.of (Mv.refl S15.at') [] rfl) rfl rfl rfl rfl (fun _ hz => (r_move rfl (F21.ev 5 rfl))) fun _ F22 => ?_
       obtain ⟨B23, O23, y23, ad23, hy23, oky23, ln23, cl23⟩ := Rd.atK (Nat.succ_pos _) (Rd.mv (Nat.succ_pos _) Q0 (S8.trans S15)) k (by first | assumption | omega)
       clear ln23
       obtain rfl := Option.some.inj (hx2.symm.trans hy23)
       clear hy23 oky23
       refine g_take F22 rfl (i := 6) (listed' := #[true, true, true, true, true, true, true, false, false, false]) rfl (by kernel_rfl) (by kernel_rfl) (by kernel_rfl) (fun _ _ _ h => h) (Sd.of (Mv.refl S15.at') [] rfl) rfl rfl rfl rfl (fun _ hz => (r_indexAddr (i := k) ET_66 rfl ((F22.ev 21 rfl).trans (by rw [ad23])) (F22.ev 22 rfl) (by omega) (by first | assumption | omega))) fun _ F24 => ?_
       refine g_take (v := .agg #[.int .i64 x2.kind, .string x2.name, .string x2.to_, .int .i64 x2.a, .int .i64 x2.b, .string x2.text]) F24 rfl (i := 7) (listed' := #[true, true, true, true, true, true, true, true, false, false]) rfl (by kernel_rfl) (by kernel_rfl) (by kernel_rfl) (fun _ _ _ h => h) (Sd.of (Mv.refl S15.at') [] rfl) rfl rfl rfl rfl (fun _ hz => (r_load (cs := [.int .i64 x2.kind, .string x2.name, .string x2.to_, .int .i64 x2.a, .int .i64 x2.b, .string x2.text]) TI_148 rfl (F24.ev 23 rfl) rfl (fun h => nomatch h) (elem_sub (f := 0) (cl23 _ hz.kp) [.int .i64 x2.kind, .string x2.name, .string x2.to_, .int .i64 x2.a, .int .i64 x2.b, .string x2.text] rfl))) fun _ F25 => ?_
       refine d_one (i := 8) (listed' := #[true, true, true, true, true, true, true, true, true, false]) rfl (by kernel_rfl) rfl rfl ?_
       refine f_call F25 CF_138 rfl rfl rfl rfl (lc (F25.ev 20 rfl) (lc (F25.ev 24 rfl) rfl)) (laws_eqCall_c (H := fun _ => True) (a := x1) (b := x2) okx1.1 okx1.2.1 okx1.2.2.1 okx1.2.2.2.1 okx1.2.2.2.2.1 okx1.2.2.2.2.2 okx2.1 okx2.2.1 okx2.2.2.1 okx2.2.2.2.1 okx2.2.2.2.2.1 okx2.2.2.2.2.2 (by exact el_eq p0 hx1 hx2)) ?_
       rintro _ w26 ⟨rfl, m26⟩
       refine ⟨_, rfl, fun _ F27 => ?_⟩
       have S26 := At.frame0 S15.at' m26
       clear m26
       refine ⟨Sd.of S26 [] rfl, ?_⟩
       refine g_take F27 rfl (i := 9) (listed' := #[true, true, true, true, true, true, true, true, true, true]) rfl (by kernel_rfl) (by kernel_rfl) (by kernel_rfl) (fun _ _ _ h => h) (Sd.of S26 [] rfl) rfl rfl rfl rfl (fun _ hz => (r_not rfl (F27.ev 25 rfl))) fun _ F28 => ?_
       refine wpAnyH_done (by kernel_rfl) (x_normal ?_) _
       exact ⟨F28.cut rfl, ((S15.trans S26).pick [] rfl)⟩
     · rintro a29 w29 ⟨F29, S29⟩
       refine x_normal (wp_cond_false (F29.ev 26 rfl) (wp_skip (x_block_normal (x_normal (wp_region_lit (l_op (f_mv F29 rfl rfl rfl rfl rfl fun _ F30 => ?_)))))))
       refine l_op (f_val F30 rfl rfl (r_add (z := ((k + 1 : Nat) : Int)) rfl (F30.ev 15 rfl) rfl (by first | rfl | omega) ⟨by first | omega | (unfold i64ok at *; omega), by first | omega | (unfold i64ok at *; omega)⟩) rfl fun _ F31 => ?_)
       refine l_op (f_as F31 rfl rfl rfl rfl rfl fun _ F32 => ?_)
       refine s_end ?_
       refine x_normal ⟨k + 1, by omega, F32.cut rfl, ((S8.trans S29).pick [] rfl), by omega⟩
   · skip
     refine wp_exit (x_then_exit (x_then_exit (x_block_here (x_normal (wp_seq (wp_region_lit (l_op (f_val F12 rfl rfl (r_assign rfl rfl) rfl fun _ F33 => ?_))))))))
     refine s_end (x_normal (wp_ret ?_))
     refine x_done (v := .bool true) F33 (results_1 Try.results96 (.tmp (F33.ev 4 rfl))) ?_
     exact ⟨rfl, (Mv.pick S8 [] rfl)⟩
theorem laws_eqAnswerS_c {w : World} {H : Nat → Prop} {a : List AnsD} {a_a : Option Addr} {a_n a_c : Nat} {b : List AnsD} {b_a : Option Addr} {b_n b_c : Nat} (v_a : Rd 3 encR okR H w (.slice a_a a_n a_c) a) (v_b : Rd 3 encR okR H w (.slice b_a b_n b_c) b) (p0 : a = b) :
    Calls Try.prog 97 #[.slice a_a a_n a_c, .slice b_a b_n b_c] w fun e w' => e = .returned (.bool true) ∧ Mv [] w [] w' := by
 have V_v_a : Rd 3 encR okR (V H w []) w (.slice a_a a_n a_c) a := Rd.start v_a (fun _ _ => fps_nil _)
 obtain ⟨ln_a, le_a, mx_a, ni_a⟩ := Rd.inv v_a
 have Q0 : Rd 3 encR okR (V H w []) w (.slice b_a b_n b_c) b := Rd.start v_b (fun _ _ => fps_nil _)
 obtain ⟨ln_b, le_b, mx_b, ni_b⟩ := Rd.inv v_b
 refine calls_enter 27 Try.func97 rfl Try.ntmps97 (Nat.le_of_ble_eq_true rfl) (fun _ F0i => ?_)
 have F0 : Fr 27 [(0, .slice a_a a_n a_c), (1, .slice b_a b_n b_c)] _ := F0i
 clear F0i
 refine wp_seq ?_
 have hab : a_n = b_n := by rw [ln_a, ln_b, p0]
 refine wp_region_lit (l_op (f_val F0 rfl rfl (r_assign rfl rfl) rfl fun _ F1 => ?_))
 refine s_end (x_normal (wp_seq (wp_seq (wp_region_lit (l_op (f_mv F1 rfl rfl rfl rfl rfl fun _ F2 => ?_))))))
 refine l_op (f_val F2 rfl rfl (r_len Try.underlying67 rfl (F2.ev 6 rfl)) rfl fun _ F3 => ?_)
 refine l_op (f_mv F3 rfl rfl rfl rfl rfl fun _ F4 => ?_)
 refine l_op (f_val F4 rfl rfl (r_len Try.underlying67 rfl (F4.ev 8 rfl)) rfl fun _ F5 => ?_)
 refine l_op (f_val F5 rfl rfl (r_cmp (b := decide (a_n ≠ b_n)) (.inr (.inl rfl)) rfl (F5.ev 7 rfl) (F5.ev 9 rfl) (dec_of (by omega))) rfl fun _ F6 => ?_)
 rw [show (decide (a_n ≠ b_n)) = false from decide_eq_false (fun h => h hab)] at F6
 refine s_end (x_normal (wp_cond_false (F6.ev 10 rfl) (wp_skip (x_normal (wp_seq (wp_seq (wp_region_lit (l_op (f_val F6 rfl rfl (r_assign rfl rfl) rfl fun _ F7 => ?_)))))))))
 refine s_end (x_normal (wp_block ?_))
 refine x_loop (fun (k : Nat) aZ wZ => Fr 27 [(5, .int .i64 ((k : Nat) : Int)), (0, .slice a_a a_n a_c), (1, .slice b_a b_n b_c)] aZ ∧ Mv [] w [] wZ ∧ (k ≤ a_n)) (fun (k : Nat) => a_n - k) (0) ?_ ?_
 · exact ⟨F7.cut rfl, (Mv.refl (At.nil w)), by omega⟩
 · rintro k a8 w8 ⟨F8, S8, hk_0⟩
   refine wp_seq (wp_seq (wp_region_lit (l_op (f_mv F8 rfl rfl rfl rfl rfl fun _ F9 => ?_))))
   refine l_op (f_mv F9 rfl rfl rfl rfl rfl fun _ F10 => ?_)
   refine l_op (f_val F10 rfl rfl (r_len Try.underlying67 rfl (F10.ev 12 rfl)) rfl fun _ F11 => ?_)
   refine l_op (f_val F11 rfl rfl (r_cmp (b := decide (k < a_n)) (.inr (.inr (.inl rfl))) rfl (F11.ev 11 rfl) (F11.ev 13 rfl) (dec_of (by omega))) rfl fun _ F12 => ?_)
   refine s_end (x_normal (x_cond (p := k < a_n) (F12.ev 14 rfl) (fun h13 => ?_) (fun h13 => ?_)))
   · skip
     refine wp_skip (x_normal (wp_seq (wp_block (wp_seq ?_))))
     obtain ⟨x1, hx1, okx1⟩ := Rd.elem (Rd.mv (Nat.succ_pos _) V_v_a S8) k (by first | assumption | omega)
     obtain ⟨x2, hx2, okx2⟩ := Rd.elem (Rd.mv (Nat.succ_pos _) Q0 S8) k (by first | assumption | omega)
     refine x_draw (fun aZ wZ => Fr 27 [(0, .slice a_a a_n a_c), (1, .slice b_a b_n b_c), (5, .int .i64 ((k : Nat) : Int)), (26, .bool false)] aZ ∧ Mv [] w8 [] wZ) [] mixed S8.at' (listed := #[false, false, false, false, false, false, false, false, false, false]) rfl (fun w15 S15 => ?_) [] rfl ?_
     · skip
       refine g_take F12 rfl (i := 0) (listed' := #[true, false, false, false, false, false, false, false, false, false]) rfl (by kernel_rfl) (by kernel_rfl) (by kernel_rfl) (fun _ _ _ h => h) (Sd.of (Mv.refl S15.at') [] rfl) rfl rfl rfl rfl (fun _ hz => (r_move rfl (F12.ev 0 rfl))) fun _ F16 => ?_
       refine g_take F16 rfl (i := 1) (listed' := #[true, true, false, false, false, false, false, false, false, false]) rfl (by kernel_rfl) (by kernel_rfl) (by kernel_rfl) (fun _ _ _ h => h) (Sd.of (Mv.refl S15.at') [] rfl) rfl rfl rfl rfl (fun _ hz => (r_move rfl (F16.ev 5 rfl))) fun _ F17 => ?_
       obtain ⟨B18, O18, y18, ad18, hy18, oky18, ln18, cl18⟩ := Rd.atK (Nat.succ_pos _) (Rd.mv (Nat.succ_pos _) V_v_a (S8.trans S15)) k (by first | assumption | omega)
       clear ln18
       obtain rfl := Option.some.inj (hx1.symm.trans hy18)
       clear hy18 oky18
       refine g_take F17 rfl (i := 2) (listed' := #[true, true, true, false, false, false, false, false, false, false]) rfl (by kernel_rfl) (by kernel_rfl) (by kernel_rfl) (fun _ _ _ h => h) (Sd.of (Mv.refl S15.at') [] rfl) rfl rfl rfl rfl (fun _ hz => (r_indexAddr (i := k) ET_67 rfl ((F17.ev 17 rfl).trans (by rw [ad18])) (F17.ev 18 rfl) (by omega) (by first | assumption | omega))) fun _ F19 => ?_
       refine g_take (v := .agg #[.int .i64 x1.code, .int .i64 x1.n, .string x1.text]) F19 rfl (i := 3) (listed' := #[true, true, true, true, false, false, false, false, false, false]) rfl (by kernel_rfl) (by kernel_rfl) (by kernel_rfl) (fun _ _ _ h => h) (Sd.of (Mv.refl S15.at') [] rfl) rfl rfl rfl rfl (fun _ hz => (r_load (cs := [.int .i64 x1.code, .int .i64 x1.n, .string x1.text]) TI_151 rfl (F19.ev 19 rfl) rfl (fun h => nomatch h) (elem_sub (f := 0) (cl18 _ hz.kp) [.int .i64 x1.code, .int .i64 x1.n, .string x1.text] rfl))) fun _ F20 => ?_
       refine g_take F20 rfl (i := 4) (listed' := #[true, true, true, true, true, false, false, false, false, false]) rfl (by kernel_rfl) (by kernel_rfl) (by kernel_rfl) (fun _ _ _ h => h) (Sd.of (Mv.refl S15.at') [] rfl) rfl rfl rfl rfl (fun _ hz => (r_move rfl (F20.ev 1 rfl))) fun _ F21 => ?_
       refine g_take F21 rfl (i := 5) (listed' := #[true, true, true, true, true, true, false, false, false, false]) rfl (by kernel_rfl) (by kernel_rfl) (by kernel_rfl) (fun _ _ _ h => h) (Sd.of (Mv.refl S15.at') [] rfl) rfl rfl rfl rfl (fun _ hz => (r_move rfl (F21.ev 5 rfl))) fun _ F22 => ?_
       obtain ⟨B23, O23, y23, ad23, hy23, oky23, ln23, cl23⟩ := Rd.atK (Nat.succ_pos _) (Rd.mv (Nat.succ_pos _) Q0 (S8.trans S15)) k (by first | assumption | omega)
       clear ln23
       obtain rfl := Option.some.inj (hx2.symm.trans hy23)
       clear hy23 oky23
       refine g_take F22 rfl (i := 6) (listed' := #[true, true, true, true, true, true, true, false, false, false]) rfl (by kernel_rfl) (by kernel_rfl) (by kernel_rfl) (fun _ _ _ h => h) (Sd.of (Mv.refl S15.at') [] rfl) rfl rfl rfl rfl (fun _ hz => (r_indexAddr (i := k) ET_67 rfl ((F22.ev 21 rfl).trans (by rw [ad23])) (F22.ev 22 rfl) (by omega) (by first | assumption | omega))) fun _ F24 => ?_
       refine g_take (v := .agg #[.int .i64 x2.code, .int .i64 x2.n, .string x2.text]) F24 rfl (i := 7) (listed' := #[true, true, true, true, true, true, true, true, false, false]) rfl (by kernel_rfl) (by kernel_rfl) (by kernel_rfl) (fun _ _ _ h => h) (Sd.of (Mv.refl S15.at') [] rfl) rfl rfl rfl rfl (fun _ hz => (r_load (cs := [.int .i64 x2.code, .int .i64 x2.n, .string x2.text]) TI_151 rfl (F24.ev 23 rfl) rfl (fun h => nomatch h) (elem_sub (f := 0) (cl23 _ hz.kp) [.int .i64 x2.code, .int .i64 x2.n, .string x2.text] rfl))) fun _ F25 => ?_
       refine d_one (i := 8) (listed' := #[true, true, true, true, true, true, true, true, true, false]) rfl (by kernel_rfl) rfl rfl ?_
       refine f_call F25 CF_139 rfl rfl rfl rfl (lc (F25.ev 20 rfl) (lc (F25.ev 24 rfl) rfl)) (laws_eqAnswer_c (H := fun _ => True) (a := x1) (b := x2) okx1.1 okx1.2.1 okx1.2.2 okx2.1 okx2.2.1 okx2.2.2 (by exact el_eq p0 hx1 hx2)) ?_
       rintro _ w26 ⟨rfl, m26⟩
       refine ⟨_, rfl, fun _ F27 => ?_⟩
       have S26 := At.frame0 S15.at' m26
       clear m26
       refine ⟨Sd.of S26 [] rfl, ?_⟩
       refine g_take F27 rfl (i := 9) (listed' := #[true, true, true, true, true, true, true, true, true, true]) rfl (by kernel_rfl) (by kernel_rfl) (by kernel_rfl) (fun _ _ _ h => h) (Sd.of S26 [] rfl) rfl rfl rfl rfl (fun _ hz => (r_not rfl (F27.ev 25 rfl))) fun _ F28 => ?_
       refine wpAnyH_done (by kernel_rfl) (x_normal ?_) _
       exact ⟨F28.cut rfl, ((S15.trans S26).pick [] rfl)⟩
     · rintro a29 w29 ⟨F29, S29⟩
       refine x_normal (wp_cond_false (F29.ev 26 rfl) (wp_skip (x_block_normal (x_normal (wp_region_lit (l_op (f_mv F29 rfl rfl rfl rfl rfl fun _ F30 => ?_)))))))
       refine l_op (f_val F30 rfl rfl (r_add (z := ((k + 1 : Nat) : Int)) rfl (F30.ev 15 rfl) rfl (by first | rfl | omega) ⟨by first | omega | (unfold i64ok at *; omega), by first | omega | (unfold i64ok at *; omega)⟩) rfl fun _ F31 => ?_)
       refine l_op (f_as F31 rfl rfl rfl rfl rfl fun _ F32 => ?_)
       refine s_end ?_
       refine x_normal ⟨k + 1, by omega, F32.cut rfl, ((S8.trans S29).pick [] rfl), by omega⟩
   · skip
     refine wp_exit (x_then_exit (x_then_exit (x_block_here (x_normal (wp_seq (wp_region_lit (l_op (f_val F12 rfl rfl (r_assign rfl rfl) rfl fun _ F33 => ?_))))))))
     refine s_end (x_normal (wp_ret ?_))
     refine x_done (v := .bool true) F33 (results_1 Try.results97 (.tmp (F33.ev 4 rfl))) ?_
     exact ⟨rfl, (Mv.pick S8 [] rfl)⟩
theorem laws_eqIntS_c {w : World} {H : Nat → Prop} {a : List Int} {a_a : Option Addr} {a_n a_c : Nat} {b : List Int} {b_a : Option Addr} {b_n b_c : Nat} (v_a : Rd 1 encI okI H w (.slice a_a a_n a_c) a) (v_b : Rd 1 encI okI H w (.slice b_a b_n b_c) b) (p0 : a = b) :
    Calls Try.prog 36 #[.slice a_a a_n a_c, .slice b_a b_n b_c] w fun e w' => e = .returned (.bool true) ∧ Mv [] w [] w' := by
 have V_v_a : Rd 1 encI okI (V H w []) w (.slice a_a a_n a_c) a := Rd.start v_a (fun _ _ => fps_nil _)
 obtain ⟨ln_a, le_a, mx_a, ni_a⟩ := Rd.inv v_a
 have Q0 : Rd 1 encI okI (V H w []) w (.slice b_a b_n b_c) b := Rd.start v_b (fun _ _ => fps_nil _)
 obtain ⟨ln_b, le_b, mx_b, ni_b⟩ := Rd.inv v_b
 refine calls_enter 26 Try.func36 rfl Try.ntmps36 (Nat.le_of_ble_eq_true rfl) (fun _ F0i => ?_)
 have F0 : Fr 26 [(0, .slice a_a a_n a_c), (1, .slice b_a b_n b_c)] _ := F0i
 clear F0i
 refine wp_seq ?_
 have hab : a_n = b_n := by rw [ln_a, ln_b, p0]
 refine wp_region_lit (l_op (f_val F0 rfl rfl (r_assign rfl rfl) rfl fun _ F1 => ?_))
 refine s_end (x_normal (wp_seq (wp_seq (wp_region_lit (l_op (f_mv F1 rfl rfl rfl rfl rfl fun _ F2 => ?_))))))
 refine l_op (f_val F2 rfl rfl (r_len Try.underlying53 rfl (F2.ev 6 rfl)) rfl fun _ F3 => ?_)
 refine l_op (f_mv F3 rfl rfl rfl rfl rfl fun _ F4 => ?_)
 refine l_op (f_val F4 rfl rfl (r_len Try.underlying53 rfl (F4.ev 8 rfl)) rfl fun _ F5 => ?_)
 refine l_op (f_val F5 rfl rfl (r_cmp (b := decide (a_n ≠ b_n)) (.inr (.inl rfl)) rfl (F5.ev 7 rfl) (F5.ev 9 rfl) (dec_of (by omega))) rfl fun _ F6 => ?_)
 rw [show (decide (a_n ≠ b_n)) = false from decide_eq_false (fun h => h hab)] at F6
 refine s_end (x_normal (wp_cond_false (F6.ev 10 rfl) (wp_skip (x_normal (wp_seq (wp_seq (wp_region_lit (l_op (f_val F6 rfl rfl (r_assign rfl rfl) rfl fun _ F7 => ?_)))))))))
 refine s_end (x_normal (wp_block ?_))
 refine x_loop (fun (k : Nat) aZ wZ => Fr 26 [(5, .int .i64 ((k : Nat) : Int)), (0, .slice a_a a_n a_c), (1, .slice b_a b_n b_c)] aZ ∧ Mv [] w [] wZ ∧ (k ≤ a_n)) (fun (k : Nat) => a_n - k) (0) ?_ ?_
 · exact ⟨F7.cut rfl, (Mv.refl (At.nil w)), by omega⟩
 · rintro k a8 w8 ⟨F8, S8, hk_0⟩
   refine wp_seq (wp_seq (wp_region_lit (l_op (f_mv F8 rfl rfl rfl rfl rfl fun _ F9 => ?_))))
   refine l_op (f_mv F9 rfl rfl rfl rfl rfl fun _ F10 => ?_)
   refine l_op (f_val F10 rfl rfl (r_len Try.underlying53 rfl (F10.ev 12 rfl)) rfl fun _ F11 => ?_)
   refine l_op (f_val F11 rfl rfl (r_cmp (b := decide (k < a_n)) (.inr (.inr (.inl rfl))) rfl (F11.ev 11 rfl) (F11.ev 13 rfl) (dec_of (by omega))) rfl fun _ F12 => ?_)
   refine s_end (x_normal (x_cond (p := k < a_n) (F12.ev 14 rfl) (fun h13 => ?_) (fun h13 => ?_)))
   · skip
     refine wp_skip (x_normal (wp_seq (wp_block (wp_seq ?_))))
     obtain ⟨x1, hx1, okx1⟩ := Rd.elem (Rd.mv (Nat.succ_pos _) V_v_a S8) k (by first | assumption | omega)
     obtain ⟨x2, hx2, okx2⟩ := Rd.elem (Rd.mv (Nat.succ_pos _) Q0 S8) k (by first | assumption | omega)
     refine x_draw (fun aZ wZ => Fr 26 [(0, .slice a_a a_n a_c), (1, .slice b_a b_n b_c), (5, .int .i64 ((k : Nat) : Int)), (25, .bool false)] aZ ∧ Mv [] w8 [] wZ) [] mixed S8.at' (listed := #[false, false, false, false, false, false, false, false, false]) rfl (fun w15 S15 => ?_) [] rfl ?_
     · skip
       refine g_take F12 rfl (i := 0) (listed' := #[true, false, false, false, false, false, false, false, false]) rfl (by kernel_rfl) (by kernel_rfl) (by kernel_rfl) (fun _ _ _ h => h) (Sd.of (Mv.refl S15.at') [] rfl) rfl rfl rfl rfl (fun _ hz => (r_move rfl (F12.ev 0 rfl))) fun _ F16 => ?_
       refine g_take F16 rfl (i := 1) (listed' := #[true, true, false, false, false, false, false, false, false]) rfl (by kernel_rfl) (by kernel_rfl) (by kernel_rfl) (fun _ _ _ h => h) (Sd.of (Mv.refl S15.at') [] rfl) rfl rfl rfl rfl (fun _ hz => (r_move rfl (F16.ev 5 rfl))) fun _ F17 => ?_
       obtain ⟨B18, O18, y18, ad18, hy18, oky18, ln18, cl18⟩ := Rd.atK (Nat.succ_pos _) (Rd.mv (Nat.succ_pos _) V_v_a (S8.trans S15)) k (by first | assumption | omega)
       clear ln18
       obtain rfl := Option.some.inj (hx1.symm.trans hy18)
       clear hy18 oky18
       refine g_take F17 rfl (i := 2) (listed' := #[true, true, true, false, false, false, false, false, false]) rfl (by kernel_rfl) (by kernel_rfl) (by kernel_rfl) (fun _ _ _ h => h) (Sd.of (Mv.refl S15.at') [] rfl) rfl rfl rfl rfl (fun _ hz => (r_indexAddr (i := k) ET_53 rfl ((F17.ev 17 rfl).trans (by rw [ad18])) (F17.ev 18 rfl) (by omega) (by first | assumption | omega))) fun _ F19 => ?_
       refine g_take (v := .int .i64 x1) F19 rfl (i := 3) (listed' := #[true, true, true, true, false, false, false, false, false]) rfl (by kernel_rfl) (by kernel_rfl) (by kernel_rfl) (fun _ _ _ h => h) (Sd.of (Mv.refl S15.at') [] rfl) rfl rfl rfl rfl (fun _ hz => (r_load (cs := [.int .i64 x1]) TI_3 rfl (F19.ev 19 rfl) rfl (fun _ => rfl) (elem_sub (f := 0) (cl18 _ hz.kp) [.int .i64 x1] rfl))) fun _ F20 => ?_
       refine g_take F20 rfl (i := 4) (listed' := #[true, true, true, true, true, false, false, false, false]) rfl (by kernel_rfl) (by kernel_rfl) (by kernel_rfl) (fun _ _ _ h => h) (Sd.of (Mv.refl S15.at') [] rfl) rfl rfl rfl rfl (fun _ hz => (r_move rfl (F20.ev 1 rfl))) fun _ F21 => ?_
       refine g_take F21 rfl (i := 5) (listed' := #[true, true, true, true, true, true, false, false, false]) rfl (by kernel_rfl) (by kernel_rfl) (by kernel_rfl) (fun _ _ _ h => h) (Sd.of (Mv.refl S15.at') [] rfl) rfl rfl rfl rfl (fun _ hz => (r_move rfl (F21.ev 5 rfl))) fun _ F22 => ?_
       obtain ⟨B23, O23, y23, ad23, hy23, oky23, ln23, cl23⟩ := Rd.atK (Nat.succ_pos _) (Rd.mv (Nat.succ_pos _) Q0 (S8.trans S15)) k (by first | assumption | omega)
       clear ln23
       obtain rfl := Option.some.inj (hx2.symm.trans hy23)
       clear hy23 oky23
       refine g_take F22 rfl (i := 6) (listed' := #[true, true, true, true, true, true, true, false, false]) rfl (by kernel_rfl) (by kernel_rfl) (by kernel_rfl) (fun _ _ _ h => h) (Sd.of (Mv.refl S15.at') [] rfl) rfl rfl rfl rfl (fun _ hz => (r_indexAddr (i := k) ET_53 rfl ((F22.ev 21 rfl).trans (by rw [ad23])) (F22.ev 22 rfl) (by omega) (by first | assumption | omega))) fun _ F24 => ?_
       refine g_take (v := .int .i64 x2) F24 rfl (i := 7) (listed' := #[true, true, true, true, true, true, true, true, false]) rfl (by kernel_rfl) (by kernel_rfl) (by kernel_rfl) (fun _ _ _ h => h) (Sd.of (Mv.refl S15.at') [] rfl) rfl rfl rfl rfl (fun _ hz => (r_load (cs := [.int .i64 x2]) TI_3 rfl (F24.ev 23 rfl) rfl (fun _ => rfl) (elem_sub (f := 0) (cl23 _ hz.kp) [.int .i64 x2] rfl))) fun _ F25 => ?_
       refine g_take F25 rfl (i := 8) (listed' := #[true, true, true, true, true, true, true, true, true]) rfl (by kernel_rfl) (by kernel_rfl) (by kernel_rfl) (fun _ _ _ h => h) (Sd.of (Mv.refl S15.at') [] rfl) rfl rfl rfl rfl (fun _ hz => (r_cmp (b := decide (x1 ≠ x2)) (.inr (.inl rfl)) rfl (F25.ev 20 rfl) (F25.ev 24 rfl) (dec_of (by omega)))) fun _ F26 => ?_
       rw [show (decide (x1 ≠ x2)) = false from decide_eq_false (fun h => h (el_eq p0 hx1 hx2))] at F26
       refine wpAnyH_done (by kernel_rfl) (x_normal ?_) _
       exact ⟨F26.cut rfl, (S15.pick [] rfl)⟩
     · rintro a27 w27 ⟨F27, S27⟩
       refine x_normal (wp_cond_false (F27.ev 25 rfl) (wp_skip (x_block_normal (x_normal (wp_region_lit (l_op (f_mv F27 rfl rfl rfl rfl rfl fun _ F28 => ?_)))))))
       refine l_op (f_val F28 rfl rfl (r_add (z := ((k + 1 : Nat) : Int)) rfl (F28.ev 15 rfl) rfl (by first | rfl | omega) ⟨by first | omega | (unfold i64ok at *; omega), by first | omega | (unfold i64ok at *; omega)⟩) rfl fun _ F29 => ?_)
       refine l_op (f_as F29 rfl rfl rfl rfl rfl fun _ F30 => ?_)
       refine s_end ?_
       refine x_normal ⟨k + 1, by omega, F30.cut rfl, ((S8.trans S27).pick [] rfl), by omega⟩
   · skip
     refine wp_exit (x_then_exit (x_then_exit (x_block_here (x_normal (wp_seq (wp_region_lit (l_op (f_val F12 rfl rfl (r_assign rfl rfl) rfl fun _ F31 => ?_))))))))
     refine s_end (x_normal (wp_ret ?_))
     refine x_done (v := .bool true) F31 (results_1 Try.results36 (.tmp (F31.ev 4 rfl))) ?_
     exact ⟨rfl, (Mv.pick S8 [] rfl)⟩
theorem laws_markCallS_c {w : World} {H : Nat → Prop} {a : List CallD} {a_a : Option Addr} {a_n a_c : Nat} {k : Nat} (h_k : i64ok (k : Int)) (p0 : k + 6 * a.length ≤ 4611686018427387904) (hA : At w [ow 148 6 encK okK (.slice a_a a_n a_c) a]) :
    Calls Try.prog 79 #[.slice a_a a_n a_c, .int .i64 ((k : Nat) : Int)] w fun e w' => e = .returned (.int .i64 ((k + 6 * a.length : Nat) : Int)) ∧ Mv [ow 148 6 encK okK (.slice a_a a_n a_c) a] w [ow 148 6 encK okK (.slice a_a a_n a_c) (marksOf markK k a.length)] w' := by
 have uU : True := (fun _ _ _ => trivial) H h_k p0
 clear uU
 obtain ⟨lo0, lp0, lq0⟩ := At.ownInv hA ET_66.hk 0 rfl
 refine calls_enter 58 Try.func79 rfl Try.ntmps79 (Nat.le_of_ble_eq_true rfl) (fun _ F0i => ?_)
 have F0 : Fr 58 [(0, .slice a_a a_n a_c), (1, .int .i64 ((k : Nat) : Int))] _ := F0i
 clear F0i
 refine wp_seq (wp_region_lit (l_op (f_val F0 rfl rfl (r_assign rfl rfl) rfl fun _ F1 => ?_)))
 refine s_end (x_normal (wp_seq (wp_seq (wp_region_lit (l_op (f_val F1 rfl rfl (r_assign rfl rfl) rfl fun _ F2 => ?_))))))
 refine s_end (x_normal (wp_block ?_))
 refine x_loop (fun (j : Nat) aZ wZ => ∃ (kk : Nat), ∃ (D : List CallD), Fr 58 [(5, .int .i64 ((j : Nat) : Int)), (0, .slice a_a a_n a_c), (1, .int .i64 ((kk : Nat) : Int))] aZ ∧ Mv [ow 148 6 encK okK (.slice a_a a_n a_c) a] w [ow 148 6 encK okK (.slice a_a a_n a_c) D] wZ ∧ (j ≤ a_n) ∧ (kk = k + 6 * j) ∧ (D = upTo markK k j a)) (fun (j : Nat) => a_n - j) (0) ?_ ?_
 · exact ⟨k, a, F2.cut rfl, (Mv.refl hA), by omega, by omega, upTo_start ..⟩
 · rintro j a3 w3 ⟨kk, D, F3, S3, hj_0, hj_1, hj_2⟩
   refine wp_seq (wp_seq (wp_region_lit (l_op (f_mv F3 rfl rfl rfl rfl rfl fun _ F4 => ?_))))
   refine l_op (f_mv F4 rfl rfl rfl rfl rfl fun _ F5 => ?_)
   refine l_op (f_val F5 rfl rfl (r_len Try.underlying66 rfl (F5.ev 7 rfl)) rfl fun _ F6 => ?_)
   refine l_op (f_val F6 rfl rfl (r_cmp (b := decide (j < a_n)) (.inr (.inr (.inl rfl))) rfl (F6.ev 6 rfl) (F6.ev 8 rfl) (dec_of (by omega))) rfl fun _ F7 => ?_)
   refine s_end (x_normal (x_cond (p := j < a_n) (F7.ev 9 rfl) (fun h8 => ?_) (fun h8 => ?_)))
   · skip
     refine wp_skip (x_normal (wp_seq (wp_block (wp_seq (wp_region_lit (l_op (f_mv F7 rfl rfl rfl rfl rfl fun _ F9 => ?_)))))))
     refine l_op (f_mv F9 rfl rfl rfl rfl rfl fun _ F10 => ?_)
     refine l_op (f_mv F10 rfl rfl rfl rfl rfl fun _ F11 => ?_)
     obtain ⟨B12, x1, ad12, hx1, okx1, cl12⟩ := At.ownAt S3.at' ET_66.hk 0 rfl j (by first | assumption | omega)
     refine l_op (f_val F11 rfl rfl (r_indexAddr (i := j) ET_66 rfl ((F11.ev 12 rfl).trans (by rw [ad12])) (F11.ev 13 rfl) (by omega) (by first | assumption | omega)) rfl fun _ F13 => ?_)
     refine l_op (f_val F13 rfl rfl (r_field FI_148_0 rfl (F13.ev 15 rfl) rfl) rfl fun _ F14 => ?_)
     refine l_op (s_storeElF (off := 0) S3.at' 0 j x1 (⟨((kk : Nat) : Int), x1.name, x1.to_, x1.a, x1.b, x1.text⟩ : CallD) ET_66.hk ET_66.h1 TI_3 rfl ad12 rfl rfl rfl rfl (F14.ev 16 rfl) (F14.ev 14 rfl) rfl (by first | assumption | omega) hx1 rfl (by decide) (⟨(show i64ok ((kk : Nat) : Int) from by first | assumption | exact ⟨by omega, by omega⟩), okx1.2.1, okx1.2.2.1, okx1.2.2.2.1, okx1.2.2.2.2.1, okx1.2.2.2.2.2⟩) fun w15 S15 => ?_)
     obtain ⟨E16, x2, cE16, hx2, ex2⟩ : ∃ (zD : List CallD) (zZ : CallD), zD = D.set j zZ ∧ nth zD j = some zZ ∧ zZ = (⟨((kk : Nat) : Int), x1.name, x1.to_, x1.a, x1.b, x1.text⟩ : CallD) := ⟨_, _, rfl, nth_setSelf hx1, rfl⟩
     have S17 : Mv _ _ [ow 148 6 encK okK (.slice a_a a_n a_c) E16] _ := Mv.cast (Mv.refl S15.at') (by rw [cE16, ex2] <;> rfl)
     have okx2 : okK x2 := by rw [ex2]; exact ⟨(show i64ok ((kk : Nat) : Int) from by first | assumption | exact ⟨by omega, by omega⟩), okx1.2.1, okx1.2.2.1, okx1.2.2.2.1, okx1.2.2.2.2.1, okx1.2.2.2.2.2⟩
     refine s_end (x_normal (wp_seq (wp_region_lit (l_op (f_mv F14 rfl rfl rfl rfl rfl fun _ F18 => ?_)))))
     refine l_op (f_val F18 rfl rfl (r_add (z := ((kk + 1 : Nat) : Int)) rfl (F18.ev 17 rfl) rfl (by first | rfl | omega) ⟨by first | omega | (unfold i64ok at *; omega), by first | omega | (unfold i64ok at *; omega)⟩) rfl fun _ F19 => ?_)
     refine l_op (f_as F19 rfl rfl rfl rfl rfl fun _ F20 => ?_)
     refine s_end (x_normal (wp_seq (wp_region_lit (l_op (f_mv F20 rfl rfl rfl rfl rfl fun _ F21 => ?_)))))
     refine l_op (f_mv F21 rfl rfl rfl rfl rfl fun _ F22 => ?_)
     refine l_op (f_mv F22 rfl rfl rfl rfl rfl fun _ F23 => ?_)
     refine l_op (f_call F23 CF_127 rfl rfl rfl rfl (lc (F23.ev 21 rfl) rfl) (laws_markText_c (H := fun _ => True) (k := kk + 1) ⟨by omega, by first | omega | (unfold i64ok at *; omega)⟩) ?_)
     rintro _ w24 ⟨rfl, m24, Q0⟩
     refine ⟨_, rfl, fun _ F25 => ?_⟩
     have S24 := At.frame0 S17.at' m24
     clear m24
     obtain ⟨B26, y26, ad26, hy26, oky26, cl26⟩ := At.ownAt S24.at' ET_66.hk 0 rfl j (by first | assumption | omega)
     obtain rfl := Option.some.inj (hx2.symm.trans hy26)
     clear hy26 oky26
     refine l_op (f_val F25 rfl rfl (r_indexAddr (i := j) ET_66 rfl ((F25.ev 19 rfl).trans (by rw [ad26])) (F25.ev 20 rfl) (by omega) (by first | assumption | omega)) rfl fun _ F27 => ?_)
     refine l_op (f_val F27 rfl rfl (r_field FI_148_1 rfl (F27.ev 23 rfl) rfl) rfl fun _ F28 => ?_)
     refine l_op (s_storeElF (off := 1) S24.at' 0 j x2 (⟨x2.kind, (markT (kk + 1)), x2.to_, x2.a, x2.b, x2.text⟩ : CallD) ET_66.hk ET_66.h1 TI_9 rfl ad26 rfl rfl rfl rfl (F28.ev 24 rfl) (F28.ev 22 rfl) rfl (by first | assumption | omega) hx2 rfl (by decide) (⟨okx2.1, Q0, okx2.2.2.1, okx2.2.2.2.1, okx2.2.2.2.2.1, okx2.2.2.2.2.2⟩) fun w29 S29 => ?_)
     obtain ⟨E30, x3, cE30, hx3, ex3⟩ : ∃ (zD : List CallD) (zZ : CallD), zD = D.set j zZ ∧ nth zD j = some zZ ∧ zZ = (⟨x2.kind, (markT (kk + 1)), x2.to_, x2.a, x2.b, x2.text⟩ : CallD) := ⟨_, _, rfl, nth_setSelf hx1, rfl⟩
     have S31 : Mv _ _ [ow 148 6 encK okK (.slice a_a a_n a_c) E30] _ := Mv.cast (Mv.refl S29.at') (by rw [cE30, ex3, cE16, List.set_set] <;> rfl)
     have okx3 : okK x3 := by rw [ex3]; exact ⟨okx2.1, Q0, okx2.2.2.1, okx2.2.2.2.1, okx2.2.2.2.2.1, okx2.2.2.2.2.2⟩
     have T32 : Mv _ _ [ow 148 6 encK okK (.slice a_a a_n a_c) E30] _ := S31
     refine s_end (x_normal (wp_seq (wp_region_lit (l_op (f_mv F28 rfl rfl rfl rfl rfl fun _ F33 => ?_)))))
     refine l_op (f_val F33 rfl rfl (r_add (z := (((kk + 1) + 1 : Nat) : Int)) rfl (F33.ev 25 rfl) rfl (by first | rfl | omega) ⟨by first | omega | (unfold i64ok at *; omega), by first | omega | (unfold i64ok at *; omega)⟩) rfl fun _ F34 => ?_)
     refine l_op (f_as F34 rfl rfl rfl rfl rfl fun _ F35 => ?_)
     refine s_end (x_normal (wp_seq (wp_region_lit (l_op (f_mv F35 rfl rfl rfl rfl rfl fun _ F36 => ?_)))))
     refine l_op (f_mv F36 rfl rfl rfl rfl rfl fun _ F37 => ?_)
     refine l_op (f_mv F37 rfl rfl rfl rfl rfl fun _ F38 => ?_)
     refine l_op (f_call F38 CF_127 rfl rfl rfl rfl (lc (F38.ev 29 rfl) rfl) (laws_markText_c (H := fun _ => True) (k := (kk + 1) + 1) ⟨by omega, by first | omega | (unfold i64ok at *; omega)⟩) ?_)
     rintro _ w39 ⟨rfl, m39, Q1⟩
     refine ⟨_, rfl, fun _ F40 => ?_⟩
     have S39 := At.frame0 T32.at' m39
     clear m39
     obtain ⟨B41, y41, ad41, hy41, oky41, cl41⟩ := At.ownAt S39.at' ET_66.hk 0 rfl j (by first | assumption | omega)
     obtain rfl := Option.some.inj (hx3.symm.trans hy41)
     clear hy41 oky41
     refine l_op (f_val F40 rfl rfl (r_indexAddr (i := j) ET_66 rfl ((F40.ev 27 rfl).trans (by rw [ad41])) (F40.ev 28 rfl) (by omega) (by first | assumption | omega)) rfl fun _ F42 => ?_)
     refine l_op (f_val F42 rfl rfl (r_field FI_148_2 rfl (F42.ev 31 rfl) rfl) rfl fun _ F43 => ?_)
     refine l_op (s_storeElF (off := 2) S39.at' 0 j x3 (⟨x3.kind, x3.name, (markT ((kk + 1) + 1)), x3.a, x3.b, x3.text⟩ : CallD) ET_66.hk ET_66.h1 TI_9 rfl ad41 rfl rfl rfl rfl (F43.ev 32 rfl) (F43.ev 30 rfl) rfl (by first | assumption | omega) hx3 rfl (by decide) (⟨okx3.1, okx3.2.1, Q1, okx3.2.2.2.1, okx3.2.2.2.2.1, okx3.2.2.2.2.2⟩) fun w44 S44 => ?_)
     obtain ⟨E45, x4, cE45, hx4, ex4⟩ : ∃ (zD : List CallD) (zZ : CallD), zD = D.set j zZ ∧ nth zD j = some zZ ∧ zZ = (⟨x3.kind, x3.name, (markT ((kk + 1) + 1)), x3.a, x3.b, x3.text⟩ : CallD) := ⟨_, _, rfl, nth_setSelf hx1, rfl⟩
     have S46 : Mv _ _ [ow 148 6 encK okK (.slice a_a a_n a_c) E45] _ := Mv.cast (Mv.refl S44.at') (by rw [cE45, ex4, cE30, List.set_set] <;> rfl)
     have okx4 : okK x4 := by rw [ex4]; exact ⟨okx3.1, okx3.2.1, Q1, okx3.2.2.2.1, okx3.2.2.2.2.1, okx3.2.2.2.2.2⟩
     refine s_end (x_normal (wp_seq (wp_region_lit (l_op (f_mv F43 rfl rfl rfl rfl rfl fun _ F47 => ?_)))))
     refine l_op (f_val F47 rfl rfl (r_add (z := ((((kk + 1) + 1) + 1 : Nat) : Int)) rfl (F47.ev 33 rfl) rfl (by first | rfl | omega) ⟨by first | omega | (unfold i64ok at *; omega), by first | omega | (unfold i64ok at *; omega)⟩) rfl fun _ F48 => ?_)
     refine l_op (f_as F48 rfl rfl rfl rfl rfl fun _ F49 => ?_)
     refine s_end (x_normal (wp_seq (wp_region_lit (l_op (f_mv F49 rfl rfl rfl rfl rfl fun _ F50 => ?_)))))
     refine l_op (f_mv F50 rfl rfl rfl rfl rfl fun _ F51 => ?_)
     refine l_op (f_mv F51 rfl rfl rfl rfl rfl fun _ F52 => ?_)
     obtain ⟨B53, y53, ad53, hy53, oky53, cl53⟩ := At.ownAt S46.at' ET_66.hk 0 rfl j (by first | assumption | omega)
     obtain rfl := Option.some.inj (hx4.symm.trans hy53)
     clear hy53 oky53
     refine l_op (f_val F52 rfl rfl (r_indexAddr (i := j) ET_66 rfl ((F52.ev 35 rfl).trans (by rw [ad53])) (F52.ev 36 rfl) (by omega) (by first | assumption | omega)) rfl fun _ F54 => ?_)
     refine l_op (f_val F54 rfl rfl (r_field FI_148_3 rfl (F54.ev 38 rfl) rfl) rfl fun _ F55 => ?_)
     refine l_op (s_storeElF (off := 3) S46.at' 0 j x4 (⟨x4.kind, x4.name, x4.to_, ((((kk + 1) + 1) + 1 : Nat) : Int), x4.b, x4.text⟩ : CallD) ET_66.hk ET_66.h1 TI_3 rfl ad53 rfl rfl rfl rfl (F55.ev 39 rfl) (F55.ev 37 rfl) rfl (by first | assumption | omega) hx4 rfl (by decide) (⟨okx4.1, okx4.2.1, okx4.2.2.1, (show i64ok ((((kk + 1) + 1) + 1 : Nat) : Int) from by first | assumption | exact ⟨by omega, by omega⟩), okx4.2.2.2.2.1, okx4.2.2.2.2.2⟩) fun w56 S56 => ?_)
     obtain ⟨E57, x5, cE57, hx5, ex5⟩ : ∃ (zD : List CallD) (zZ : CallD), zD = D.set j zZ ∧ nth zD j = some zZ ∧ zZ = (⟨x4.kind, x4.name, x4.to_, ((((kk + 1) + 1) + 1 : Nat) : Int), x4.b, x4.text⟩ : CallD) := ⟨_, _, rfl, nth_setSelf hx1, rfl⟩
     have S58 : Mv _ _ [ow 148 6 encK okK (.slice a_a a_n a_c) E57] _ := Mv.cast (Mv.refl S56.at') (by rw [cE57, ex5, cE45, List.set_set] <;> rfl)
     have okx5 : okK x5 := by rw [ex5]; exact ⟨okx4.1, okx4.2.1, okx4.2.2.1, (show i64ok ((((kk + 1) + 1) + 1 : Nat) : Int) from by first | assumption | exact ⟨by omega, by omega⟩), okx4.2.2.2.2.1, okx4.2.2.2.2.2⟩
     have T59 : Mv _ _ [ow 148 6 encK okK (.slice a_a a_n a_c) E57] _ := S58
     refine s_end (x_normal (wp_seq (wp_region_lit (l_op (f_mv F55 rfl rfl rfl rfl rfl fun _ F60 => ?_)))))
     refine l_op (f_val F60 rfl rfl (r_add (z := (((((kk + 1) + 1) + 1) + 1 : Nat) : Int)) rfl (F60.ev 40 rfl) rfl (by first | rfl | omega) ⟨by first | omega | (unfold i64ok at *; omega), by first | omega | (unfold i64ok at *; omega)⟩) rfl fun _ F61 => ?_)
     refine l_op (f_as F61 rfl rfl rfl rfl rfl fun _ F62 => ?_)
     refine s_end (x_normal (wp_seq (wp_region_lit (l_op (f_mv F62 rfl rfl rfl rfl rfl fun _ F63 => ?_)))))
     refine l_op (f_mv F63 rfl rfl rfl rfl rfl fun _ F64 => ?_)
     refine l_op (f_mv F64 rfl rfl rfl rfl rfl fun _ F65 => ?_)
     obtain ⟨B66, y66, ad66, hy66, oky66, cl66⟩ := At.ownAt T59.at' ET_66.hk 0 rfl j (by first | assumption | omega)
     obtain rfl := Option.some.inj (hx5.symm.trans hy66)
     clear hy66 oky66
     refine l_op (f_val F65 rfl rfl (r_indexAddr (i := j) ET_66 rfl ((F65.ev 42 rfl).trans (by rw [ad66])) (F65.ev 43 rfl) (by omega) (by first | assumption | omega)) rfl fun _ F67 => ?_)
     refine l_op (f_val F67 rfl rfl (r_field FI_148_4 rfl (F67.ev 45 rfl) rfl) rfl fun _ F68 => ?_)
     refine l_op (s_storeElF (off := 4) T59.at' 0 j x5 (⟨x5.kind, x5.name, x5.to_, x5.a, (((((kk + 1) + 1) + 1) + 1 : Nat) : Int), x5.text⟩ : CallD) ET_66.hk ET_66.h1 TI_3 rfl ad66 rfl rfl rfl rfl (F68.ev 46 rfl) (F68.ev 44 rfl) rfl (by first | assumption | omega) hx5 rfl (by decide) (⟨okx5.1, okx5.2.1, okx5.2.2.1, okx5.2.2.2.1, (show i64ok (((((kk + 1) + 1) + 1) + 1 : Nat) : Int) from by first | assumption | exact ⟨by omega, by omega⟩), okx5.2.2.2.2.2⟩) fun w69 S69 => ?_)
     obtain ⟨E70, x6, cE70, hx6, ex6⟩ : ∃ (zD : List CallD) (zZ : CallD), zD = D.set j zZ ∧ nth zD j = some zZ ∧ zZ = (⟨x5.kind, x5.name, x5.to_, x5.a, (((((kk + 1) + 1) + 1) + 1 : Nat) : Int), x5.text⟩ : CallD) := ⟨_, _, rfl, nth_setSelf hx1, rfl⟩
     have S71 : Mv _ _ [ow 148 6 encK okK (.slice a_a a_n a_c) E70] _ := Mv.cast (Mv.refl S69.at') (by rw [cE70, ex6, cE57, List.set_set] <;> rfl)
     have okx6 : okK x6 := by rw [ex6]; exact ⟨okx5.1, okx5.2.1, okx5.2.2.1, okx5.2.2.2.1, (show i64ok (((((kk + 1) + 1) + 1) + 1 : Nat) : Int) from by first | assumption | exact ⟨by omega, by omega⟩), okx5.2.2.2.2.2⟩
     have F72 : Fr 58 [(46, .pointer (some ⟨B66, 0 + j * 6 + 4, none⟩)), (44, .int .i64 (((((kk + 1) + 1) + 1) + 1 : Nat) : Int)), (1, .int .i64 (((((kk + 1) + 1) + 1) + 1 : Nat) : Int)), (5, .int .i64 ((j : Nat) : Int)), (0, .slice a_a a_n a_c)] _ := F68.cut rfl
     clear F3 F4 F5 F6 F7 F9 F10 F11 F13 F14 F18 F19 F20 F21 F22 F23 F25 F27 F28 F33 F34 F35 F36 F37 F38 F40 F42 F43 F47 F48 F49 F50 F51 F52 F54 F55 F60 F61 F62 F63 F64 F65 F67 F68
     refine s_end (x_normal (wp_seq (wp_region_lit (l_op (f_mv F72 rfl rfl rfl rfl rfl fun _ F73 => ?_)))))
     refine l_op (f_val F73 rfl rfl (r_add (z := ((((((kk + 1) + 1) + 1) + 1) + 1 : Nat) : Int)) rfl (F73.ev 47 rfl) rfl (by first | rfl | omega) ⟨by first | omega | (unfold i64ok at *; omega), by first | omega | (unfold i64ok at *; omega)⟩) rfl fun _ F74 => ?_)
     refine l_op (f_as F74 rfl rfl rfl rfl rfl fun _ F75 => ?_)
     refine s_end (x_normal (wp_seq (wp_region_lit (l_op (f_mv F75 rfl rfl rfl rfl rfl fun _ F76 => ?_)))))
     refine l_op (f_mv F76 rfl rfl rfl rfl rfl fun _ F77 => ?_)
     refine l_op (f_mv F77 rfl rfl rfl rfl rfl fun _ F78 => ?_)
     refine l_op (f_call F78 CF_127 rfl rfl rfl rfl (lc (F78.ev 51 rfl) rfl) (laws_markText_c (H := fun _ => True) (k := ((((kk + 1) + 1) + 1) + 1) + 1) ⟨by omega, by first | omega | (unfold i64ok at *; omega)⟩) ?_)
     rintro _ w79 ⟨rfl, m79, Q2⟩
     refine ⟨_, rfl, fun _ F80 => ?_⟩
     have S79 := At.frame0 S71.at' m79
     clear m79
     obtain ⟨B81, y81, ad81, hy81, oky81, cl81⟩ := At.ownAt S79.at' ET_66.hk 0 rfl j (by first | assumption | omega)
     obtain rfl := Option.some.inj (hx6.symm.trans hy81)
     clear hy81 oky81
     refine l_op (f_val F80 rfl rfl (r_indexAddr (i := j) ET_66 rfl ((F80.ev 49 rfl).trans (by rw [ad81])) (F80.ev 50 rfl) (by omega) (by first | assumption | omega)) rfl fun _ F82 => ?_)
     refine l_op (f_val F82 rfl rfl (r_field FI_148_5 rfl (F82.ev 53 rfl) rfl) rfl fun _ F83 => ?_)
     refine l_op (s_storeElF (off := 5) S79.at' 0 j x6 (⟨x6.kind, x6.name, x6.to_, x6.a, x6.b, (markT (((((kk + 1) + 1) + 1) + 1) + 1))⟩ : CallD) ET_66.hk ET_66.h1 TI_9 rfl ad81 rfl rfl rfl rfl (F83.ev 54 rfl) (F83.ev 52 rfl) rfl (by first | assumption | omega) hx6 rfl (by decide) (⟨okx6.1, okx6.2.1, okx6.2.2.1, okx6.2.2.2.1, okx6.2.2.2.2.1, Q2⟩) fun w84 S84 => ?_)
     obtain ⟨E85, x7, cE85, hx7, ex7⟩ : ∃ (zD : List CallD) (zZ : CallD), zD = D.set j zZ ∧ nth zD j = some zZ ∧ zZ = (⟨x6.kind, x6.name, x6.to_, x6.a, x6.b, (markT (((((kk + 1) + 1) + 1) + 1) + 1))⟩ : CallD) := ⟨_, _, rfl, nth_setSelf hx1, rfl⟩
     have S86 : Mv _ _ [ow 148 6 encK okK (.slice a_a a_n a_c) E85] _ := Mv.cast (Mv.refl S84.at') (by rw [cE85, ex7, cE70, List.set_set] <;> rfl)
     have okx7 : okK x7 := by rw [ex7]; exact ⟨okx6.1, okx6.2.1, okx6.2.2.1, okx6.2.2.2.1, okx6.2.2.2.2.1, Q2⟩
     have T87 : Mv _ _ [ow 148 6 encK okK (.slice a_a a_n a_c) E85] _ := S86
     refine s_end (x_normal (wp_region_lit (l_op (f_mv F83 rfl rfl rfl rfl rfl fun _ F88 => ?_))))
     refine l_op (f_val F88 rfl rfl (r_add (z := (((((((kk + 1) + 1) + 1) + 1) + 1) + 1 : Nat) : Int)) rfl (F88.ev 55 rfl) rfl (by first | rfl | omega) ⟨by first | omega | (unfold i64ok at *; omega), by first | omega | (unfold i64ok at *; omega)⟩) rfl fun _ F89 => ?_)
     refine l_op (f_as F89 rfl rfl rfl rfl rfl fun _ F90 => ?_)
     refine s_end (x_block_normal (x_normal (wp_region_lit (l_op (f_mv F90 rfl rfl rfl rfl rfl fun _ F91 => ?_)))))
     refine l_op (f_val F91 rfl rfl (r_add (z := ((j + 1 : Nat) : Int)) rfl (F91.ev 10 rfl) rfl (by first | rfl | omega) ⟨by first | omega | (unfold i64ok at *; omega), by first | omega | (unfold i64ok at *; omega)⟩) rfl fun _ F92 => ?_)
     refine l_op (f_as F92 rfl rfl rfl rfl rfl fun _ F93 => ?_)
     refine s_end ?_
     refine x_normal ⟨j + 1, by omega, (((((kk + 1) + 1) + 1) + 1) + 1) + 1, E85, F93.cut rfl, ((S3.trans (S15.trans (S17.trans (S24.trans (S29.trans (T32.trans (S39.trans (S44.trans (S46.trans (S56.trans (T59.trans (S69.trans (S71.trans (S79.trans (S84.trans T87))))))))))))))).pick [0] rfl), by omega, by omega, upTo_stepD (by assumption) hj_2 (by omega) (by subst hj_1; subst_vars; rfl)⟩
   · skip
     refine wp_exit (x_then_exit (x_then_exit (x_block_here (x_normal (wp_seq (wp_region_lit (l_op (f_mv F7 rfl rfl rfl rfl rfl fun _ F94 => ?_))))))))
     refine l_op (f_as F94 rfl rfl rfl rfl rfl fun _ F95 => ?_)
     refine s_end (x_normal (wp_ret ?_))
     refine x_done (v := .int .i64 ((kk : Nat) : Int)) F95 (results_1 Try.results79 (.tmp (F95.ev 4 rfl))) ?_
     exact ⟨(by rw [(show ((kk : Nat) : Int) = ((k + 6 * a.length : Nat) : Int) from by first | omega | rw [hj_2, upTo_end (by omega) (by omega)])]), (Mv.cast (Mv.pick S3 [0] rfl) (by rw [(show D = (marksOf markK k a.length) from by first | omega | rw [hj_2, upTo_end (by omega) (by omega)])]; all_goals rfl))⟩
theorem laws_markAnswerS_c {w : World} {H : Nat → Prop} {a : List AnsD} {a_a : Option Addr} {a_n a_c : Nat} {k : Nat} (h_k : i64ok (k : Int)) (p0 : k + 3 * a.length ≤ 4611686018427387904) (hA : At w [ow 151 3 encR okR (.slice a_a a_n a_c) a]) :
    Calls Try.prog 80 #[.slice a_a a_n a_c, .int .i64 ((k : Nat) : Int)] w fun e w' => e = .returned (.int .i64 ((k + 3 * a.length : Nat) : Int)) ∧ Mv [ow 151 3 encR okR (.slice a_a a_n a_c) a] w [ow 151 3 encR okR (.slice a_a a_n a_c) (marksOf markR k a.length)] w' := by
 have uU : True := (fun _ _ _ => trivial) H h_k p0
 clear uU
 obtain ⟨lo0, lp0, lq0⟩ := At.ownInv hA ET_67.hk 0 rfl
 refine calls_enter 35 Try.func80 rfl Try.ntmps80 (Nat.le_of_ble_eq_true rfl) (fun _ F0i => ?_)
 have F0 : Fr 35 [(0, .slice a_a a_n a_c), (1, .int .i64 ((k : Nat) : Int))] _ := F0i
 clear F0i
 refine wp_seq (wp_region_lit (l_op (f_val F0 rfl rfl (r_assign rfl rfl) rfl fun _ F1 => ?_)))
 refine s_end (x_normal (wp_seq (wp_seq (wp_region_lit (l_op (f_val F1 rfl rfl (r_assign rfl rfl) rfl fun _ F2 => ?_))))))
 refine s_end (x_normal (wp_block ?_))
 refine x_loop (fun (j : Nat) aZ wZ => ∃ (kk : Nat), ∃ (D : List AnsD), Fr 35 [(5, .int .i64 ((j : Nat) : Int)), (0, .slice a_a a_n a_c), (1, .int .i64 ((kk : Nat) : Int))] aZ ∧ Mv [ow 151 3 encR okR (.slice a_a a_n a_c) a] w [ow 151 3 encR okR (.slice a_a a_n a_c) D] wZ ∧ (j ≤ a_n) ∧ (kk = k + 3 * j) ∧ (D = upTo markR k j a)) (fun (j : Nat) => a_n - j) (0) ?_ ?_
 · exact ⟨k, a, F2.cut rfl, (Mv.refl hA), by omega, by omega, upTo_start ..⟩
 · rintro j a3 w3 ⟨kk, D, F3, S3, hj_0, hj_1, hj_2⟩
   refine wp_seq (wp_seq (wp_region_lit (l_op (f_mv F3 rfl rfl rfl rfl rfl fun _ F4 => ?_))))
   refine l_op (f_mv F4 rfl rfl rfl rfl rfl fun _ F5 => ?_)
   refine l_op (f_val F5 rfl rfl (r_len Try.underlying67 rfl (F5.ev 7 rfl)) rfl fun _ F6 => ?_)
   refine l_op (f_val F6 rfl rfl (r_cmp (b := decide (j < a_n)) (.inr (.inr (.inl rfl))) rfl (F6.ev 6 rfl) (F6.ev 8 rfl) (dec_of (by omega))) rfl fun _ F7 => ?_)
   refine s_end (x_normal (x_cond (p := j < a_n) (F7.ev 9 rfl) (fun h8 => ?_) (fun h8 => ?_)))
   · skip
     refine wp_skip (x_normal (wp_seq (wp_block (wp_seq (wp_region_lit (l_op (f_mv F7 rfl rfl rfl rfl rfl fun _ F9 => ?_)))))))
     refine l_op (f_mv F9 rfl rfl rfl rfl rfl fun _ F10 => ?_)
     refine l_op (f_mv F10 rfl rfl rfl rfl rfl fun _ F11 => ?_)
     obtain ⟨B12, x1, ad12, hx1, okx1, cl12⟩ := At.ownAt S3.at' ET_67.hk 0 rfl j (by first | assumption | omega)
     refine l_op (f_val F11 rfl rfl (r_indexAddr (i := j) ET_67 rfl ((F11.ev 12 rfl).trans (by rw [ad12])) (F11.ev 13 rfl) (by omega) (by first | assumption | omega)) rfl fun _ F13 => ?_)
     refine l_op (f_val F13 rfl rfl (r_field FI_151_0 rfl (F13.ev 15 rfl) rfl) rfl fun _ F14 => ?_)
     refine l_op (s_storeElF (off := 0) S3.at' 0 j x1 (⟨((kk : Nat) : Int), x1.n, x1.text⟩ : AnsD) ET_67.hk ET_67.h1 TI_3 rfl ad12 rfl rfl rfl rfl (F14.ev 16 rfl) (F14.ev 14 rfl) rfl (by first | assumption | omega) hx1 rfl (by decide) (⟨(show i64ok ((kk : Nat) : Int) from by first | assumption | exact ⟨by omega, by omega⟩), okx1.2.1, okx1.2.2⟩) fun w15 S15 => ?_)
     obtain ⟨E16, x2, cE16, hx2, ex2⟩ : ∃ (zD : List AnsD) (zZ : AnsD), zD = D.set j zZ ∧ nth zD j = some zZ ∧ zZ = (⟨((kk : Nat) : Int), x1.n, x1.text⟩ : AnsD) := ⟨_, _, rfl, nth_setSelf hx1, rfl⟩
     have S17 : Mv _ _ [ow 151 3 encR okR (.slice a_a a_n a_c) E16] _ := Mv.cast (Mv.refl S15.at') (by rw [cE16, ex2] <;> rfl)
     have okx2 : okR x2 := by rw [ex2]; exact ⟨(show i64ok ((kk : Nat) : Int) from by first | assumption | exact ⟨by omega, by omega⟩), okx1.2.1, okx1.2.2⟩
     refine s_end (x_normal (wp_seq (wp_region_lit (l_op (f_mv F14 rfl rfl rfl rfl rfl fun _ F18 => ?_)))))
     refine l_op (f_val F18 rfl rfl (r_add (z := ((kk + 1 : Nat) : Int)) rfl (F18.ev 17 rfl) rfl (by first | rfl | omega) ⟨by first | omega | (unfold i64ok at *; omega), by first | omega | (unfold i64ok at *; omega)⟩) rfl fun _ F19 => ?_)
     refine l_op (f_as F19 rfl rfl rfl rfl rfl fun _ F20 => ?_)
     refine s_end (x_normal (wp_seq (wp_region_lit (l_op (f_mv F20 rfl rfl rfl rfl rfl fun _ F21 => ?_)))))
     refine l_op (f_mv F21 rfl rfl rfl rfl rfl fun _ F22 => ?_)
     refine l_op (f_mv F22 rfl rfl rfl rfl rfl fun _ F23 => ?_)
     obtain ⟨B24, y24, ad24, hy24, oky24, cl24⟩ := At.ownAt S17.at' ET_67.hk 0 rfl j (by first | assumption | omega)
     obtain rfl := Option.some.inj (hx2.symm.trans hy24)
     clear hy24 oky24
     refine l_op (f_val F23 rfl rfl (r_indexAddr (i := j) ET_67 rfl ((F23.ev 19 rfl).trans (by rw [ad24])) (F23.ev 20 rfl) (by omega) (by first | assumption | omega)) rfl fun _ F25 => ?_)
     refine l_op (f_val F25 rfl rfl (r_field FI_151_1 rfl (F25.ev 22 rfl) rfl) rfl fun _ F26 => ?_)
     refine l_op (s_storeElF (off := 1) S17.at' 0 j x2 (⟨x2.code, ((kk + 1 : Nat) : Int), x2.text⟩ : AnsD) ET_67.hk ET_67.h1 TI_3 rfl ad24 rfl rfl rfl rfl (F26.ev 23 rfl) (F26.ev 21 rfl) rfl (by first | assumption | omega) hx2 rfl (by decide) (⟨okx2.1, (show i64ok ((kk + 1 : Nat) : Int) from by first | assumption | exact ⟨by omega, by omega⟩), okx2.2.2⟩) fun w27 S27 => ?_)
     obtain ⟨E28, x3, cE28, hx3, ex3⟩ : ∃ (zD : List AnsD) (zZ : AnsD), zD = D.set j zZ ∧ nth zD j = some zZ ∧ zZ = (⟨x2.code, ((kk + 1 : Nat) : Int), x2.text⟩ : AnsD) := ⟨_, _, rfl, nth_setSelf hx1, rfl⟩
     have S29 : Mv _ _ [ow 151 3 encR okR (.slice a_a a_n a_c) E28] _ := Mv.cast (Mv.refl S27.at') (by rw [cE28, ex3, cE16, List.set_set] <;> rfl)
     have okx3 : okR x3 := by rw [ex3]; exact ⟨okx2.1, (show i64ok ((kk + 1 : Nat) : Int) from by first | assumption | exact ⟨by omega, by omega⟩), okx2.2.2⟩
     have T30 : Mv _ _ [ow 151 3 encR okR (.slice a_a a_n a_c) E28] _ := S29
     refine s_end (x_normal (wp_seq (wp_region_lit (l_op (f_mv F26 rfl rfl rfl rfl rfl fun _ F31 => ?_)))))
     refine l_op (f_val F31 rfl rfl (r_add (z := (((kk + 1) + 1 : Nat) : Int)) rfl (F31.ev 24 rfl) rfl (by first | rfl | omega) ⟨by first | omega | (unfold i64ok at *; omega), by first | omega | (unfold i64ok at *; omega)⟩) rfl fun _ F32 => ?_)
     refine l_op (f_as F32 rfl rfl rfl rfl rfl fun _ F33 => ?_)
     refine s_end (x_normal (wp_seq (wp_region_lit (l_op (f_mv F33 rfl rfl rfl rfl rfl fun _ F34 => ?_)))))
     refine l_op (f_mv F34 rfl rfl rfl rfl rfl fun _ F35 => ?_)
     refine l_op (f_mv F35 rfl rfl rfl rfl rfl fun _ F36 => ?_)
     refine l_op (f_call F36 CF_127 rfl rfl rfl rfl (lc (F36.ev 28 rfl) rfl) (laws_markText_c (H := fun _ => True) (k := (kk + 1) + 1) ⟨by omega, by first | omega | (unfold i64ok at *; omega)⟩) ?_)
     rintro _ w37 ⟨rfl, m37, Q0⟩
     refine ⟨_, rfl, fun _ F38 => ?_⟩
     have S37 := At.frame0 T30.at' m37
     clear m37
     obtain ⟨B39, y39, ad39, hy39, oky39, cl39⟩ := At.ownAt S37.at' ET_67.hk 0 rfl j (by first | assumption | omega)
     obtain rfl := Option.some.inj (hx3.symm.trans hy39)
     clear hy39 oky39
     refine l_op (f_val F38 rfl rfl (r_indexAddr (i := j) ET_67 rfl ((F38.ev 26 rfl).trans (by rw [ad39])) (F38.ev 27 rfl) (by omega) (by first | assumption | omega)) rfl fun _ F40 => ?_)
     refine l_op (f_val F40 rfl rfl (r_field FI_151_2 rfl (F40.ev 30 rfl) rfl) rfl fun _ F41 => ?_)
     refine l_op (s_storeElF (off := 2) S37.at' 0 j x3 (⟨x3.code, x3.n, (markT ((kk + 1) + 1))⟩ : AnsD) ET_67.hk ET_67.h1 TI_9 rfl ad39 rfl rfl rfl rfl (F41.ev 31 rfl) (F41.ev 29 rfl) rfl (by first | assumption | omega) hx3 rfl (by decide) (⟨okx3.1, okx3.2.1, Q0⟩) fun w42 S42 => ?_)
     obtain ⟨E43, x4, cE43, hx4, ex4⟩ : ∃ (zD : List AnsD) (zZ : AnsD), zD = D.set j zZ ∧ nth zD j = some zZ ∧ zZ = (⟨x3.code, x3.n, (markT ((kk + 1) + 1))⟩ : AnsD) := ⟨_, _, rfl, nth_setSelf hx1, rfl⟩
     have S44 : Mv _ _ [ow 151 3 encR okR (.slice a_a a_n a_c) E43] _ := Mv.cast (Mv.refl S42.at') (by rw [cE43, ex4, cE28, List.set_set] <;> rfl)
     have okx4 : okR x4 := by rw [ex4]; exact ⟨okx3.1, okx3.2.1, Q0⟩
     refine s_end (x_normal (wp_region_lit (l_op (f_mv F41 rfl rfl rfl rfl rfl fun _ F45 => ?_))))
     refine l_op (f_val F45 rfl rfl (r_add (z := ((((kk + 1) + 1) + 1 : Nat) : Int)) rfl (F45.ev 32 rfl) rfl (by first | rfl | omega) ⟨by first | omega | (unfold i64ok at *; omega), by first | omega | (unfold i64ok at *; omega)⟩) rfl fun _ F46 => ?_)
     refine l_op (f_as F46 rfl rfl rfl rfl rfl fun _ F47 => ?_)
     refine s_end (x_block_normal (x_normal (wp_region_lit (l_op (f_mv F47 rfl rfl rfl rfl rfl fun _ F48 => ?_)))))
     refine l_op (f_val F48 rfl rfl (r_add (z := ((j + 1 : Nat) : Int)) rfl (F48.ev 10 rfl) rfl (by first | rfl | omega) ⟨by first | omega | (unfold i64ok at *; omega), by first | omega | (unfold i64ok at *; omega)⟩) rfl fun _ F49 => ?_)
     refine l_op (f_as F49 rfl rfl rfl rfl rfl fun _ F50 => ?_)
     refine s_end ?_
     refine x_normal ⟨j + 1, by omega, ((kk + 1) + 1) + 1, E43, F50.cut rfl, ((S3.trans (S15.trans (S17.trans (S27.trans (T30.trans (S37.trans (S42.trans S44))))))).pick [0] rfl), by omega, by omega, upTo_stepD (by assumption) hj_2 (by omega) (by subst hj_1; subst_vars; rfl)⟩
   · skip
     refine wp_exit (x_then_exit (x_then_exit (x_block_here (x_normal (wp_seq (wp_region_lit (l_op (f_mv F7 rfl rfl rfl rfl rfl fun _ F51 => ?_))))))))
     refine l_op (f_as F51 rfl rfl rfl rfl rfl fun _ F52 => ?_)
     refine s_end (x_normal (wp_ret ?_))
     refine x_done (v := .int .i64 ((kk : Nat) : Int)) F52 (results_1 Try.results80 (.tmp (F52.ev 4 rfl))) ?_
     exact ⟨(by rw [(show ((kk : Nat) : Int) = ((k + 3 * a.length : Nat) : Int) from by first | omega | rw [hj_2, upTo_end (by omega) (by omega)])]), (Mv.cast (Mv.pick S3 [0] rfl) (by rw [(show D = (marksOf markR k a.length) from by first | omega | rw [hj_2, upTo_end (by omega) (by omega)])]; all_goals rfl))⟩
theorem laws_markIntS_c {w : World} {H : Nat → Prop} {a : List Int} {a_a : Option Addr} {a_n a_c : Nat} {k : Nat} (h_k : i64ok (k : Int)) (p0 : k + 1 * a.length ≤ 4611686018427387904) (hA : At w [ow 3 1 encI okI (.slice a_a a_n a_c) a]) :
    Calls Try.prog 38 #[.slice a_a a_n a_c, .int .i64 ((k : Nat) : Int)] w fun e w' => e = .returned (.int .i64 ((k + a.length : Nat) : Int)) ∧ Mv [ow 3 1 encI okI (.slice a_a a_n a_c) a] w [ow 3 1 encI okI (.slice a_a a_n a_c) (marksOf markI k a.length)] w' := by
 have uU : True := (fun _ _ _ => trivial) H h_k p0
 clear uU
 obtain ⟨lo0, lp0, lq0⟩ := At.ownInv hA ET_53.hk 0 rfl
 refine calls_enter 19 Try.func38 rfl Try.ntmps38 (Nat.le_of_ble_eq_true rfl) (fun _ F0i => ?_)
 have F0 : Fr 19 [(0, .slice a_a a_n a_c), (1, .int .i64 ((k : Nat) : Int))] _ := F0i
 clear F0i
 refine wp_seq (wp_region_lit (l_op (f_val F0 rfl rfl (r_assign rfl rfl) rfl fun _ F1 => ?_)))
 refine s_end (x_normal (wp_seq (wp_seq (wp_region_lit (l_op (f_val F1 rfl rfl (r_assign rfl rfl) rfl fun _ F2 => ?_))))))
 refine s_end (x_normal (wp_block ?_))
 refine x_loop (fun (j : Nat) aZ wZ => ∃ (kk : Nat), ∃ (D : List Int), Fr 19 [(5, .int .i64 ((j : Nat) : Int)), (0, .slice a_a a_n a_c), (1, .int .i64 ((kk : Nat) : Int))] aZ ∧ Mv [ow 3 1 encI okI (.slice a_a a_n a_c) a] w [ow 3 1 encI okI (.slice a_a a_n a_c) D] wZ ∧ (j ≤ a_n) ∧ (kk = k + 1 * j) ∧ (D = upTo markI k j a)) (fun (j : Nat) => a_n - j) (0) ?_ ?_
 · exact ⟨k, a, F2.cut rfl, (Mv.refl hA), by omega, by omega, upTo_start ..⟩
 · rintro j a3 w3 ⟨kk, D, F3, S3, hj_0, hj_1, hj_2⟩
   refine wp_seq (wp_seq (wp_region_lit (l_op (f_mv F3 rfl rfl rfl rfl rfl fun _ F4 => ?_))))
   refine l_op (f_mv F4 rfl rfl rfl rfl rfl fun _ F5 => ?_)
   refine l_op (f_val F5 rfl rfl (r_len Try.underlying53 rfl (F5.ev 7 rfl)) rfl fun _ F6 => ?_)
   refine l_op (f_val F6 rfl rfl (r_cmp (b := decide (j < a_n)) (.inr (.inr (.inl rfl))) rfl (F6.ev 6 rfl) (F6.ev 8 rfl) (dec_of (by omega))) rfl fun _ F7 => ?_)
   refine s_end (x_normal (x_cond (p := j < a_n) (F7.ev 9 rfl) (fun h8 => ?_) (fun h8 => ?_)))
   · skip
     refine wp_skip (x_normal (wp_seq (wp_block (wp_seq (wp_region_lit (l_op (f_mv F7 rfl rfl rfl rfl rfl fun _ F9 => ?_)))))))
     refine l_op (f_mv F9 rfl rfl rfl rfl rfl fun _ F10 => ?_)
     refine l_op (f_mv F10 rfl rfl rfl rfl rfl fun _ F11 => ?_)
     obtain ⟨B12, x1, ad12, hx1, okx1, cl12⟩ := At.ownAt S3.at' ET_53.hk 0 rfl j (by first | assumption | omega)
     refine l_op (f_val F11 rfl rfl (r_indexAddr (i := j) ET_53 rfl ((F11.ev 12 rfl).trans (by rw [ad12])) (F11.ev 13 rfl) (by omega) (by first | assumption | omega)) rfl fun _ F13 => ?_)
     refine l_op (s_storeEl S3.at' 0 j ((kk : Nat) : Int) ET_53.hk ET_53.h1 TI_3 rfl ad12 rfl rfl rfl rfl (F13.ev 15 rfl) (F13.ev 14 rfl) rfl (by first | assumption | omega) ⟨by omega, by omega⟩ fun w14 S14 => ?_)
     refine s_end (x_normal (wp_region_lit (l_op (f_mv F13 rfl rfl rfl rfl rfl fun _ F15 => ?_))))
     refine l_op (f_val F15 rfl rfl (r_add (z := ((kk + 1 : Nat) : Int)) rfl (F15.ev 16 rfl) rfl (by first | rfl | omega) ⟨by first | omega | (unfold i64ok at *; omega), by first | omega | (unfold i64ok at *; omega)⟩) rfl fun _ F16 => ?_)
     refine l_op (f_as F16 rfl rfl rfl rfl rfl fun _ F17 => ?_)
     refine s_end (x_block_normal (x_normal (wp_region_lit (l_op (f_mv F17 rfl rfl rfl rfl rfl fun _ F18 => ?_)))))
     refine l_op (f_val F18 rfl rfl (r_add (z := ((j + 1 : Nat) : Int)) rfl (F18.ev 10 rfl) rfl (by first | rfl | omega) ⟨by first | omega | (unfold i64ok at *; omega), by first | omega | (unfold i64ok at *; omega)⟩) rfl fun _ F19 => ?_)
     refine l_op (f_as F19 rfl rfl rfl rfl rfl fun _ F20 => ?_)
     refine s_end ?_
     refine x_normal ⟨j + 1, by omega, kk + 1, D.set j ((kk : Nat) : Int), F20.cut rfl, ((S3.trans S14).pick [0] rfl), by omega, by omega, by rw [hj_2]; refine upTo_step (by omega) ?_; subst hj_1; unfold markI; omega⟩
   · skip
     refine wp_exit (x_then_exit (x_then_exit (x_block_here (x_normal (wp_seq (wp_region_lit (l_op (f_mv F7 rfl rfl rfl rfl rfl fun _ F21 => ?_))))))))
     refine l_op (f_as F21 rfl rfl rfl rfl rfl fun _ F22 => ?_)
     refine s_end (x_normal (wp_ret ?_))
     refine x_done (v := .int .i64 ((kk : Nat) : Int)) F22 (results_1 Try.results38 (.tmp (F22.ev 4 rfl))) ?_
     exact ⟨(by rw [(show ((kk : Nat) : Int) = ((k + a.length : Nat) : Int) from by first | omega | rw [hj_2, upTo_end (by omega) (by omega)])]), (Mv.cast (Mv.pick S3 [0] rfl) (by rw [(show D = (marksOf markI k a.length) from by first | omega | rw [hj_2, upTo_end (by omega) (by omega)])]; all_goals rfl))⟩
theorem laws_heldCallS_c {w : World} {H : Nat → Prop} {a : List CallD} {a_a : Option Addr} {a_n a_c : Nat} {k : Nat} {n : Nat} (v_a : Rd 6 encK okK H w (.slice a_a a_n a_c) a) (h_k : i64ok (k : Int)) (p0 : a = marksOf markK k n) (p1 : k + 6 * n ≤ 4611686018427387904) :
    Calls Try.prog 82 #[.slice a_a a_n a_c, .int .i64 ((k : Nat) : Int)] w fun e w' => e = .returned (.int .i64 ((k + 6 * n : Nat) : Int)) ∧ Mv [] w [] w' := by
 have uU : True := (fun _ _ => trivial) h_k p1
 clear uU
 have V_v_a : Rd 6 encK okK (V H w []) w (.slice a_a a_n a_c) a := Rd.start v_a (fun _ _ => fps_nil _)
 obtain ⟨ln_a, le_a, mx_a, ni_a⟩ := Rd.inv v_a
 refine calls_enter 70 Try.func82 rfl Try.ntmps82 (Nat.le_of_ble_eq_true rfl) (fun _ F0i => ?_)
 have F0 : Fr 70 [(0, .slice a_a a_n a_c), (1, .int .i64 ((k : Nat) : Int))] _ := F0i
 clear F0i
 refine wp_seq ?_
 have hln : a_n = n := by rw [ln_a, p0, marksOf_length]
 refine wp_region_lit (l_op (f_val F0 rfl rfl (r_assign rfl rfl) rfl fun _ F1 => ?_))
 refine s_end (x_normal (wp_seq (wp_seq (wp_region_lit (l_op (f_val F1 rfl rfl (r_assign rfl rfl) rfl fun _ F2 => ?_))))))
 refine s_end (x_normal (wp_block ?_))
 refine x_loop (fun (j : Nat) aZ wZ => ∃ (kk : Nat), Fr 70 [(5, .int .i64 ((j : Nat) : Int)), (0, .slice a_a a_n a_c), (1, .int .i64 ((kk : Nat) : Int))] aZ ∧ Mv [] w [] wZ ∧ (j ≤ a_n) ∧ (kk = k + 6 * j)) (fun (j : Nat) => a_n - j) (0) ?_ ?_
 · exact ⟨k, F2.cut rfl, (Mv.refl (At.nil w)), by omega, by omega⟩
 · rintro j a3 w3 ⟨kk, F3, S3, hj_0, hj_1⟩
   refine wp_seq (wp_seq (wp_region_lit (l_op (f_mv F3 rfl rfl rfl rfl rfl fun _ F4 => ?_))))
   refine l_op (f_mv F4 rfl rfl rfl rfl rfl fun _ F5 => ?_)
   refine l_op (f_val F5 rfl rfl (r_len Try.underlying66 rfl (F5.ev 7 rfl)) rfl fun _ F6 => ?_)
   refine l_op (f_val F6 rfl rfl (r_cmp (b := decide (j < a_n)) (.inr (.inr (.inl rfl))) rfl (F6.ev 6 rfl) (F6.ev 8 rfl) (dec_of (by omega))) rfl fun _ F7 => ?_)
   refine s_end (x_normal (x_cond (p := j < a_n) (F7.ev 9 rfl) (fun h8 => ?_) (fun h8 => ?_)))
   · skip
     refine wp_skip (x_normal (wp_seq (wp_block (wp_seq (wp_seq (wp_region_lit (l_op (f_mv F7 rfl rfl rfl rfl rfl fun _ F9 => ?_))))))))
     refine l_op (f_mv F9 rfl rfl rfl rfl rfl fun _ F10 => ?_)
     obtain ⟨B11, O11, x1, ad11, hx1, okx1, ln11, cl11⟩ := Rd.at (Rd.mv (Nat.succ_pos _) V_v_a S3) j (by first | assumption | omega)
     clear ln11
     refine l_op (f_val F10 rfl rfl (r_indexAddr (i := j) ET_66 rfl ((F10.ev 12 rfl).trans (by rw [ad11])) (F10.ev 13 rfl) (by omega) (by first | assumption | omega)) rfl fun _ F12 => ?_)
     refine l_op (f_val F12 rfl rfl (r_field FI_148_0 rfl (F12.ev 14 rfl) rfl) rfl fun _ F13 => ?_)
     refine l_op (f_val (v := .int .i64 x1.kind) F13 rfl rfl (r_load (cs := [.int .i64 x1.kind]) TI_3 rfl (F13.ev 15 rfl) rfl (fun _ => rfl) (elem_sub (f := 0) cl11 [.int .i64 x1.kind] rfl)) rfl fun _ F14 => ?_)
     refine l_op (f_mv F14 rfl rfl rfl rfl rfl fun _ F15 => ?_)
     refine l_op (f_val F15 rfl rfl (r_cmp (b := decide (x1.kind ≠ ((kk : Nat) : Int))) (.inr (.inl rfl)) rfl (F15.ev 16 rfl) (F15.ev 17 rfl) (dec_of (by omega))) rfl fun _ F16 => ?_)
     rw [show (decide (x1.kind ≠ ((kk : Nat) : Int))) = false from decide_eq_false (fun h => h (by rw [(marksOf_at p0 hx1).1, hj_1]; rfl))] at F16
     refine s_end (x_normal (wp_cond_false (F16.ev 18 rfl) (wp_skip (x_normal (wp_seq (wp_region_lit (l_op (f_mv F16 rfl rfl rfl rfl rfl fun _ F17 => ?_))))))))
     refine l_op (f_val F17 rfl rfl (r_add (z := ((kk + 1 : Nat) : Int)) rfl (F17.ev 19 rfl) rfl (by first | rfl | omega) ⟨by first | omega | (unfold i64ok at *; omega), by first | omega | (unfold i64ok at *; omega)⟩) rfl fun _ F18 => ?_)
     refine l_op (f_as F18 rfl rfl rfl rfl rfl fun _ F19 => ?_)
     refine s_end (x_normal (wp_seq (wp_seq ?_)))
     refine x_draw (fun aZ wZ => Fr 70 [(0, .slice a_a a_n a_c), (1, .int .i64 ((kk + 1 : Nat) : Int)), (5, .int .i64 ((j : Nat) : Int)), (28, .bool false)] aZ ∧ Mv [] w3 [] wZ) [] mixed S3.at' (listed := #[false, false, false, false, false, false, false, false]) rfl (fun w21 S21 => ?_) [] rfl ?_
     · skip
       refine g_take F19 rfl (i := 0) (listed' := #[true, false, false, false, false, false, false, false]) rfl (by kernel_rfl) (by kernel_rfl) (by kernel_rfl) (fun _ _ _ h => h) (Sd.of (Mv.refl S21.at') [] rfl) rfl rfl rfl rfl (fun _ hz => (r_move rfl (F19.ev 0 rfl))) fun _ F22 => ?_
       refine g_take F22 rfl (i := 1) (listed' := #[true, true, false, false, false, false, false, false]) rfl (by kernel_rfl) (by kernel_rfl) (by kernel_rfl) (fun _ _ _ h => h) (Sd.of (Mv.refl S21.at') [] rfl) rfl rfl rfl rfl (fun _ hz => (r_move rfl (F22.ev 5 rfl))) fun _ F23 => ?_
       obtain ⟨B24, O24, y24, ad24, hy24, oky24, ln24, cl24⟩ := Rd.atK (Nat.succ_pos _) (Rd.mv (Nat.succ_pos _) V_v_a (S3.trans S21)) j (by first | assumption | omega)
       clear ln24
       obtain rfl := Option.some.inj (hx1.symm.trans hy24)
       clear hy24 oky24
       refine g_take F23 rfl (i := 2) (listed' := #[true, true, true, false, false, false, false, false]) rfl (by kernel_rfl) (by kernel_rfl) (by kernel_rfl) (fun _ _ _ h => h) (Sd.of (Mv.refl S21.at') [] rfl) rfl rfl rfl rfl (fun _ hz => (r_indexAddr (i := j) ET_66 rfl ((F23.ev 21 rfl).trans (by rw [ad24])) (F23.ev 22 rfl) (by omega) (by first | assumption | omega))) fun _ F25 => ?_
       refine g_take F25 rfl (i := 3) (listed' := #[true, true, true, true, false, false, false, false]) rfl (by kernel_rfl) (by kernel_rfl) (by kernel_rfl) (fun _ _ _ h => h) (Sd.of (Mv.refl S21.at') [] rfl) rfl rfl rfl rfl (fun _ hz => (r_field FI_148_1 rfl (F25.ev 23 rfl) rfl)) fun _ F26 => ?_
       refine g_take (v := .string x1.name) F26 rfl (i := 4) (listed' := #[true, true, true, true, true, false, false, false]) rfl (by kernel_rfl) (by kernel_rfl) (by kernel_rfl) (fun _ _ _ h => h) (Sd.of (Mv.refl S21.at') [] rfl) rfl rfl rfl rfl (fun _ hz => (r_load (cs := [.string x1.name]) TI_9 rfl (F26.ev 24 rfl) rfl (fun _ => rfl) (elem_sub (f := 1) (cl24 _ hz.kp) [.string x1.name] rfl))) fun _ F27 => ?_
       refine g_take F27 rfl (i := 5) (listed' := #[true, true, true, true, true, true, false, false]) rfl (by kernel_rfl) (by kernel_rfl) (by kernel_rfl) (fun _ _ _ h => h) (Sd.of (Mv.refl S21.at') [] rfl) rfl rfl rfl rfl (fun _ hz => (r_move rfl (F27.ev 1 rfl))) fun _ F28 => ?_
       refine d_one (i := 6) (listed' := #[true, true, true, true, true, true, true, false]) rfl (by kernel_rfl) rfl rfl ?_
       refine f_call F28 CF_127 rfl rfl rfl rfl (lc (F28.ev 26 rfl) rfl) (laws_markText_c (H := fun _ => True) (k := kk + 1) ⟨by omega, by first | omega | (unfold i64ok at *; omega)⟩) ?_
       rintro _ w29 ⟨rfl, m29, Q0⟩
       refine ⟨_, rfl, fun _ F30 => ?_⟩
       have S29 := At.frame0 S21.at' m29
       clear m29
       refine ⟨Sd.of S29 [] rfl, ?_⟩
       refine g_take F30 rfl (i := 7) (listed' := #[true, true, true, true, true, true, true, true]) rfl (by kernel_rfl) (by kernel_rfl) (by kernel_rfl) (fun _ _ _ h => h) (Sd.of S29 [] rfl) rfl rfl rfl rfl (fun _ hz => (r_cmps (b := (decide (x1.name ≠ (markT (kk + 1))))) (.inr (.inl rfl)) rfl (F30.ev 25 rfl) (F30.ev 27 rfl) rfl)) fun _ F31 => ?_
       rw [show (decide (x1.name ≠ (markT (kk + 1)))) = false from decide_eq_false (fun h => h (by rw [(marksOf_at p0 hx1).1, hj_1]; rfl))] at F31
       refine wpAnyH_done (by kernel_rfl) (x_normal ?_) _
       exact ⟨F31.cut rfl, ((S21.trans S29).pick [] rfl)⟩
     · rintro a32 w32 ⟨F32, S32⟩
       refine x_normal (wp_cond_false (F32.ev 28 rfl) (wp_skip (x_normal (wp_seq (wp_region_lit (l_op (f_mv F32 rfl rfl rfl rfl rfl fun _ F33 => ?_)))))))
       refine l_op (f_val F33 rfl rfl (r_add (z := (((kk + 1) + 1 : Nat) : Int)) rfl (F33.ev 29 rfl) rfl (by first | rfl | omega) ⟨by first | omega | (unfold i64ok at *; omega), by first | omega | (unfold i64ok at *; omega)⟩) rfl fun _ F34 => ?_)
       refine l_op (f_as F34 rfl rfl rfl rfl rfl fun _ F35 => ?_)
       refine s_end (x_normal (wp_seq (wp_seq ?_)))
       refine x_draw (fun aZ wZ => Fr 70 [(0, .slice a_a a_n a_c), (1, .int .i64 (((kk + 1) + 1 : Nat) : Int)), (5, .int .i64 ((j : Nat) : Int)), (38, .bool false)] aZ ∧ Mv [] w32 [] wZ) [] mixed S32.at' (listed := #[false, false, false, false, false, false, false, false]) rfl (fun w37 S37 => ?_) [] rfl ?_
       · skip
         refine g_take F35 rfl (i := 0) (listed' := #[true, false, false, false, false, false, false, false]) rfl (by kernel_rfl) (by kernel_rfl) (by kernel_rfl) (fun _ _ _ h => h) (Sd.of (Mv.refl S37.at') [] rfl) rfl rfl rfl rfl (fun _ hz => (r_move rfl (F35.ev 0 rfl))) fun _ F38 => ?_
         refine g_take F38 rfl (i := 1) (listed' := #[true, true, false, false, false, false, false, false]) rfl (by kernel_rfl) (by kernel_rfl) (by kernel_rfl) (fun _ _ _ h => h) (Sd.of (Mv.refl S37.at') [] rfl) rfl rfl rfl rfl (fun _ hz => (r_move rfl (F38.ev 5 rfl))) fun _ F39 => ?_
         obtain ⟨B40, O40, y40, ad40, hy40, oky40, ln40, cl40⟩ := Rd.atK (Nat.succ_pos _) (Rd.mv (Nat.succ_pos _) V_v_a (S3.trans (S32.trans S37))) j (by first | assumption | omega)
         clear ln40
         obtain rfl := Option.some.inj (hx1.symm.trans hy40)
         clear hy40 oky40
         refine g_take F39 rfl (i := 2) (listed' := #[true, true, true, false, false, false, false, false]) rfl (by kernel_rfl) (by kernel_rfl) (by kernel_rfl) (fun _ _ _ h => h) (Sd.of (Mv.refl S37.at') [] rfl) rfl rfl rfl rfl (fun _ hz => (r_indexAddr (i := j) ET_66 rfl ((F39.ev 31 rfl).trans (by rw [ad40])) (F39.ev 32 rfl) (by omega) (by first | assumption | omega))) fun _ F41 => ?_
         refine g_take F41 rfl (i := 3) (listed' := #[true, true, true, true, false, false, false, false]) rfl (by kernel_rfl) (by kernel_rfl) (by kernel_rfl) (fun _ _ _ h => h) (Sd.of (Mv.refl S37.at') [] rfl) rfl rfl rfl rfl (fun _ hz => (r_field FI_148_2 rfl (F41.ev 33 rfl) rfl)) fun _ F42 => ?_
         refine g_take (v := .string x1.to_) F42 rfl (i := 4) (listed' := #[true, true, true, true, true, false, false, false]) rfl (by kernel_rfl) (by kernel_rfl) (by kernel_rfl) (fun _ _ _ h => h) (Sd.of (Mv.refl S37.at') [] rfl) rfl rfl rfl rfl (fun _ hz => (r_load (cs := [.string x1.to_]) TI_9 rfl (F42.ev 34 rfl) rfl (fun _ => rfl) (elem_sub (f := 2) (cl40 _ hz.kp) [.string x1.to_] rfl))) fun _ F43 => ?_
         refine g_take F43 rfl (i := 5) (listed' := #[true, true, true, true, true, true, false, false]) rfl (by kernel_rfl) (by kernel_rfl) (by kernel_rfl) (fun _ _ _ h => h) (Sd.of (Mv.refl S37.at') [] rfl) rfl rfl rfl rfl (fun _ hz => (r_move rfl (F43.ev 1 rfl))) fun _ F44 => ?_
         refine d_one (i := 6) (listed' := #[true, true, true, true, true, true, true, false]) rfl (by kernel_rfl) rfl rfl ?_
         refine f_call F44 CF_127 rfl rfl rfl rfl (lc (F44.ev 36 rfl) rfl) (laws_markText_c (H := fun _ => True) (k := (kk + 1) + 1) ⟨by omega, by first | omega | (unfold i64ok at *; omega)⟩) ?_
         rintro _ w45 ⟨rfl, m45, Q1⟩
         refine ⟨_, rfl, fun _ F46 => ?_⟩
         have S45 := At.frame0 S37.at' m45
         clear m45
         refine ⟨Sd.of S45 [] rfl, ?_⟩
         refine g_take F46 rfl (i := 7) (listed' := #[true, true, true, true, true, true, true, true]) rfl (by kernel_rfl) (by kernel_rfl) (by kernel_rfl) (fun _ _ _ h => h) (Sd.of S45 [] rfl) rfl rfl rfl rfl (fun _ hz => (r_cmps (b := (decide (x1.to_ ≠ (markT ((kk + 1) + 1))))) (.inr (.inl rfl)) rfl (F46.ev 35 rfl) (F46.ev 37 rfl) rfl)) fun _ F47 => ?_
         rw [show (decide (x1.to_ ≠ (markT ((kk + 1) + 1)))) = false from decide_eq_false (fun h => h (by rw [(marksOf_at p0 hx1).1, hj_1]; rfl))] at F47
         refine wpAnyH_done (by kernel_rfl) (x_normal ?_) _
         exact ⟨F47.cut rfl, ((S37.trans S45).pick [] rfl)⟩
       · rintro a48 w48 ⟨F48, S48⟩
         refine x_normal (wp_cond_false (F48.ev 38 rfl) (wp_skip (x_normal (wp_seq (wp_region_lit (l_op (f_mv F48 rfl rfl rfl rfl rfl fun _ F49 => ?_)))))))
         refine l_op (f_val F49 rfl rfl (r_add (z := ((((kk + 1) + 1) + 1 : Nat) : Int)) rfl (F49.ev 39 rfl) rfl (by first | rfl | omega) ⟨by first | omega | (unfold i64ok at *; omega), by first | omega | (unfold i64ok at *; omega)⟩) rfl fun _ F50 => ?_)
         refine l_op (f_as F50 rfl rfl rfl rfl rfl fun _ F51 => ?_)
         refine s_end (x_normal (wp_seq (wp_seq (wp_region_lit (l_op (f_mv F51 rfl rfl rfl rfl rfl fun _ F52 => ?_))))))
         refine l_op (f_mv F52 rfl rfl rfl rfl rfl fun _ F53 => ?_)
         obtain ⟨B54, O54, y54, ad54, hy54, oky54, ln54, cl54⟩ := Rd.at (Rd.mv (Nat.succ_pos _) V_v_a (S3.trans (S32.trans S48))) j (by first | assumption | omega)
         clear ln54
         obtain rfl := Option.some.inj (hx1.symm.trans hy54)
         clear hy54 oky54
         refine l_op (f_val F53 rfl rfl (r_indexAddr (i := j) ET_66 rfl ((F53.ev 41 rfl).trans (by rw [ad54])) (F53.ev 42 rfl) (by omega) (by first | assumption | omega)) rfl fun _ F55 => ?_)
         refine l_op (f_val F55 rfl rfl (r_field FI_148_3 rfl (F55.ev 43 rfl) rfl) rfl fun _ F56 => ?_)
         refine l_op (f_val (v := .int .i64 x1.a) F56 rfl rfl (r_load (cs := [.int .i64 x1.a]) TI_3 rfl (F56.ev 44 rfl) rfl (fun _ => rfl) (elem_sub (f := 3) cl54 [.int .i64 x1.a] rfl)) rfl fun _ F57 => ?_)
         refine l_op (f_mv F57 rfl rfl rfl rfl rfl fun _ F58 => ?_)
         refine l_op (f_val F58 rfl rfl (r_cmp (b := decide (x1.a ≠ ((((kk + 1) + 1) + 1 : Nat) : Int))) (.inr (.inl rfl)) rfl (F58.ev 45 rfl) (F58.ev 46 rfl) (dec_of (by omega))) rfl fun _ F59 => ?_)
         rw [show (decide (x1.a ≠ ((((kk + 1) + 1) + 1 : Nat) : Int))) = false from decide_eq_false (fun h => h (by rw [(marksOf_at p0 hx1).1, hj_1]; rfl))] at F59
         refine s_end (x_normal (wp_cond_false (F59.ev 47 rfl) (wp_skip (x_normal (wp_seq (wp_region_lit (l_op (f_mv F59 rfl rfl rfl rfl rfl fun _ F60 => ?_))))))))
         refine l_op (f_val F60 rfl rfl (r_add (z := (((((kk + 1) + 1) + 1) + 1 : Nat) : Int)) rfl (F60.ev 48 rfl) rfl (by first | rfl | omega) ⟨by first | omega | (unfold i64ok at *; omega), by first | omega | (unfold i64ok at *; omega)⟩) rfl fun _ F61 => ?_)
         refine l_op (f_as F61 rfl rfl rfl rfl rfl fun _ F62 => ?_)
         refine s_end (x_normal (wp_seq (wp_seq (wp_region_lit (l_op (f_mv F62 rfl rfl rfl rfl rfl fun _ F63 => ?_))))))
         refine l_op (f_mv F63 rfl rfl rfl rfl rfl fun _ F64 => ?_)
         obtain ⟨B65, O65, y65, ad65, hy65, oky65, ln65, cl65⟩ := Rd.at (Rd.mv (Nat.succ_pos _) V_v_a (S3.trans (S32.trans S48))) j (by first | assumption | omega)
         clear ln65
         obtain rfl := Option.some.inj (hx1.symm.trans hy65)
         clear hy65 oky65
         refine l_op (f_val F64 rfl rfl (r_indexAddr (i := j) ET_66 rfl ((F64.ev 50 rfl).trans (by rw [ad65])) (F64.ev 51 rfl) (by omega) (by first | assumption | omega)) rfl fun _ F66 => ?_)
         refine l_op (f_val F66 rfl rfl (r_field FI_148_4 rfl (F66.ev 52 rfl) rfl) rfl fun _ F67 => ?_)
         refine l_op (f_val (v := .int .i64 x1.b) F67 rfl rfl (r_load (cs := [.int .i64 x1.b]) TI_3 rfl (F67.ev 53 rfl) rfl (fun _ => rfl) (elem_sub (f := 4) cl65 [.int .i64 x1.b] rfl)) rfl fun _ F68 => ?_)
         refine l_op (f_mv F68 rfl rfl rfl rfl rfl fun _ F69 => ?_)
         refine l_op (f_val F69 rfl rfl (r_cmp (b := decide (x1.b ≠ (((((kk + 1) + 1) + 1) + 1 : Nat) : Int))) (.inr (.inl rfl)) rfl (F69.ev 54 rfl) (F69.ev 55 rfl) (dec_of (by omega))) rfl fun _ F70 => ?_)
         rw [show (decide (x1.b ≠ (((((kk + 1) + 1) + 1) + 1 : Nat) : Int))) = false from decide_eq_false (fun h => h (by rw [(marksOf_at p0 hx1).1, hj_1]; rfl))] at F70
         refine s_end (x_normal (wp_cond_false (F70.ev 56 rfl) (wp_skip (x_normal (wp_seq (wp_region_lit (l_op (f_mv F70 rfl rfl rfl rfl rfl fun _ F71 => ?_))))))))
         refine l_op (f_val F71 rfl rfl (r_add (z := ((((((kk + 1) + 1) + 1) + 1) + 1 : Nat) : Int)) rfl (F71.ev 57 rfl) rfl (by first | rfl | omega) ⟨by first | omega | (unfold i64ok at *; omega), by first | omega | (unfold i64ok at *; omega)⟩) rfl fun _ F72 => ?_)
         refine l_op (f_as F72 rfl rfl rfl rfl rfl fun _ F73 => ?_)
         refine s_end (x_normal (wp_seq (wp_seq ?_)))
         refine x_draw (fun aZ wZ => Fr 70 [(0, .slice a_a a_n a_c), (1, .int .i64 ((((((kk + 1) + 1) + 1) + 1) + 1 : Nat) : Int)), (5, .int .i64 ((j : Nat) : Int)), (66, .bool false)] aZ ∧ Mv [] w48 [] wZ) [] mixed S48.at' (listed := #[false, false, false, false, false, false, false, false]) rfl (fun w75 S75 => ?_) [] rfl ?_
         · skip
           refine g_take F73 rfl (i := 0) (listed' := #[true, false, false, false, false, false, false, false]) rfl (by kernel_rfl) (by kernel_rfl) (by kernel_rfl) (fun _ _ _ h => h) (Sd.of (Mv.refl S75.at') [] rfl) rfl rfl rfl rfl (fun _ hz => (r_move rfl (F73.ev 0 rfl))) fun _ F76 => ?_
           refine g_take F76 rfl (i := 1) (listed' := #[true, true, false, false, false, false, false, false]) rfl (by kernel_rfl) (by kernel_rfl) (by kernel_rfl) (fun _ _ _ h => h) (Sd.of (Mv.refl S75.at') [] rfl) rfl rfl rfl rfl (fun _ hz => (r_move rfl (F76.ev 5 rfl))) fun _ F77 => ?_
           obtain ⟨B78, O78, y78, ad78, hy78, oky78, ln78, cl78⟩ := Rd.atK (Nat.succ_pos _) (Rd.mv (Nat.succ_pos _) V_v_a (S3.trans (S32.trans (S48.trans S75)))) j (by first | assumption | omega)
           clear ln78
           obtain rfl := Option.some.inj (hx1.symm.trans hy78)
           clear hy78 oky78
           refine g_take F77 rfl (i := 2) (listed' := #[true, true, true, false, false, false, false, false]) rfl (by kernel_rfl) (by kernel_rfl) (by kernel_rfl) (fun _ _ _ h => h) (Sd.of (Mv.refl S75.at') [] rfl) rfl rfl rfl rfl (fun _ hz => (r_indexAddr (i := j) ET_66 rfl ((F77.ev 59 rfl).trans (by rw [ad78])) (F77.ev 60 rfl) (by omega) (by first | assumption | omega))) fun _ F79 => ?_
           refine g_take F79 rfl (i := 3) (listed' := #[true, true, true, true, false, false, false, false]) rfl (by kernel_rfl) (by kernel_rfl) (by kernel_rfl) (fun _ _ _ h => h) (Sd.of (Mv.refl S75.at') [] rfl) rfl rfl rfl rfl (fun _ hz => (r_field FI_148_5 rfl (F79.ev 61 rfl) rfl)) fun _ F80 => ?_
           refine g_take (v := .string x1.text) F80 rfl (i := 4) (listed' := #[true, true, true, true, true, false, false, false]) rfl (by kernel_rfl) (by kernel_rfl) (by kernel_rfl) (fun _ _ _ h => h) (Sd.of (Mv.refl S75.at') [] rfl) rfl rfl rfl rfl (fun _ hz => (r_load (cs := [.string x1.text]) TI_9 rfl (F80.ev 62 rfl) rfl (fun _ => rfl) (elem_sub (f := 5) (cl78 _ hz.kp) [.string x1.text] rfl))) fun _ F81 => ?_
           refine g_take F81 rfl (i := 5) (listed' := #[true, true, true, true, true, true, false, false]) rfl (by kernel_rfl) (by kernel_rfl) (by kernel_rfl) (fun _ _ _ h => h) (Sd.of (Mv.refl S75.at') [] rfl) rfl rfl rfl rfl (fun _ hz => (r_move rfl (F81.ev 1 rfl))) fun _ F82 => ?_
           refine d_one (i := 6) (listed' := #[true, true, true, true, true, true, true, false]) rfl (by kernel_rfl) rfl rfl ?_
           refine f_call F82 CF_127 rfl rfl rfl rfl (lc (F82.ev 64 rfl) rfl) (laws_markText_c (H := fun _ => True) (k := ((((kk + 1) + 1) + 1) + 1) + 1) ⟨by omega, by first | omega | (unfold i64ok at *; omega)⟩) ?_
           rintro _ w83 ⟨rfl, m83, Q2⟩
           refine ⟨_, rfl, fun _ F84 => ?_⟩
           have S83 := At.frame0 S75.at' m83
           clear m83
           refine ⟨Sd.of S83 [] rfl, ?_⟩
           refine g_take F84 rfl (i := 7) (listed' := #[true, true, true, true, true, true, true, true]) rfl (by kernel_rfl) (by kernel_rfl) (by kernel_rfl) (fun _ _ _ h => h) (Sd.of S83 [] rfl) rfl rfl rfl rfl (fun _ hz => (r_cmps (b := (decide (x1.text ≠ (markT (((((kk + 1) + 1) + 1) + 1) + 1))))) (.inr (.inl rfl)) rfl (F84.ev 63 rfl) (F84.ev 65 rfl) rfl)) fun _ F85 => ?_
           rw [show (decide (x1.text ≠ (markT (((((kk + 1) + 1) + 1) + 1) + 1)))) = false from decide_eq_false (fun h => h (by rw [(marksOf_at p0 hx1).1, hj_1]; rfl))] at F85
           refine wpAnyH_done (by kernel_rfl) (x_normal ?_) _
           exact ⟨F85.cut rfl, ((S75.trans S83).pick [] rfl)⟩
         · rintro a86 w86 ⟨F86, S86⟩
           refine x_normal (wp_cond_false (F86.ev 66 rfl) (wp_skip (x_normal (wp_region_lit (l_op (f_mv F86 rfl rfl rfl rfl rfl fun _ F87 => ?_))))))
           refine l_op (f_val F87 rfl rfl (r_add (z := (((((((kk + 1) + 1) + 1) + 1) + 1) + 1 : Nat) : Int)) rfl (F87.ev 67 rfl) rfl (by first | rfl | omega) ⟨by first | omega | (unfold i64ok at *; omega), by first | omega | (unfold i64ok at *; omega)⟩) rfl fun _ F88 => ?_)
           refine l_op (f_as F88 rfl rfl rfl rfl rfl fun _ F89 => ?_)
           refine s_end (x_block_normal (x_normal (wp_region_lit (l_op (f_mv F89 rfl rfl rfl rfl rfl fun _ F90 => ?_)))))
           refine l_op (f_val F90 rfl rfl (r_add (z := ((j + 1 : Nat) : Int)) rfl (F90.ev 10 rfl) rfl (by first | rfl | omega) ⟨by first | omega | (unfold i64ok at *; omega), by first | omega | (unfold i64ok at *; omega)⟩) rfl fun _ F91 => ?_)
           refine l_op (f_as F91 rfl rfl rfl rfl rfl fun _ F92 => ?_)
           refine s_end ?_
           refine x_normal ⟨j + 1, by omega, (((((kk + 1) + 1) + 1) + 1) + 1) + 1, F92.cut rfl, ((S3.trans (S32.trans (S48.trans S86))).pick [] rfl), by omega, by omega⟩
   · skip
     refine wp_exit (x_then_exit (x_then_exit (x_block_here (x_normal (wp_seq (wp_region_lit (l_op (f_mv F7 rfl rfl rfl rfl rfl fun _ F93 => ?_))))))))
     refine l_op (f_as F93 rfl rfl rfl rfl rfl fun _ F94 => ?_)
     refine s_end (x_normal (wp_ret ?_))
     refine x_done (v := .int .i64 ((kk : Nat) : Int)) F94 (results_1 Try.results82 (.tmp (F94.ev 4 rfl))) ?_
     exact ⟨(by rw [(show ((kk : Nat) : Int) = ((k + 6 * n : Nat) : Int) from by omega)]), (Mv.pick S3 [] rfl)⟩
theorem laws_heldAnswerS_c {w : World} {H : Nat → Prop} {a : List AnsD} {a_a : Option Addr} {a_n a_c : Nat} {k : Nat} {n : Nat} (v_a : Rd 3 encR okR H w (.slice a_a a_n a_c) a) (h_k : i64ok (k : Int)) (p0 : a = marksOf markR k n) (p1 : k + 3 * n ≤ 4611686018427387904) :
    Calls Try.prog 83 #[.slice a_a a_n a_c, .int .i64 ((k : Nat) : Int)] w fun e w' => e = .returned (.int .i64 ((k + 3 * n : Nat) : Int)) ∧ Mv [] w [] w' := by
 have uU : True := (fun _ _ => trivial) h_k p1
 clear uU
 have V_v_a : Rd 3 encR okR (V H w []) w (.slice a_a a_n a_c) a := Rd.start v_a (fun _ _ => fps_nil _)
 obtain ⟨ln_a, le_a, mx_a, ni_a⟩ := Rd.inv v_a
 refine calls_enter 41 Try.func83 rfl Try.ntmps83 (Nat.le_of_ble_eq_true rfl) (fun _ F0i => ?_)
 have F0 : Fr 41 [(0, .slice a_a a_n a_c), (1, .int .i64 ((k : Nat) : Int))] _ := F0i
 clear F0i
 refine wp_seq ?_
 have hln : a_n = n := by rw [ln_a, p0, marksOf_length]
 refine wp_region_lit (l_op (f_val F0 rfl rfl (r_assign rfl rfl) rfl fun _ F1 => ?_))
 refine s_end (x_normal (wp_seq (wp_seq (wp_region_lit (l_op (f_val F1 rfl rfl (r_assign rfl rfl) rfl fun _ F2 => ?_))))))
 refine s_end (x_normal (wp_block ?_))
 refine x_loop (fun (j : Nat) aZ wZ => ∃ (kk : Nat), Fr 41 [(5, .int .i64 ((j : Nat) : Int)), (0, .slice a_a a_n a_c), (1, .int .i64 ((kk : Nat) : Int))] aZ ∧ Mv [] w [] wZ ∧ (j ≤ a_n) ∧ (kk = k + 3 * j)) (fun (j : Nat) => a_n - j) (0) ?_ ?_
 · exact ⟨k, F2.cut rfl, (Mv.refl (At.nil w)), by omega, by omega⟩
 · rintro j a3 w3 ⟨kk, F3, S3, hj_0, hj_1⟩
   refine wp_seq (wp_seq (wp_region_lit (l_op (f_mv F3 rfl rfl rfl rfl rfl fun _ F4 => ?_))))
   refine l_op (f_mv F4 rfl rfl rfl rfl rfl fun _ F5 => ?_)
   refine l_op (f_val F5 rfl rfl (r_len Try.underlying67 rfl (F5.ev 7 rfl)) rfl fun _ F6 => ?_)
   refine l_op (f_val F6 rfl rfl (r_cmp (b := decide (j < a_n)) (.inr (.inr (.inl rfl))) rfl (F6.ev 6 rfl) (F6.ev 8 rfl) (dec_of (by omega))) rfl fun _ F7 => ?_)
   refine s_end (x_normal (x_cond (p := j < a_n) (F7.ev 9 rfl) (fun h8 => ?_) (fun h8 => ?_)))
   · skip
     refine wp_skip (x_normal (wp_seq (wp_block (wp_seq (wp_seq (wp_region_lit (l_op (f_mv F7 rfl rfl rfl rfl rfl fun _ F9 => ?_))))))))
     refine l_op (f_mv F9 rfl rfl rfl rfl rfl fun _ F10 => ?_)
     obtain ⟨B11, O11, x1, ad11, hx1, okx1, ln11, cl11⟩ := Rd.at (Rd.mv (Nat.succ_pos _) V_v_a S3) j (by first | assumption | omega)
     clear ln11
     refine l_op (f_val F10 rfl rfl (r_indexAddr (i := j) ET_67 rfl ((F10.ev 12 rfl).trans (by rw [ad11])) (F10.ev 13 rfl) (by omega) (by first | assumption | omega)) rfl fun _ F12 => ?_)
     refine l_op (f_val F12 rfl rfl (r_field FI_151_0 rfl (F12.ev 14 rfl) rfl) rfl fun _ F13 => ?_)
     refine l_op (f_val (v := .int .i64 x1.code) F13 rfl rfl (r_load (cs := [.int .i64 x1.code]) TI_3 rfl (F13.ev 15 rfl) rfl (fun _ => rfl) (elem_sub (f := 0) cl11 [.int .i64 x1.code] rfl)) rfl fun _ F14 => ?_)
     refine l_op (f_mv F14 rfl rfl rfl rfl rfl fun _ F15 => ?_)
     refine l_op (f_val F15 rfl rfl (r_cmp (b := decide (x1.code ≠ ((kk : Nat) : Int))) (.inr (.inl rfl)) rfl (F15.ev 16 rfl) (F15.ev 17 rfl) (dec_of (by omega))) rfl fun _ F16 => ?_)
     rw [show (decide (x1.code ≠ ((kk : Nat) : Int))) = false from decide_eq_false (fun h => h (by rw [(marksOf_at p0 hx1).1, hj_1]; rfl))] at F16
     refine s_end (x_normal (wp_cond_false (F16.ev 18 rfl) (wp_skip (x_normal (wp_seq (wp_region_lit (l_op (f_mv F16 rfl rfl rfl rfl rfl fun _ F17 => ?_))))))))
     refine l_op (f_val F17 rfl rfl (r_add (z := ((kk + 1 : Nat) : Int)) rfl (F17.ev 19 rfl) rfl (by first | rfl | omega) ⟨by first | omega | (unfold i64ok at *; omega), by first | omega | (unfold i64ok at *; omega)⟩) rfl fun _ F18 => ?_)
     refine l_op (f_as F18 rfl rfl rfl rfl rfl fun _ F19 => ?_)
     refine s_end (x_normal (wp_seq (wp_seq (wp_region_lit (l_op (f_mv F19 rfl rfl rfl rfl rfl fun _ F20 => ?_))))))
     refine l_op (f_mv F20 rfl rfl rfl rfl rfl fun _ F21 => ?_)
     obtain ⟨B22, O22, y22, ad22, hy22, oky22, ln22, cl22⟩ := Rd.at (Rd.mv (Nat.succ_pos _) V_v_a S3) j (by first | assumption | omega)
     clear ln22
     obtain rfl := Option.some.inj (hx1.symm.trans hy22)
     clear hy22 oky22
     refine l_op (f_val F21 rfl rfl (r_indexAddr (i := j) ET_67 rfl ((F21.ev 21 rfl).trans (by rw [ad22])) (F21.ev 22 rfl) (by omega) (by first | assumption | omega)) rfl fun _ F23 => ?_)
     refine l_op (f_val F23 rfl rfl (r_field FI_151_1 rfl (F23.ev 23 rfl) rfl) rfl fun _ F24 => ?_)
     refine l_op (f_val (v := .int .i64 x1.n) F24 rfl rfl (r_load (cs := [.int .i64 x1.n]) TI_3 rfl (F24.ev 24 rfl) rfl (fun _ => rfl) (elem_sub (f := 1) cl22 [.int .i64 x1.n] rfl)) rfl fun _ F25 => ?_)
     refine l_op (f_mv F25 rfl rfl rfl rfl rfl fun _ F26 => ?_)
     refine l_op (f_val F26 rfl rfl (r_cmp (b := decide (x1.n ≠ ((kk + 1 : Nat) : Int))) (.inr (.inl rfl)) rfl (F26.ev 25 rfl) (F26.ev 26 rfl) (dec_of (by omega))) rfl fun _ F27 => ?_)
     rw [show (decide (x1.n ≠ ((kk + 1 : Nat) : Int))) = false from decide_eq_false (fun h => h (by rw [(marksOf_at p0 hx1).1, hj_1]; rfl))] at F27
     refine s_end (x_normal (wp_cond_false (F27.ev 27 rfl) (wp_skip (x_normal (wp_seq (wp_region_lit (l_op (f_mv F27 rfl rfl rfl rfl rfl fun _ F28 => ?_))))))))
     refine l_op (f_val F28 rfl rfl (r_add (z := (((kk + 1) + 1 : Nat) : Int)) rfl (F28.ev 28 rfl) rfl (by first | rfl | omega) ⟨by first | omega | (unfold i64ok at *; omega), by first | omega | (unfold i64ok at *; omega)⟩) rfl fun _ F29 => ?_)
     refine l_op (f_as F29 rfl rfl rfl rfl rfl fun _ F30 => ?_)
     refine s_end (x_normal (wp_seq (wp_seq ?_)))
     refine x_draw (fun aZ wZ => Fr 41 [(0, .slice a_a a_n a_c), (1, .int .i64 (((kk + 1) + 1 : Nat) : Int)), (5, .int .i64 ((j : Nat) : Int)), (37, .bool false)] aZ ∧ Mv [] w3 [] wZ) [] mixed S3.at' (listed := #[false, false, false, false, false, false, false, false]) rfl (fun w32 S32 => ?_) [] rfl ?_
     · skip
       refine g_take F30 rfl (i := 0) (listed' := #[true, false, false, false, false, false, false, false]) rfl (by kernel_rfl) (by kernel_rfl) (by kernel_rfl) (fun _ _ _ h => h) (Sd.of (Mv.refl S32.at') [] rfl) rfl rfl rfl rfl (fun _ hz => (r_move rfl (F30.ev 0 rfl))) fun _ F33 => ?_
       refine g_take F33 rfl (i := 1) (listed' := #[true, true, false, false, false, false, false, false]) rfl (by kernel_rfl) (by kernel_rfl) (by kernel_rfl) (fun _ _ _ h => h) (Sd.of (Mv.refl S32.at') [] rfl) rfl rfl rfl rfl (fun _ hz => (r_move rfl (F33.ev 5 rfl))) fun _ F34 => ?_
       obtain ⟨B35, O35, y35, ad35, hy35, oky35, ln35, cl35⟩ := Rd.atK (Nat.succ_pos _) (Rd.mv (Nat.succ_pos _) V_v_a (S3.trans S32)) j (by first | assumption | omega)
       clear ln35
       obtain rfl := Option.some.inj (hx1.symm.trans hy35)
       clear hy35 oky35
       refine g_take F34 rfl (i := 2) (listed' := #[true, true, true, false, false, false, false, false]) rfl (by kernel_rfl) (by kernel_rfl) (by kernel_rfl) (fun _ _ _ h => h) (Sd.of (Mv.refl S32.at') [] rfl) rfl rfl rfl rfl (fun _ hz => (r_indexAddr (i := j) ET_67 rfl ((F34.ev 30 rfl).trans (by rw [ad35])) (F34.ev 31 rfl) (by omega) (by first | assumption | omega))) fun _ F36 => ?_
       refine g_take F36 rfl (i := 3) (listed' := #[true, true, true, true, false, false, false, false]) rfl (by kernel_rfl) (by kernel_rfl) (by kernel_rfl) (fun _ _ _ h => h) (Sd.of (Mv.refl S32.at') [] rfl) rfl rfl rfl rfl (fun _ hz => (r_field FI_151_2 rfl (F36.ev 32 rfl) rfl)) fun _ F37 => ?_
       refine g_take (v := .string x1.text) F37 rfl (i := 4) (listed' := #[true, true, true, true, true, false, false, false]) rfl (by kernel_rfl) (by kernel_rfl) (by kernel_rfl) (fun _ _ _ h => h) (Sd.of (Mv.refl S32.at') [] rfl) rfl rfl rfl rfl (fun _ hz => (r_load (cs := [.string x1.text]) TI_9 rfl (F37.ev 33 rfl) rfl (fun _ => rfl) (elem_sub (f := 2) (cl35 _ hz.kp) [.string x1.text] rfl))) fun _ F38 => ?_
       refine g_take F38 rfl (i := 5) (listed' := #[true, true, true, true, true, true, false, false]) rfl (by kernel_rfl) (by kernel_rfl) (by kernel_rfl) (fun _ _ _ h => h) (Sd.of (Mv.refl S32.at') [] rfl) rfl rfl rfl rfl (fun _ hz => (r_move rfl (F38.ev 1 rfl))) fun _ F39 => ?_
       refine d_one (i := 6) (listed' := #[true, true, true, true, true, true, true, false]) rfl (by kernel_rfl) rfl rfl ?_
       refine f_call F39 CF_127 rfl rfl rfl rfl (lc (F39.ev 35 rfl) rfl) (laws_markText_c (H := fun _ => True) (k := (kk + 1) + 1) ⟨by omega, by first | omega | (unfold i64ok at *; omega)⟩) ?_
       rintro _ w40 ⟨rfl, m40, Q0⟩
       refine ⟨_, rfl, fun _ F41 => ?_⟩
       have S40 := At.frame0 S32.at' m40
       clear m40
       refine ⟨Sd.of S40 [] rfl, ?_⟩
       refine g_take F41 rfl (i := 7) (listed' := #[true, true, true, true, true, true, true, true]) rfl (by kernel_rfl) (by kernel_rfl) (by kernel_rfl) (fun _ _ _ h => h) (Sd.of S40 [] rfl) rfl rfl rfl rfl (fun _ hz => (r_cmps (b := (decide (x1.text ≠ (markT ((kk + 1) + 1))))) (.inr (.inl rfl)) rfl (F41.ev 34 rfl) (F41.ev 36 rfl) rfl)) fun _ F42 => ?_
       rw [show (decide (x1.text ≠ (markT ((kk + 1) + 1)))) = false from decide_eq_false (fun h => h (by rw [(marksOf_at p0 hx1).1, hj_1]; rfl))] at F42
       refine wpAnyH_done (by kernel_rfl) (x_normal ?_) _
       exact ⟨F42.cut rfl, ((S32.trans S40).pick [] rfl)⟩
     · rintro a43 w43 ⟨F43, S43⟩
       refine x_normal (wp_cond_false (F43.ev 37 rfl) (wp_skip (x_normal (wp_region_lit (l_op (f_mv F43 rfl rfl rfl rfl rfl fun _ F44 => ?_))))))
       refine l_op (f_val F44 rfl rfl (r_add (z := ((((kk + 1) + 1) + 1 : Nat) : Int)) rfl (F44.ev 38 rfl) rfl (by first | rfl | omega) ⟨by first | omega | (unfold i64ok at *; omega), by first | omega | (unfold i64ok at *; omega)⟩) rfl fun _ F45 => ?_)
       refine l_op (f_as F45 rfl rfl rfl rfl rfl fun _ F46 => ?_)
       refine s_end (x_block_normal (x_normal (wp_region_lit (l_op (f_mv F46 rfl rfl rfl rfl rfl fun _ F47 => ?_)))))
       refine l_op (f_val F47 rfl rfl (r_add (z := ((j + 1 : Nat) : Int)) rfl (F47.ev 10 rfl) rfl (by first | rfl | omega) ⟨by first | omega | (unfold i64ok at *; omega), by first | omega | (unfold i64ok at *; omega)⟩) rfl fun _ F48 => ?_)
       refine l_op (f_as F48 rfl rfl rfl rfl rfl fun _ F49 => ?_)
       refine s_end ?_
       refine x_normal ⟨j + 1, by omega, ((kk + 1) + 1) + 1, F49.cut rfl, ((S3.trans S43).pick [] rfl), by omega, by omega⟩
   · skip
     refine wp_exit (x_then_exit (x_then_exit (x_block_here (x_normal (wp_seq (wp_region_lit (l_op (f_mv F7 rfl rfl rfl rfl rfl fun _ F50 => ?_))))))))
     refine l_op (f_as F50 rfl rfl rfl rfl rfl fun _ F51 => ?_)
     refine s_end (x_normal (wp_ret ?_))
     refine x_done (v := .int .i64 ((kk : Nat) : Int)) F51 (results_1 Try.results83 (.tmp (F51.ev 4 rfl))) ?_
     exact ⟨(by rw [(show ((kk : Nat) : Int) = ((k + 3 * n : Nat) : Int) from by omega)]), (Mv.pick S3 [] rfl)⟩
theorem laws_heldIntS_c {w : World} {H : Nat → Prop} {a : List Int} {a_a : Option Addr} {a_n a_c : Nat} {k : Nat} {n : Nat} (v_a : Rd 1 encI okI H w (.slice a_a a_n a_c) a) (h_k : i64ok (k : Int)) (p0 : a = marksOf markI k n) (p1 : k + 1 * n ≤ 4611686018427387904) :
    Calls Try.prog 85 #[.slice a_a a_n a_c, .int .i64 ((k : Nat) : Int)] w fun e w' => e = .returned (.int .i64 ((k + n : Nat) : Int)) ∧ Mv [] w [] w' := by
 have uU : True := (fun _ _ => trivial) h_k p1
 clear uU
 have V_v_a : Rd 1 encI okI (V H w []) w (.slice a_a a_n a_c) a := Rd.start v_a (fun _ _ => fps_nil _)
 obtain ⟨ln_a, le_a, mx_a, ni_a⟩ := Rd.inv v_a
 refine calls_enter 21 Try.func85 rfl Try.ntmps85 (Nat.le_of_ble_eq_true rfl) (fun _ F0i => ?_)
 have F0 : Fr 21 [(0, .slice a_a a_n a_c), (1, .int .i64 ((k : Nat) : Int))] _ := F0i
 clear F0i
 refine wp_seq ?_
 have hln : a_n = n := by rw [ln_a, p0, marksOf_length]
 refine wp_region_lit (l_op (f_val F0 rfl rfl (r_assign rfl rfl) rfl fun _ F1 => ?_))
 refine s_end (x_normal (wp_seq (wp_seq (wp_region_lit (l_op (f_val F1 rfl rfl (r_assign rfl rfl) rfl fun _ F2 => ?_))))))
 refine s_end (x_normal (wp_block ?_))
 refine x_loop (fun (j : Nat) aZ wZ => ∃ (kk : Nat), Fr 21 [(5, .int .i64 ((j : Nat) : Int)), (0, .slice a_a a_n a_c), (1, .int .i64 ((kk : Nat) : Int))] aZ ∧ Mv [] w [] wZ ∧ (j ≤ a_n) ∧ (kk = k + 1 * j)) (fun (j : Nat) => a_n - j) (0) ?_ ?_
 · exact ⟨k, F2.cut rfl, (Mv.refl (At.nil w)), by omega, by omega⟩
 · rintro j a3 w3 ⟨kk, F3, S3, hj_0, hj_1⟩
   refine wp_seq (wp_seq (wp_region_lit (l_op (f_mv F3 rfl rfl rfl rfl rfl fun _ F4 => ?_))))
   refine l_op (f_mv F4 rfl rfl rfl rfl rfl fun _ F5 => ?_)
   refine l_op (f_val F5 rfl rfl (r_len Try.underlying53 rfl (F5.ev 7 rfl)) rfl fun _ F6 => ?_)
   refine l_op (f_val F6 rfl rfl (r_cmp (b := decide (j < a_n)) (.inr (.inr (.inl rfl))) rfl (F6.ev 6 rfl) (F6.ev 8 rfl) (dec_of (by omega))) rfl fun _ F7 => ?_)
   refine s_end (x_normal (x_cond (p := j < a_n) (F7.ev 9 rfl) (fun h8 => ?_) (fun h8 => ?_)))
   · skip
     refine wp_skip (x_normal (wp_seq (wp_block (wp_seq (wp_seq (wp_region_lit (l_op (f_mv F7 rfl rfl rfl rfl rfl fun _ F9 => ?_))))))))
     refine l_op (f_mv F9 rfl rfl rfl rfl rfl fun _ F10 => ?_)
     obtain ⟨B11, O11, x1, ad11, hx1, okx1, ln11, cl11⟩ := Rd.at (Rd.mv (Nat.succ_pos _) V_v_a S3) j (by first | assumption | omega)
     clear ln11
     refine l_op (f_val F10 rfl rfl (r_indexAddr (i := j) ET_53 rfl ((F10.ev 12 rfl).trans (by rw [ad11])) (F10.ev 13 rfl) (by omega) (by first | assumption | omega)) rfl fun _ F12 => ?_)
     refine l_op (f_val (v := .int .i64 x1) F12 rfl rfl (r_load (cs := [.int .i64 x1]) TI_3 rfl (F12.ev 14 rfl) rfl (fun _ => rfl) (elem_sub (f := 0) cl11 [.int .i64 x1] rfl)) rfl fun _ F13 => ?_)
     refine l_op (f_mv F13 rfl rfl rfl rfl rfl fun _ F14 => ?_)
     refine l_op (f_val F14 rfl rfl (r_cmp (b := decide (x1 ≠ ((kk : Nat) : Int))) (.inr (.inl rfl)) rfl (F14.ev 15 rfl) (F14.ev 16 rfl) (dec_of (by omega))) rfl fun _ F15 => ?_)
     rw [show (decide (x1 ≠ ((kk : Nat) : Int))) = false from decide_eq_false (fun h => h (by rw [(marksOf_at p0 hx1).1, hj_1]; unfold markI; omega))] at F15
     refine s_end (x_normal (wp_cond_false (F15.ev 17 rfl) (wp_skip (x_normal (wp_region_lit (l_op (f_mv F15 rfl rfl rfl rfl rfl fun _ F16 => ?_)))))))
     refine l_op (f_val F16 rfl rfl (r_add (z := ((kk + 1 : Nat) : Int)) rfl (F16.ev 18 rfl) rfl (by first | rfl | omega) ⟨by first | omega | (unfold i64ok at *; omega), by first | omega | (unfold i64ok at *; omega)⟩) rfl fun _ F17 => ?_)
     refine l_op (f_as F17 rfl rfl rfl rfl rfl fun _ F18 => ?_)
     refine s_end (x_block_normal (x_normal (wp_region_lit (l_op (f_mv F18 rfl rfl rfl rfl rfl fun _ F19 => ?_)))))
     refine l_op (f_val F19 rfl rfl (r_add (z := ((j + 1 : Nat) : Int)) rfl (F19.ev 10 rfl) rfl (by first | rfl | omega) ⟨by first | omega | (unfold i64ok at *; omega), by first | omega | (unfold i64ok at *; omega)⟩) rfl fun _ F20 => ?_)
     refine l_op (f_as F20 rfl rfl rfl rfl rfl fun _ F21 => ?_)
     refine s_end ?_
     refine x_normal ⟨j + 1, by omega, kk + 1, F21.cut rfl, (S3.pick [] rfl), by omega, by omega⟩
   · skip
     refine wp_exit (x_then_exit (x_then_exit (x_block_here (x_normal (wp_seq (wp_region_lit (l_op (f_mv F7 rfl rfl rfl rfl rfl fun _ F22 => ?_))))))))
     refine l_op (f_as F22 rfl rfl rfl rfl rfl fun _ F23 => ?_)
     refine s_end (x_normal (wp_ret ?_))
     refine x_done (v := .int .i64 ((kk : Nat) : Int)) F23 (results_1 Try.results85 (.tmp (F23.ev 4 rfl))) ?_
     exact ⟨(by rw [(show ((kk : Nat) : Int) = ((k + n : Nat) : Int) from by omega)]), (Mv.pick S3 [] rfl)⟩
theorem slices_Clone_Simpl_Call_impl_Call_c {w : World} {H : Nat → Prop} {s : List CallD} {s_a : Option Addr} {s_n s_c : Nat} (v_s : Rd 6 encK okK H w (.slice s_a s_n s_c) s) (p0 : s_n ≤ 1099511627776) :
    Calls Try.prog 134 #[.slice s_a s_n s_c] w fun e w' => ∃ (r0_a : Option Addr), ∃ (r0_n : Nat), ∃ (r0_c : Nat), e = .returned (.slice r0_a r0_n r0_c) ∧ Mv [] w [ow 148 6 encK okK (.slice r0_a r0_n r0_c) s] w' := by
 have uU : True := (fun _ => trivial) p0
 clear uU
 have Q0 : Rd 6 encK okK (V H w []) w (.slice s_a s_n s_c) s := Rd.start v_s (fun _ _ => fps_nil _)
 obtain ⟨ln_s, le_s, mx_s, ni_s⟩ := Rd.inv v_s
 refine calls_enter 8 Try.func134 rfl Try.ntmps134 (Nat.le_of_ble_eq_true rfl) (fun _ F0i => ?_)
 have F0 : Fr 8 [(0, .slice s_a s_n s_c)] _ := F0i
 clear F0i
 refine wp_seq (wp_region_lit (l_op (f_val F0 rfl rfl (r_assign rfl rfl) rfl fun _ F1 => ?_)))
 refine s_end (x_normal (wp_seq (wp_seq (wp_region_lit (l_op (f_mv F1 rfl rfl rfl rfl rfl fun _ F2 => ?_))))))
 refine l_op (f_val F2 rfl rfl (r_slNil Try.underlying66 rfl (F2.ev 3 rfl) rfl) rfl fun _ F3 => ?_)
 refine s_end (x_normal (x_condb (b := s_a.isNone) (F3.ev 4 rfl) (fun h4 => ?_) (fun h4 => ?_)))
 · skip
   refine wp_seq (wp_region_lit (l_op (f_val F3 rfl rfl (r_assign rfl rfl) rfl fun _ F5 => ?_)))
   refine s_end (x_normal (wp_ret (x_then_ret ?_)))
   have S6 : Mv [] w [ow 148 6 encK okK (.slice none 0 0) ([] : List CallD)] w := mv_nil (At.nil w)
   refine x_done (v := .slice none 0 0) F5 (results_1 Try.results134 (.tmp (F5.ev 2 rfl))) ?_
   exact ⟨none, 0, 0, rfl, (Mv.cast (Mv.pick S6 [0] rfl) (by rw [(show ([] : List CallD) = s from by first | exact nil_of ni_s (by assumption) | exact List.nil_append _ | simp)]; all_goals rfl))⟩
 · skip
   refine wp_skip (x_normal (wp_seq (wp_region_lit (l_op (f_buildSl (ok := okK) (vs := []) F3 (At.nil w) (([] : List CallD)) ET_66 rfl rfl rfl rfl rfl rfl rfl rfl rfl (by simp) fun b7 _ w7 F8 S7 => ?_)))))
   refine l_op (f_mv F8 rfl rfl rfl rfl rfl fun _ F9 => ?_)
   refine l_op (f_app (news := s) F9 S7.at' 0 ET_66 rfl rfl rfl rfl rfl rfl (F9.ev 5 rfl) (F9.ev 6 rfl) ((Rd.mv (Nat.succ_pos _) Q0 S7)).1 (by ((repeat (first | rw [List.length_append] | rw [List.length_cons] | rw [List.length_nil] | rw [List.length_take] | rw [List.length_drop])) <;> omega)) fun A10 N10 C10 _ w10 F11 S10 l10 => ?_)
   refine l_op (f_as F11 rfl rfl rfl rfl rfl fun _ F12 => ?_)
   refine s_end (x_normal (wp_ret ?_))
   refine x_done (v := .slice A10 N10 C10) F12 (results_1 Try.results134 (.tmp (F12.ev 2 rfl))) ?_
   exact ⟨A10, N10, C10, rfl, (Mv.cast (Mv.pick (S7.trans S10) [0] rfl) (by rw [(show (([] : List CallD) ++ s) = s from by first | exact nil_of ni_s (by assumption) | exact List.nil_append _ | simp)]; all_goals rfl))⟩
theorem slices_Clone_Simpl_Answer_impl_Answer_c {w : World} {H : Nat → Prop} {s : List AnsD} {s_a : Option Addr} {s_n s_c : Nat} (v_s : Rd 3 encR okR H w (.slice s_a s_n s_c) s) (p0 : s_n ≤ 1099511627776) :
    Calls Try.prog 135 #[.slice s_a s_n s_c] w fun e w' => ∃ (r0_a : Option Addr), ∃ (r0_n : Nat), ∃ (r0_c : Nat), e = .returned (.slice r0_a r0_n r0_c) ∧ Mv [] w [ow 151 3 encR okR (.slice r0_a r0_n r0_c) s] w' := by
 have uU : True := (fun _ => trivial) p0
 clear uU
 have Q0 : Rd 3 encR okR (V H w []) w (.slice s_a s_n s_c) s := Rd.start v_s (fun _ _ => fps_nil _)
 obtain ⟨ln_s, le_s, mx_s, ni_s⟩ := Rd.inv v_s
 refine calls_enter 8 Try.func135 rfl Try.ntmps135 (Nat.le_of_ble_eq_true rfl) (fun _ F0i => ?_)
 have F0 : Fr 8 [(0, .slice s_a s_n s_c)] _ := F0i
 clear F0i
 refine wp_seq (wp_region_lit (l_op (f_val F0 rfl rfl (r_assign rfl rfl) rfl fun _ F1 => ?_)))
 refine s_end (x_normal (wp_seq (wp_seq (wp_region_lit (l_op (f_mv F1 rfl rfl rfl rfl rfl fun _ F2 => ?_))))))
 refine l_op (f_val F2 rfl rfl (r_slNil Try.underlying67 rfl (F2.ev 3 rfl) rfl) rfl fun _ F3 => ?_)
 refine s_end (x_normal (x_condb (b := s_a.isNone) (F3.ev 4 rfl) (fun h4 => ?_) (fun h4 => ?_)))
 · skip
   refine wp_seq (wp_region_lit (l_op (f_val F3 rfl rfl (r_assign rfl rfl) rfl fun _ F5 => ?_)))
   refine s_end (x_normal (wp_ret (x_then_ret ?_)))
   have S6 : Mv [] w [ow 151 3 encR okR (.slice none 0 0) ([] : List AnsD)] w := mv_nil (At.nil w)
   refine x_done (v := .slice none 0 0) F5 (results_1 Try.results135 (.tmp (F5.ev 2 rfl))) ?_
   exact ⟨none, 0, 0, rfl, (Mv.cast (Mv.pick S6 [0] rfl) (by rw [(show ([] : List AnsD) = s from by first | exact nil_of ni_s (by assumption) | exact List.nil_append _ | simp)]; all_goals rfl))⟩
 · skip
   refine wp_skip (x_normal (wp_seq (wp_region_lit (l_op (f_buildSl (ok := okR) (vs := []) F3 (At.nil w) (([] : List AnsD)) ET_67 rfl rfl rfl rfl rfl rfl rfl rfl rfl (by simp) fun b7 _ w7 F8 S7 => ?_)))))
   refine l_op (f_mv F8 rfl rfl rfl rfl rfl fun _ F9 => ?_)
   refine l_op (f_app (news := s) F9 S7.at' 0 ET_67 rfl rfl rfl rfl rfl rfl (F9.ev 5 rfl) (F9.ev 6 rfl) ((Rd.mv (Nat.succ_pos _) Q0 S7)).1 (by ((repeat (first | rw [List.length_append] | rw [List.length_cons] | rw [List.length_nil] | rw [List.length_take] | rw [List.length_drop])) <;> omega)) fun A10 N10 C10 _ w10 F11 S10 l10 => ?_)
   refine l_op (f_as F11 rfl rfl rfl rfl rfl fun _ F12 => ?_)
   refine s_end (x_normal (wp_ret ?_))
   refine x_done (v := .slice A10 N10 C10) F12 (results_1 Try.results135 (.tmp (F12.ev 2 rfl))) ?_
   exact ⟨A10, N10, C10, rfl, (Mv.cast (Mv.pick (S7.trans S10) [0] rfl) (by rw [(show (([] : List AnsD) ++ s) = s from by first | exact nil_of ni_s (by assumption) | exact List.nil_append _ | simp)]; all_goals rfl))⟩
theorem slices_Clone_Sint_int_c {w : World} {H : Nat → Prop} {s : List Int} {s_a : Option Addr} {s_n s_c : Nat} (v_s : Rd 1 encI okI H w (.slice s_a s_n s_c) s) (p0 : s_n ≤ 1099511627776) :
    Calls Try.prog 136 #[.slice s_a s_n s_c] w fun e w' => ∃ (r0_a : Option Addr), ∃ (r0_n : Nat), ∃ (r0_c : Nat), e = .returned (.slice r0_a r0_n r0_c) ∧ Mv [] w [ow 3 1 encI okI (.slice r0_a r0_n r0_c) s] w' := by
 have uU : True := (fun _ => trivial) p0
 clear uU
 have Q0 : Rd 1 encI okI (V H w []) w (.slice s_a s_n s_c) s := Rd.start v_s (fun _ _ => fps_nil _)
 obtain ⟨ln_s, le_s, mx_s, ni_s⟩ := Rd.inv v_s
 refine calls_enter 8 Try.func136 rfl Try.ntmps136 (Nat.le_of_ble_eq_true rfl) (fun _ F0i => ?_)
 have F0 : Fr 8 [(0, .slice s_a s_n s_c)] _ := F0i
 clear F0i
 refine wp_seq (wp_region_lit (l_op (f_val F0 rfl rfl (r_assign rfl rfl) rfl fun _ F1 => ?_)))
 refine s_end (x_normal (wp_seq (wp_seq (wp_region_lit (l_op (f_mv F1 rfl rfl rfl rfl rfl fun _ F2 => ?_))))))
 refine l_op (f_val F2 rfl rfl (r_slNil Try.underlying53 rfl (F2.ev 3 rfl) rfl) rfl fun _ F3 => ?_)
 refine s_end (x_normal (x_condb (b := s_a.isNone) (F3.ev 4 rfl) (fun h4 => ?_) (fun h4 => ?_)))
 · skip
   refine wp_seq (wp_region_lit (l_op (f_val F3 rfl rfl (r_assign rfl rfl) rfl fun _ F5 => ?_)))
   refine s_end (x_normal (wp_ret (x_then_ret ?_)))
   have S6 : Mv [] w [ow 3 1 encI okI (.slice none 0 0) ([] : List Int)] w := mv_nil (At.nil w)
   refine x_done (v := .slice none 0 0) F5 (results_1 Try.results136 (.tmp (F5.ev 2 rfl))) ?_
   exact ⟨none, 0, 0, rfl, (Mv.cast (Mv.pick S6 [0] rfl) (by rw [(show ([] : List Int) = s from by first | exact nil_of ni_s (by assumption) | exact List.nil_append _ | simp)]; all_goals rfl))⟩
 · skip
   refine wp_skip (x_normal (wp_seq (wp_region_lit (l_op (f_buildSl (ok := okI) (vs := []) F3 (At.nil w) (([] : List Int)) ET_53 rfl rfl rfl rfl rfl rfl rfl rfl rfl (by simp) fun b7 _ w7 F8 S7 => ?_)))))
   refine l_op (f_mv F8 rfl rfl rfl rfl rfl fun _ F9 => ?_)
   refine l_op (f_app (news := s) F9 S7.at' 0 ET_53 rfl rfl rfl rfl rfl rfl (F9.ev 5 rfl) (F9.ev 6 rfl) ((Rd.mv (Nat.succ_pos _) Q0 S7)).1 (by ((repeat (first | rw [List.length_append] | rw [List.length_cons] | rw [List.length_nil] | rw [List.length_take] | rw [List.length_drop])) <;> omega)) fun A10 N10 C10 _ w10 F11 S10 l10 => ?_)
   refine l_op (f_as F11 rfl rfl rfl rfl rfl fun _ F12 => ?_)
   refine s_end (x_normal (wp_ret ?_))
   refine x_done (v := .slice A10 N10 C10) F12 (results_1 Try.results136 (.tmp (F12.ev 2 rfl))) ?_
   exact ⟨A10, N10, C10, rfl, (Mv.cast (Mv.pick (S7.trans S10) [0] rfl) (by rw [(show (([] : List Int) ++ s) = s from by first | exact nil_of ni_s (by assumption) | exact List.nil_append _ | simp)]; all_goals rfl))⟩
end Go.Proofs.Ytgfilegkabbliaa
