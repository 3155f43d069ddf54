/-
  Walks: calls, answers and marks in the laws' hands.
-/
import Derived.Test.YtkebmooffbkpgaaDatTx
import Derived.Test.YtkebmooffbkpgaaDatCl
namespace Go.Proofs.Ytkebmooffbkpgaa
open Go.ChangeShapes Go.WideShapes Go.ChangeAt Go.RowKit
set_option maxRecDepth 100000
set_option maxHeartbeats 1000000
theorem laws_szStringS_c {w : World} {H : Nat → Prop} {a : List ByteArray} {a_a : Option Addr} {a_n a_c : Nat} {left : Int} (v_a : RdA 1 encS okS H w (.slice a_a a_n a_c) a) (Q0 : i64ok left) (p0 : 0 ≤ left) (p1 : left ≤ 1048576) :
    Calls Try.prog 42 #[.slice a_a a_n a_c, .int .i64 left] w fun e w' => e = .returned (.int .i64 (subOr left (szStrs a))) ∧ Mv [] w [] w' ∧ i64ok (subOr left (szStrs a)) := by
  have uU : True := (fun _ => trivial) Q0
  clear uU
  refine (szStringS_c _ left w a v_a.1 p0 p1).mono ?_
  rintro e w' ⟨rfl, hb⟩
  exact ⟨rfl, Mv.of_bl hb, subOr_i64 p0 p1⟩
theorem laws_toStringS_c {w : World} {H : Nat → Prop} {a : List ByteArray} {a_a : Option Addr} {a_n a_c : Nat} (v_a : RdA 1 encS okS H w (.slice a_a a_n a_c) a) (p0 : a.length ≤ 1048576) :
    Calls Try.prog 45 #[.slice a_a a_n a_c] w fun e w' => ∃ (r0_a : Option Addr), ∃ (r0_n : Nat), ∃ (r0_c : Nat), e = .returned (.slice r0_a r0_n r0_c) ∧ Mv [] w [ow 9 1 encS okS (.slice r0_a r0_n r0_c) a] w' := by
  refine (toStringS_s _ w a v_a.1 p0).mono ?_
  rintro e w' ⟨x, n, c, rfl, h1, h2, h3⟩
  exact ⟨x, n, c, rfl, mv_of_fresh h1 h2 h3⟩
theorem laws_eqStringS_c {w : World} {H : Nat → Prop} {a : List ByteArray} {a_a : Option Addr} {a_n a_c : Nat} {b : List ByteArray} {b_a : Option Addr} {b_n b_c : Nat} (v_a : Rd 1 encS okS H w (.slice a_a a_n a_c) a) (v_b : Rd 1 encS okS H w (.slice b_a b_n b_c) b) (p0 : a = b) :
    Calls Try.prog 52 #[.slice a_a a_n a_c, .slice b_a b_n b_c] w fun e w' => e = .returned (.bool true) ∧ Mv [] w [] w' := by
  subst p0
  refine (eqStringS_c _ _ w a v_a.1 v_b.1).mono ?_
  rintro e w' ⟨rfl, hb⟩
  exact ⟨rfl, Mv.of_bl hb⟩
theorem laws_markStringS_c {w : World} {H : Nat → Prop} {a : List ByteArray} {a_a : Option Addr} {a_n a_c : Nat} {k : Nat} (h_k : i64ok (k : Int)) (p0 : k + a.length ≤ 4611686018427387904) (hA : At w [ow 9 1 encS okS (.slice a_a a_n a_c) a]) :
    Calls Try.prog 54 #[.slice a_a a_n a_c, .int .i64 ((k : Nat) : Int)] w fun e w' => e = .returned (.int .i64 ((k + a.length : Nat) : Int)) ∧ Mv [ow 9 1 encS okS (.slice a_a a_n a_c) a] w [ow 9 1 encS okS (.slice a_a a_n a_c) (marks k a.length)] w' := by
  have uU : True := (fun _ _ => trivial) H h_k
  clear uU
  have hO := hA.ok _ (List.mem_singleton.2 rfl)
  refine (markStringS_c _ k _ rfl w a hO p0).mono ?_
  rintro e w' ⟨rfl, h1, h2⟩
  exact ⟨rfl, mv_of_own h1 h2 (Moved.refl _ _)⟩
theorem laws_heldStringS_c {w : World} {H : Nat → Prop} {a : List ByteArray} {a_a : Option Addr} {a_n a_c : Nat} {k : Nat} {n : Nat} (v_a : Rd 1 encS okS H w (.slice a_a a_n a_c) a) (h_k : i64ok (k : Int)) (p0 : a = marks k n) (p1 : k + n ≤ 4611686018427387904) :
    Calls Try.prog 55 #[.slice a_a a_n a_c, .int .i64 ((k : Nat) : Int)] w fun e w' => e = .returned (.int .i64 ((k + n : Nat) : Int)) ∧ Mv [] w [] w' := by
  have uU : True := (fun _ => trivial) h_k
  clear uU
  subst p0
  refine (heldStringS_c _ k n _ rfl w v_a.1 p1).mono ?_
  rintro e w' ⟨rfl, hb⟩
  exact ⟨rfl, Mv.of_bl hb⟩
theorem slices_Clone_Sstring_string_c {w : World} {H : Nat → Prop} {s : List ByteArray} {s_a : Option Addr} {s_n s_c : Nat} (v_s : Rd 1 encS okS H w (.slice s_a s_n s_c) s) (p0 : s_n ≤ 1099511627776) :
    Calls Try.prog 56 #[.slice s_a s_n s_c] w fun e w' => ∃ (r0_a : Option Addr), ∃ (r0_n : Nat), ∃ (r0_c : Nat), e = .returned (.slice r0_a r0_n r0_c) ∧ Mv [] w [ow 9 1 encS okS (.slice r0_a r0_n r0_c) s] w' := by
  have uU : True := (fun _ => trivial) p0
  clear uU
  obtain ⟨hl, _⟩ := v_s.inv
  refine (cloneStrs_s _ w s v_s.1 (by omega)).mono ?_
  rintro e w' ⟨a, n, c, rfl, h1, h2, h3⟩
  exact ⟨a, n, c, rfl, mv_of_fresh h1 h2 h3⟩
theorem laws_szTouch_c {w : World} {H : Nat → Prop} {a : TouchD} {a_Ra : Option Addr} {a_Rn a_Rc : Nat} {a_Wa : Option Addr} {a_Wn a_Wc : Nat} {left : Int} (Q0 : RdA 1 encS okS H w (.slice a_Ra a_Rn a_Rc) a.reads) (Q1 : RdA 1 encS okS H w (.slice a_Wa a_Wn a_Wc) a.writes) (Q4 : i64ok left) (p0 : 0 ≤ left) (p1 : left ≤ 1048576) :
    Calls Try.prog 13 #[.agg #[.slice a_Ra a_Rn a_Rc, .slice a_Wa a_Wn a_Wc], .int .i64 left] w fun e w' => e = .returned (.int .i64 (subOr left (szTouchD a))) ∧ Mv [] w [] w' ∧ i64ok (subOr left (szTouchD a)) := by
 have Q2 : RdA 1 encS okS (V H w []) w (.slice a_Ra a_Rn a_Rc) a.reads := RdA.start Q0 (fun _ _ => fps_nil _)
 obtain ⟨Q7, Q5, Q9, Q11⟩ := RdA.inv Q0
 have Q3 : RdA 1 encS okS (V H w []) w (.slice a_Wa a_Wn a_Wc) a.writes := RdA.start Q1 (fun _ _ => fps_nil _)
 obtain ⟨Q8, Q6, Q10, Q12⟩ := RdA.inv Q1
 refine calls_enter 18 Try.func13 rfl Try.ntmps13 (Nat.le_of_ble_eq_true rfl) (fun _ F0i => ?_)
 have F0 : Fr 18 [(0, .agg #[.slice a_Ra a_Rn a_Rc, .slice a_Wa a_Wn a_Wc]), (1, .int .i64 left)] _ := F0i
 clear F0i
 refine wp_seq (wp_region_lit (l_op (f_box F0 (At.nil w) rfl rfl rfl (F0.ev 0 rfl) rfl rfl fun b1 _ w1 F2 S1 => ?_)))
 refine l_op (f_val F2 rfl rfl (r_assign rfl rfl) rfl fun _ F3 => ?_)
 have F4 : Fr 18 [(4, .int .i64 0), (2, .pointer (some ⟨b1, 0, none⟩)), (1, .int .i64 left)] _ := F3.cut rfl
 clear F0 F2 F3
 have T5 : Mv _ _ [bx b1 [.slice a_Ra a_Rn a_Rc, .slice a_Wa a_Wn a_Wc] 26] _ := S1
 refine s_end (x_normal (wp_seq (wp_region_lit (l_op (f_val F4 rfl rfl (r_field FI_26_0 rfl (F4.ev 2 rfl) rfl) rfl fun _ F6 => ?_)))))
 refine l_op (f_val (v := .slice a_Ra a_Rn a_Rc) F6 rfl rfl (r_loadB T5.at' 0 TI_24 rfl rfl (F6.ev 5 rfl) rfl rfl (fun _ => rfl) rfl) rfl fun _ F7 => ?_)
 refine l_op (f_mv F7 rfl rfl rfl rfl rfl fun _ F8 => ?_)
 refine l_op (f_call F8 CF_42 rfl rfl rfl rfl (lc (F8.ev 6 rfl) (lc (F8.ev 7 rfl) rfl)) (laws_szStringS_c (a := a.reads) (left := left) (RdA.mv (Nat.succ_pos _) Q2 T5) Q4 (by first | assumption | omega | (simp <;> omega)) (by first | assumption | (have := subOr_bd left (szStrs a.reads) p0; omega))) ?_)
 rintro _ w9 ⟨rfl, m9, q9_0⟩
 refine ⟨_, rfl, fun _ F10 => ?_⟩
 have S9 := At.frame0 T5.at' m9
 clear m9
 refine l_op (f_as F10 rfl rfl rfl rfl rfl fun _ F11 => ?_)
 have F12 : Fr 18 [(1, .int .i64 (subOr left (szStrs a.reads))), (2, .pointer (some ⟨b1, 0, none⟩))] _ := F11.cut rfl
 clear F4 F6 F7 F8 F10 F11
 have T13 : Mv _ _ [bx b1 [.slice a_Ra a_Rn a_Rc, .slice a_Wa a_Wn a_Wc] 26] _ := S9
 refine s_end (x_normal (wp_seq (wp_seq (wp_region_lit (l_op (f_mv F12 rfl rfl rfl rfl rfl fun _ F14 => ?_))))))
 refine l_op (f_val F14 rfl rfl (r_cmp (b := decide ((subOr left (szStrs a.reads)) < 0)) (.inr (.inr (.inl rfl))) rfl (F14.ev 9 rfl) rfl (dec_of (by omega))) rfl fun _ F15 => ?_)
 have F16 : Fr 18 [(10, .bool (decide ((subOr left (szStrs a.reads)) < 0))), (1, .int .i64 (subOr left (szStrs a.reads))), (2, .pointer (some ⟨b1, 0, none⟩))] _ := F15.cut rfl
 clear F12 F14 F15
 refine s_end (x_normal (x_cond (p := (subOr left (szStrs a.reads)) < 0) (F16.ev 10 rfl) (fun h17 => ?_) (fun h17 => ?_)))
 · skip
   refine wp_seq (wp_region_lit (l_op (f_val F16 rfl rfl (r_assign rfl rfl) rfl fun _ F18 => ?_)))
   have F19 : Fr 18 [(4, .int .i64 (-1))] _ := F18.cut rfl
   clear F16 F18
   refine s_end (x_normal (wp_ret (x_then_ret ?_)))
   refine x_done (v := .int .i64 (-1)) F19 (results_1 Try.results13 (.tmp (F19.ev 4 rfl))) ?_
   exact ⟨(by rw [(show (-1) = (subOr left (szTouchD a)) from by unfold szTouchD; exact (subOr_neg left _ _ (by assumption)).symm)]), (Mv.pick (T5.trans T13) [] rfl), subOr_i64 p0 p1⟩
 · skip
   refine wp_skip (x_normal (wp_seq (wp_region_lit (l_op (f_val F16 rfl rfl (r_field FI_26_1 rfl (F16.ev 2 rfl) rfl) rfl fun _ F20 => ?_)))))
   refine l_op (f_val (v := .slice a_Wa a_Wn a_Wc) F20 rfl rfl (r_loadB T13.at' 0 TI_24 rfl rfl (F20.ev 11 rfl) rfl rfl (fun _ => rfl) rfl) rfl fun _ F21 => ?_)
   refine l_op (f_mv F21 rfl rfl rfl rfl rfl fun _ F22 => ?_)
   refine l_op (f_call F22 CF_42 rfl rfl rfl rfl (lc (F22.ev 12 rfl) (lc (F22.ev 13 rfl) rfl)) (laws_szStringS_c (a := a.writes) (left := (subOr left (szStrs a.reads))) (RdA.mv (Nat.succ_pos _) Q3 (T5.trans T13)) (by first | assumption | exact ⟨by omega, by omega⟩ | (unfold i64ok at *; omega)) (by first | assumption | omega | (simp <;> omega)) (by first | assumption | (have := subOr_bd left (szStrs a.reads) p0; omega))) ?_)
   rintro _ w23 ⟨rfl, m23, q23_0⟩
   refine ⟨_, rfl, fun _ F24 => ?_⟩
   have S23 := At.frame0 T13.at' m23
   clear m23
   refine l_op (f_as F24 rfl rfl rfl rfl rfl fun _ F25 => ?_)
   have F26 : Fr 18 [(1, .int .i64 (subOr (subOr left (szStrs a.reads)) (szStrs a.writes)))] _ := F25.cut rfl
   clear F16 F20 F21 F22 F24 F25
   have T27 : Mv _ _ [bx b1 [.slice a_Ra a_Rn a_Rc, .slice a_Wa a_Wn a_Wc] 26] _ := S23
   refine s_end (x_normal (wp_seq (wp_seq (wp_region_lit (l_op (f_mv F26 rfl rfl rfl rfl rfl fun _ F28 => ?_))))))
   refine l_op (f_val F28 rfl rfl (r_cmp (b := decide ((subOr (subOr left (szStrs a.reads)) (szStrs a.writes)) < 0)) (.inr (.inr (.inl rfl))) rfl (F28.ev 15 rfl) rfl (dec_of (by omega))) rfl fun _ F29 => ?_)
   have F30 : Fr 18 [(16, .bool (decide ((subOr (subOr left (szStrs a.reads)) (szStrs a.writes)) < 0))), (1, .int .i64 (subOr (subOr left (szStrs a.reads)) (szStrs a.writes)))] _ := F29.cut rfl
   clear F26 F28 F29
   refine s_end (x_normal (x_cond (p := (subOr (subOr left (szStrs a.reads)) (szStrs a.writes)) < 0) (F30.ev 16 rfl) (fun h31 => ?_) (fun h31 => ?_)))
   · skip
     refine wp_seq (wp_region_lit (l_op (f_val F30 rfl rfl (r_assign rfl rfl) rfl fun _ F32 => ?_)))
     have F33 : Fr 18 [(4, .int .i64 (-1))] _ := F32.cut rfl
     clear F30 F32
     refine s_end (x_normal (wp_ret (x_then_ret ?_)))
     refine x_done (v := .int .i64 (-1)) F33 (results_1 Try.results13 (.tmp (F33.ev 4 rfl))) ?_
     exact ⟨(by rw [(show (-1) = (subOr left (szTouchD a)) from by unfold szTouchD; rw [subOr_add left _ _ (by omega)] at *; unfold subOr at *; split at * <;> omega)]), (Mv.pick (T5.trans (T13.trans T27)) [] rfl), subOr_i64 p0 p1⟩
   · skip
     refine wp_skip (x_normal (wp_seq (wp_region_lit (l_op (f_mv F30 rfl rfl rfl rfl rfl fun _ F34 => ?_)))))
     refine l_op (f_as F34 rfl rfl rfl rfl rfl fun _ F35 => ?_)
     have F36 : Fr 18 [(4, .int .i64 (subOr (subOr left (szStrs a.reads)) (szStrs a.writes)))] _ := F35.cut rfl
     clear F30 F34 F35
     refine s_end (x_normal (wp_ret ?_))
     refine x_done (v := .int .i64 (subOr (subOr left (szStrs a.reads)) (szStrs a.writes))) F36 (results_1 Try.results13 (.tmp (F36.ev 4 rfl))) ?_
     exact ⟨(by rw [(show (subOr (subOr left (szStrs a.reads)) (szStrs a.writes)) = (subOr left (szTouchD a)) from by unfold szTouchD; exact subOr_add left _ _ (by omega))]), (Mv.pick (T5.trans (T13.trans T27)) [] rfl), subOr_i64 p0 p1⟩
theorem laws_toTouch_c {w : World} {H : Nat → Prop} {a : TouchD} {a_Ra : Option Addr} {a_Rn a_Rc : Nat} {a_Wa : Option Addr} {a_Wn a_Wc : Nat} (Q12 : RdA 1 encS okS H w (.slice a_Ra a_Rn a_Rc) a.reads) (Q13 : RdA 1 encS okS H w (.slice a_Wa a_Wn a_Wc) a.writes) (p0 : a.reads.length ≤ 1048576) (p1 : a.writes.length ≤ 1048576) :
    Calls Try.prog 20 #[.agg #[.slice a_Ra a_Rn a_Rc, .slice a_Wa a_Wn a_Wc]] w fun e w' => ∃ (Q6 : Option Addr), ∃ (Q8 : Nat), ∃ (Q7 : Nat), ∃ (Q9 : Option Addr), ∃ (Q11 : Nat), ∃ (Q10 : Nat), e = .returned (.agg #[.slice Q6 Q8 Q7, .slice Q9 Q11 Q10]) ∧ Mv [] w [ow 9 1 encS okS (.slice Q6 Q8 Q7) a.reads, ow 9 1 encS okS (.slice Q9 Q11 Q10) a.writes] w' := by
 have uU : True := (fun _ _ => trivial) p0 p1
 clear uU
 have Q14 : RdA 1 encS okS (V H w []) w (.slice a_Ra a_Rn a_Rc) a.reads := RdA.start Q12 (fun _ _ => fps_nil _)
 obtain ⟨Q18, Q16, Q26, Q28⟩ := RdA.inv Q12
 have Q15 : RdA 1 encS okS (V H w []) w (.slice a_Wa a_Wn a_Wc) a.writes := RdA.start Q13 (fun _ _ => fps_nil _)
 obtain ⟨Q19, Q17, Q27, Q29⟩ := RdA.inv Q13
 refine calls_enter 13 Try.func20 rfl Try.ntmps20 (Nat.le_of_ble_eq_true rfl) (fun _ F0i => ?_)
 have F0 : Fr 13 [(0, .agg #[.slice a_Ra a_Rn a_Rc, .slice a_Wa a_Wn a_Wc])] _ := F0i
 clear F0i
 refine wp_seq (wp_region_lit (l_op (f_box F0 (At.nil w) rfl rfl rfl (F0.ev 0 rfl) rfl rfl fun b1 _ w1 F2 S1 => ?_)))
 refine l_op (f_alloc F2 S1.at' ZI_33 rfl rfl rfl rfl rfl fun b3 _ w3 F4 S3 => ?_)
 have F5 : Fr 13 [(2, .pointer (some ⟨b3, 0, none⟩)), (1, .pointer (some ⟨b1, 0, none⟩))] _ := F4.cut rfl
 clear F0 F2 F4
 have T6 : Mv _ _ [bx b3 [.slice none 0 0, .slice none 0 0] 33, bx b1 [.slice a_Ra a_Rn a_Rc, .slice a_Wa a_Wn a_Wc] 26] _ := S3
 refine s_end (x_normal (wp_seq (wp_region_lit (l_op (f_alloc F5 T6.at' ZI_33 rfl rfl rfl rfl rfl fun b7 _ w7 F8 S7 => ?_)))))
 have F9 : Fr 13 [(3, .pointer (some ⟨b7, 0, none⟩)), (2, .pointer (some ⟨b3, 0, none⟩)), (1, .pointer (some ⟨b1, 0, none⟩))] _ := F8.cut rfl
 clear F5 F8
 have T10 : Mv _ _ [bx b7 [.slice none 0 0, .slice none 0 0] 33, bx b3 [.slice none 0 0, .slice none 0 0] 33, bx b1 [.slice a_Ra a_Rn a_Rc, .slice a_Wa a_Wn a_Wc] 26] _ := S7
 refine s_end (x_normal (wp_seq (wp_region_lit (l_op (f_val F9 rfl rfl (r_field FI_26_0 rfl (F9.ev 1 rfl) rfl) rfl fun _ F11 => ?_)))))
 refine l_op (f_val (v := .slice a_Ra a_Rn a_Rc) F11 rfl rfl (r_loadB T10.at' 2 TI_24 rfl rfl (F11.ev 4 rfl) rfl rfl (fun _ => rfl) rfl) rfl fun _ F12 => ?_)
 refine l_op (f_call F12 CF_45 rfl rfl rfl rfl (lc (F12.ev 5 rfl) rfl) (laws_toStringS_c (a := a.reads) (RdA.mv (Nat.succ_pos _) Q14 (S1.trans (T6.trans T10))) (by first | assumption | omega | (simp <;> omega))) ?_)
 rintro _ w13 ⟨Q0, Q2, Q1, rfl, m13⟩
 refine ⟨_, rfl, fun _ F14 => ?_⟩
 have S13 : Mv _ _ [ow 9 1 encS okS (.slice Q0 Q2 Q1) a.reads, bx b7 [.slice none 0 0, .slice none 0 0] 33, bx b3 [.slice none 0 0, .slice none 0 0] 33, bx b1 [.slice a_Ra a_Rn a_Rc, .slice a_Wa a_Wn a_Wc] 26] _ := At.frame T10.at' [] rfl m13
 obtain ⟨Q20, Q22, Q24⟩ := At.ownInv S13.at' ET_24.hk 0 rfl
 clear m13
 refine l_op (f_val F14 rfl rfl (r_field FI_33_0 rfl (F14.ev 3 rfl) rfl) rfl fun _ F15 => ?_)
 refine l_op (s_store S13.at' 1 TI_24 rfl rfl rfl rfl rfl (F15.ev 7 rfl) (F15.ev 6 rfl) rfl rfl rfl rfl rfl fun w16 S16 => ?_)
 have F17 : Fr 13 [(7, .pointer (some ⟨b7, 0, none⟩)), (6, .slice Q0 Q2 Q1), (3, .pointer (some ⟨b7, 0, none⟩)), (2, .pointer (some ⟨b3, 0, none⟩)), (1, .pointer (some ⟨b1, 0, none⟩))] _ := F15.cut rfl
 clear F9 F11 F12 F14 F15
 have T18 : Mv _ _ [bx b7 [.slice Q0 Q2 Q1, .slice none 0 0] 33, ow 9 1 encS okS (.slice Q0 Q2 Q1) a.reads, bx b3 [.slice none 0 0, .slice none 0 0] 33, bx b1 [.slice a_Ra a_Rn a_Rc, .slice a_Wa a_Wn a_Wc] 26] _ := S16
 refine s_end (x_normal (wp_seq (wp_region_lit (l_op (f_val F17 rfl rfl (r_field FI_26_1 rfl (F17.ev 1 rfl) rfl) rfl fun _ F19 => ?_)))))
 refine l_op (f_val (v := .slice a_Wa a_Wn a_Wc) F19 rfl rfl (r_loadB T18.at' 3 TI_24 rfl rfl (F19.ev 8 rfl) rfl rfl (fun _ => rfl) rfl) rfl fun _ F20 => ?_)
 refine l_op (f_call F20 CF_45 rfl rfl rfl rfl (lc (F20.ev 9 rfl) rfl) (laws_toStringS_c (a := a.writes) (RdA.mv (Nat.succ_pos _) Q15 (S1.trans (T6.trans (T10.trans (S13.trans T18))))) (by first | assumption | omega | (simp <;> omega))) ?_)
 rintro _ w21 ⟨Q3, Q5, Q4, rfl, m21⟩
 refine ⟨_, rfl, fun _ F22 => ?_⟩
 have S21 : Mv _ _ [ow 9 1 encS okS (.slice Q3 Q5 Q4) a.writes, bx b7 [.slice Q0 Q2 Q1, .slice none 0 0] 33, ow 9 1 encS okS (.slice Q0 Q2 Q1) a.reads, bx b3 [.slice none 0 0, .slice none 0 0] 33, bx b1 [.slice a_Ra a_Rn a_Rc, .slice a_Wa a_Wn a_Wc] 26] _ := At.frame T18.at' [] rfl m21
 obtain ⟨Q21, Q23, Q25⟩ := At.ownInv S21.at' ET_24.hk 0 rfl
 clear m21
 refine l_op (f_val F22 rfl rfl (r_field FI_33_1 rfl (F22.ev 3 rfl) rfl) rfl fun _ F23 => ?_)
 refine l_op (s_store S21.at' 1 TI_24 rfl rfl rfl rfl rfl (F23.ev 11 rfl) (F23.ev 10 rfl) rfl rfl rfl rfl rfl fun w24 S24 => ?_)
 have F25 : Fr 13 [(11, .pointer (some ⟨b7, 1, none⟩)), (10, .slice Q3 Q5 Q4), (3, .pointer (some ⟨b7, 0, none⟩)), (2, .pointer (some ⟨b3, 0, none⟩))] _ := F23.cut rfl
 clear F17 F19 F20 F22 F23
 have T26 : Mv _ _ [bx b7 [.slice Q0 Q2 Q1, .slice Q3 Q5 Q4] 33, ow 9 1 encS okS (.slice Q3 Q5 Q4) a.writes, ow 9 1 encS okS (.slice Q0 Q2 Q1) a.reads, bx b3 [.slice none 0 0, .slice none 0 0] 33, bx b1 [.slice a_Ra a_Rn a_Rc, .slice a_Wa a_Wn a_Wc] 26] _ := S24
 refine s_end (x_normal (wp_seq (wp_region_lit (l_op (f_val (v := .agg #[.slice Q0 Q2 Q1, .slice Q3 Q5 Q4]) F25 rfl rfl (r_loadB T26.at' 0 TI_33 rfl rfl (F25.ev 3 rfl) rfl rfl (fun h => nomatch h) rfl) rfl fun _ F27 => ?_)))))
 refine l_op (s_store T26.at' 3 TI_33 rfl rfl rfl rfl rfl (F27.ev 2 rfl) (F27.ev 12 rfl) rfl rfl rfl rfl rfl fun w28 S28 => ?_)
 have F29 : Fr 13 [(12, .agg #[.slice Q0 Q2 Q1, .slice Q3 Q5 Q4]), (2, .pointer (some ⟨b3, 0, none⟩))] _ := F27.cut rfl
 clear F25 F27
 have T30 : Mv _ _ [bx b3 [.slice Q0 Q2 Q1, .slice Q3 Q5 Q4] 33, bx b7 [.slice Q0 Q2 Q1, .slice Q3 Q5 Q4] 33, ow 9 1 encS okS (.slice Q3 Q5 Q4) a.writes, ow 9 1 encS okS (.slice Q0 Q2 Q1) a.reads, bx b1 [.slice a_Ra a_Rn a_Rc, .slice a_Wa a_Wn a_Wc] 26] _ := S28
 refine s_end (x_normal (wp_ret ?_))
 refine x_done (v := .agg #[.slice Q0 Q2 Q1, .slice Q3 Q5 Q4]) F29 (results_1 Try.results20 (.cell (F29.ev 2 rfl) (run_loadVar' TI_33 _ [.slice Q0 Q2 Q1, .slice Q3 Q5 Q4] rfl (fun h => nomatch h) (At.cells T30.at' 0 rfl 0 [.slice Q0 Q2 Q1, .slice Q3 Q5 Q4] rfl)))) ?_
 exact ⟨Q0, Q2, Q1, Q3, Q5, Q4, rfl, (Mv.pick (S1.trans (T6.trans (T10.trans (S13.trans (T18.trans (S21.trans (T26.trans T30))))))) [3, 2] rfl)⟩
theorem laws_eqTouch_c {w : World} {H : Nat → Prop} {a : TouchD} {a_Ra : Option Addr} {a_Rn a_Rc : Nat} {a_Wa : Option Addr} {a_Wn a_Wc : Nat} {b : TouchD} {b_Ra : Option Addr} {b_Rn b_Rc : Nat} {b_Wa : Option Addr} {b_Wn b_Wc : Nat} (Q0 : Rd 1 encS okS H w (.slice a_Ra a_Rn a_Rc) a.reads) (Q1 : Rd 1 encS okS H w (.slice a_Wa a_Wn a_Wc) a.writes) (Q2 : Rd 1 encS okS H w (.slice b_Ra b_Rn b_Rc) b.reads) (Q3 : Rd 1 encS okS H w (.slice b_Wa b_Wn b_Wc) b.writes) (p0 : a = b) :
    Calls Try.prog 30 #[.agg #[.slice a_Ra a_Rn a_Rc, .slice a_Wa a_Wn a_Wc], .agg #[.slice b_Ra b_Rn b_Rc, .slice b_Wa b_Wn b_Wc]] w fun e w' => e = .returned (.bool true) ∧ Mv [] w [] w' := by
 have Q4 : Rd 1 encS okS (V H w []) w (.slice a_Ra a_Rn a_Rc) a.reads := Rd.start Q0 (fun _ _ => fps_nil _)
 obtain ⟨Q12, Q8, Q16, Q20⟩ := Rd.inv Q0
 have Q5 : Rd 1 encS okS (V H w []) w (.slice a_Wa a_Wn a_Wc) a.writes := Rd.start Q1 (fun _ _ => fps_nil _)
 obtain ⟨Q13, Q9, Q17, Q21⟩ := Rd.inv Q1
 have Q6 : Rd 1 encS okS (V H w []) w (.slice b_Ra b_Rn b_Rc) b.reads := Rd.start Q2 (fun _ _ => fps_nil _)
 obtain ⟨Q14, Q10, Q18, Q22⟩ := Rd.inv Q2
 have Q7 : Rd 1 encS okS (V H w []) w (.slice b_Wa b_Wn b_Wc) b.writes := Rd.start Q3 (fun _ _ => fps_nil _)
 obtain ⟨Q15, Q11, Q19, Q23⟩ := Rd.inv Q3
 refine calls_enter 17 Try.func30 rfl Try.ntmps30 (Nat.le_of_ble_eq_true rfl) (fun _ F0i => ?_)
 have F0 : Fr 17 [(0, .agg #[.slice a_Ra a_Rn a_Rc, .slice a_Wa a_Wn a_Wc]), (1, .agg #[.slice b_Ra b_Rn b_Rc, .slice b_Wa b_Wn b_Wc])] _ := F0i
 clear F0i
 refine wp_seq (wp_region_lit (l_op (f_box F0 (At.nil w) rfl rfl rfl (F0.ev 0 rfl) rfl rfl fun b1 _ w1 F2 S1 => ?_)))
 refine l_op (f_box F2 S1.at' rfl rfl rfl (F2.ev 1 rfl) rfl rfl fun b3 _ w3 F4 S3 => ?_)
 refine l_op (f_val F4 rfl rfl (r_assign rfl rfl) rfl fun _ F5 => ?_)
 have F6 : Fr 17 [(4, .bool false), (3, .pointer (some ⟨b3, 0, none⟩)), (2, .pointer (some ⟨b1, 0, none⟩))] _ := F5.cut rfl
 clear F0 F2 F4 F5
 have T7 : Mv _ _ [bx b3 [.slice b_Ra b_Rn b_Rc, .slice b_Wa b_Wn b_Wc] 33, bx b1 [.slice a_Ra a_Rn a_Rc, .slice a_Wa a_Wn a_Wc] 33] _ := S3
 refine s_end (x_normal (wp_seq (wp_seq (wp_region_lit (l_op (f_val F6 rfl rfl (r_field FI_33_0 rfl (F6.ev 2 rfl) rfl) rfl fun _ F8 => ?_))))))
 refine l_op (f_val (v := .slice a_Ra a_Rn a_Rc) F8 rfl rfl (r_loadB T7.at' 1 TI_24 rfl rfl (F8.ev 5 rfl) rfl rfl (fun _ => rfl) rfl) rfl fun _ F9 => ?_)
 refine l_op (f_val F9 rfl rfl (r_field FI_33_0 rfl (F9.ev 3 rfl) rfl) rfl fun _ F10 => ?_)
 refine l_op (f_val (v := .slice b_Ra b_Rn b_Rc) F10 rfl rfl (r_loadB T7.at' 0 TI_24 rfl rfl (F10.ev 7 rfl) rfl rfl (fun _ => rfl) rfl) rfl fun _ F11 => ?_)
 refine l_op (f_call F11 CF_52 rfl rfl rfl rfl (lc (F11.ev 6 rfl) (lc (F11.ev 8 rfl) rfl)) (laws_eqStringS_c (a := a.reads) (b := b.reads) (Rd.mv (Nat.succ_pos _) Q4 (S1.trans T7)) (Rd.mv (Nat.succ_pos _) Q6 (S1.trans T7)) (by rw [p0])) ?_)
 rintro _ w12 ⟨rfl, m12⟩
 refine ⟨_, rfl, fun _ F13 => ?_⟩
 have S12 := At.frame0 T7.at' m12
 clear m12
 refine l_op (f_val F13 rfl rfl (r_not rfl (F13.ev 9 rfl)) rfl fun _ F14 => ?_)
 have F15 : Fr 17 [(10, .bool false), (3, .pointer (some ⟨b3, 0, none⟩)), (2, .pointer (some ⟨b1, 0, none⟩))] _ := F14.cut rfl
 clear F6 F8 F9 F10 F11 F13 F14
 have T16 : Mv _ _ [bx b3 [.slice b_Ra b_Rn b_Rc, .slice b_Wa b_Wn b_Wc] 33, bx b1 [.slice a_Ra a_Rn a_Rc, .slice a_Wa a_Wn a_Wc] 33] _ := S12
 refine s_end (x_normal (wp_cond_false (F15.ev 10 rfl) (wp_skip (x_normal (wp_seq (wp_seq (wp_region_lit (l_op (f_val F15 rfl rfl (r_field FI_33_1 rfl (F15.ev 2 rfl) rfl) rfl fun _ F17 => ?_)))))))))
 refine l_op (f_val (v := .slice a_Wa a_Wn a_Wc) F17 rfl rfl (r_loadB T16.at' 1 TI_24 rfl rfl (F17.ev 11 rfl) rfl rfl (fun _ => rfl) rfl) rfl fun _ F18 => ?_)
 refine l_op (f_val F18 rfl rfl (r_field FI_33_1 rfl (F18.ev 3 rfl) rfl) rfl fun _ F19 => ?_)
 refine l_op (f_val (v := .slice b_Wa b_Wn b_Wc) F19 rfl rfl (r_loadB T16.at' 0 TI_24 rfl rfl (F19.ev 13 rfl) rfl rfl (fun _ => rfl) rfl) rfl fun _ F20 => ?_)
 refine l_op (f_call F20 CF_52 rfl rfl rfl rfl (lc (F20.ev 12 rfl) (lc (F20.ev 14 rfl) rfl)) (laws_eqStringS_c (a := a.writes) (b := b.writes) (Rd.mv (Nat.succ_pos _) Q5 (S1.trans (T7.trans T16))) (Rd.mv (Nat.succ_pos _) Q7 (S1.trans (T7.trans T16))) (by rw [p0])) ?_)
 rintro _ w21 ⟨rfl, m21⟩
 refine ⟨_, rfl, fun _ F22 => ?_⟩
 have S21 := At.frame0 T16.at' m21
 clear m21
 refine l_op (f_val F22 rfl rfl (r_not rfl (F22.ev 15 rfl)) rfl fun _ F23 => ?_)
 have F24 : Fr 17 [(16, .bool false)] _ := F23.cut rfl
 clear F15 F17 F18 F19 F20 F22 F23
 have T25 : Mv _ _ [bx b3 [.slice b_Ra b_Rn b_Rc, .slice b_Wa b_Wn b_Wc] 33, bx b1 [.slice a_Ra a_Rn a_Rc, .slice a_Wa a_Wn a_Wc] 33] _ := S21
 refine s_end (x_normal (wp_cond_false (F24.ev 16 rfl) (wp_skip (x_normal (wp_seq (wp_region_lit (l_op (f_val F24 rfl rfl (r_assign rfl rfl) rfl fun _ F26 => ?_))))))))
 have F27 : Fr 17 [(4, .bool true)] _ := F26.cut rfl
 clear F24 F26
 refine s_end (x_normal (wp_ret ?_))
 refine x_done (v := .bool true) F27 (results_1 Try.results30 (.tmp (F27.ev 4 rfl))) ?_
 exact ⟨rfl, (Mv.pick (S1.trans (T7.trans (T16.trans T25))) [] rfl)⟩
theorem laws_markTouch_c {w : World} {H : Nat → Prop} {a : TouchD} {a_Ra : Option Addr} {a_Rn a_Rc : Nat} {a_Wa : Option Addr} {a_Wn a_Wc : Nat} {k : Nat} (h_k : i64ok (k : Int)) (p0 : k ≤ 1099511627776) (p1 : a.reads.length ≤ 1099511627776) (p2 : a.writes.length ≤ 1099511627776) (hA : At w [ow 9 1 encS okS (.slice a_Ra a_Rn a_Rc) a.reads, ow 9 1 encS okS (.slice a_Wa a_Wn a_Wc) a.writes]) :
    Calls Try.prog 34 #[.agg #[.slice a_Ra a_Rn a_Rc, .slice a_Wa a_Wn a_Wc], .int .i64 ((k : Nat) : Int)] w fun e w' => e = .returned (.int .i64 ((k + cntT a : Nat) : Int)) ∧ Mv [ow 9 1 encS okS (.slice a_Ra a_Rn a_Rc) a.reads, ow 9 1 encS okS (.slice a_Wa a_Wn a_Wc) a.writes] w [ow 9 1 encS okS (.slice a_Ra a_Rn a_Rc) (marksT k a).reads, ow 9 1 encS okS (.slice a_Wa a_Wn a_Wc) (marksT k a).writes] w' := by
 have uU : True := (fun _ _ _ _ _ => trivial) H h_k p0 p1 p2
 clear uU
 obtain ⟨lo0, lp0, lq0⟩ := At.ownInv hA ET_24.hk 0 rfl
 obtain ⟨lo1, lp1, lq1⟩ := At.ownInv hA ET_24.hk 1 rfl
 refine calls_enter 14 Try.func34 rfl Try.ntmps34 (Nat.le_of_ble_eq_true rfl) (fun _ F0i => ?_)
 have F0 : Fr 14 [(0, .agg #[.slice a_Ra a_Rn a_Rc, .slice a_Wa a_Wn a_Wc]), (1, .int .i64 ((k : Nat) : Int))] _ := F0i
 clear F0i
 refine wp_seq (wp_region_lit (l_op (f_box F0 hA rfl rfl rfl (F0.ev 0 rfl) rfl rfl fun b1 _ w1 F2 S1 => ?_)))
 refine l_op (f_val F2 rfl rfl (r_assign rfl rfl) rfl fun _ F3 => ?_)
 have F4 : Fr 14 [(4, .int .i64 0), (2, .pointer (some ⟨b1, 0, none⟩)), (1, .int .i64 ((k : Nat) : Int))] _ := F3.cut rfl
 clear F0 F2 F3
 have T5 : Mv _ _ [bx b1 [.slice a_Ra a_Rn a_Rc, .slice a_Wa a_Wn a_Wc] 33, ow 9 1 encS okS (.slice a_Ra a_Rn a_Rc) a.reads, ow 9 1 encS okS (.slice a_Wa a_Wn a_Wc) a.writes] _ := S1
 refine s_end (x_normal (wp_seq (wp_region_lit (l_op (f_val F4 rfl rfl (r_field FI_33_0 rfl (F4.ev 2 rfl) rfl) rfl fun _ F6 => ?_)))))
 refine l_op (f_val (v := .slice a_Ra a_Rn a_Rc) F6 rfl rfl (r_loadB T5.at' 0 TI_24 rfl rfl (F6.ev 5 rfl) rfl rfl (fun _ => rfl) rfl) rfl fun _ F7 => ?_)
 refine l_op (f_mv F7 rfl rfl rfl rfl rfl fun _ F8 => ?_)
 refine l_op (f_call F8 CF_54 rfl rfl rfl rfl (lc (F8.ev 6 rfl) (lc (F8.ev 7 rfl) rfl)) (laws_markStringS_c (H := fun _ => True) (a := a.reads) (k := k) ⟨by omega, by first | omega | (unfold i64ok at *; omega)⟩ (by first | assumption | omega | (simp <;> omega)) (At.pick (is := [1]) T5.at' rfl)) ?_)
 rintro _ w9 ⟨rfl, m9⟩
 refine ⟨_, rfl, fun _ F10 => ?_⟩
 have S9 : Mv _ _ [ow 9 1 encS okS (.slice a_Ra a_Rn a_Rc) (marks k a.reads.length), bx b1 [.slice a_Ra a_Rn a_Rc, .slice a_Wa a_Wn a_Wc] 33, ow 9 1 encS okS (.slice a_Wa a_Wn a_Wc) a.writes] _ := At.frame T5.at' [1] rfl m9
 obtain ⟨Q1, Q3, Q5⟩ := At.ownInv S9.at' ET_24.hk 0 rfl
 clear m9
 refine l_op (f_as F10 rfl rfl rfl rfl rfl fun _ F11 => ?_)
 have F12 : Fr 14 [(1, .int .i64 ((k + a.reads.length : Nat) : Int)), (2, .pointer (some ⟨b1, 0, none⟩))] _ := F11.cut rfl
 clear F4 F6 F7 F8 F10 F11
 refine s_end (x_normal (wp_seq (wp_region_lit (l_op (f_val F12 rfl rfl (r_field FI_33_1 rfl (F12.ev 2 rfl) rfl) rfl fun _ F13 => ?_)))))
 refine l_op (f_val (v := .slice a_Wa a_Wn a_Wc) F13 rfl rfl (r_loadB S9.at' 1 TI_24 rfl rfl (F13.ev 9 rfl) rfl rfl (fun _ => rfl) rfl) rfl fun _ F14 => ?_)
 refine l_op (f_mv F14 rfl rfl rfl rfl rfl fun _ F15 => ?_)
 refine l_op (f_call F15 CF_54 rfl rfl rfl rfl (lc (F15.ev 10 rfl) (lc (F15.ev 11 rfl) rfl)) (laws_markStringS_c (H := fun _ => True) (a := a.writes) (k := k + a.reads.length) ⟨by omega, by first | omega | (unfold i64ok at *; omega)⟩ (by first | assumption | omega | (simp <;> omega)) (At.pick (is := [2]) S9.at' rfl)) ?_)
 rintro _ w16 ⟨rfl, m16⟩
 refine ⟨_, rfl, fun _ F17 => ?_⟩
 have S16 : Mv _ _ [ow 9 1 encS okS (.slice a_Wa a_Wn a_Wc) (marks (k + a.reads.length) a.writes.length), ow 9 1 encS okS (.slice a_Ra a_Rn a_Rc) (marks k a.reads.length), bx b1 [.slice a_Ra a_Rn a_Rc, .slice a_Wa a_Wn a_Wc] 33] _ := At.frame S9.at' [2] rfl m16
 obtain ⟨Q0, Q2, Q4⟩ := At.ownInv S16.at' ET_24.hk 0 rfl
 clear m16
 refine l_op (f_as F17 rfl rfl rfl rfl rfl fun _ F18 => ?_)
 have F19 : Fr 14 [(1, .int .i64 (((k + a.reads.length) + a.writes.length : Nat) : Int))] _ := F18.cut rfl
 clear F12 F13 F14 F15 F17 F18
 refine s_end (x_normal (wp_seq (wp_region_lit (l_op (f_mv F19 rfl rfl rfl rfl rfl fun _ F20 => ?_)))))
 refine l_op (f_as F20 rfl rfl rfl rfl rfl fun _ F21 => ?_)
 have F22 : Fr 14 [(4, .int .i64 (((k + a.reads.length) + a.writes.length : Nat) : Int))] _ := F21.cut rfl
 clear F19 F20 F21
 refine s_end (x_normal (wp_ret ?_))
 refine x_done (v := .int .i64 (((k + a.reads.length) + a.writes.length : Nat) : Int)) F22 (results_1 Try.results34 (.tmp (F22.ev 4 rfl))) ?_
 exact ⟨(by rw [(show (((k + a.reads.length) + a.writes.length : Nat) : Int) = ((k + cntT a : Nat) : Int) from by first | rfl | (unfold cntT; omega))]), (Mv.cast (Mv.pick (T5.trans (S9.trans S16)) [1, 0] rfl) (by rw [(show (marks k a.reads.length) = (marksT k a).reads from by first | rfl | (unfold cntT; omega)), (show (marks (k + a.reads.length) a.writes.length) = (marksT k a).writes from by first | rfl | (unfold cntT; omega))]; all_goals rfl))⟩
theorem laws_heldTouch_c {w : World} {H : Nat → Prop} {a : TouchD} {a_Ra : Option Addr} {a_Rn a_Rc : Nat} {a_Wa : Option Addr} {a_Wn a_Wc : Nat} {k : Nat} {d : TouchD} (Q0 : Rd 1 encS okS H w (.slice a_Ra a_Rn a_Rc) a.reads) (Q1 : Rd 1 encS okS H w (.slice a_Wa a_Wn a_Wc) a.writes) (h_k : i64ok (k : Int)) (p0 : a = marksT k d) (p1 : k ≤ 1099511627776) (p2 : d.reads.length ≤ 1099511627776) (p3 : d.writes.length ≤ 1099511627776) :
    Calls Try.prog 38 #[.agg #[.slice a_Ra a_Rn a_Rc, .slice a_Wa a_Wn a_Wc], .int .i64 ((k : Nat) : Int)] w fun e w' => e = .returned (.int .i64 ((k + cntT d : Nat) : Int)) ∧ Mv [] w [] w' := by
 have uU : True := (fun _ _ _ _ => trivial) h_k p1 p2 p3
 clear uU
 have Q2 : Rd 1 encS okS (V H w []) w (.slice a_Ra a_Rn a_Rc) a.reads := Rd.start Q0 (fun _ _ => fps_nil _)
 obtain ⟨Q6, Q4, Q8, Q10⟩ := Rd.inv Q0
 have Q3 : Rd 1 encS okS (V H w []) w (.slice a_Wa a_Wn a_Wc) a.writes := Rd.start Q1 (fun _ _ => fps_nil _)
 obtain ⟨Q7, Q5, Q9, Q11⟩ := Rd.inv Q1
 refine calls_enter 18 Try.func38 rfl Try.ntmps38 (Nat.le_of_ble_eq_true rfl) (fun _ F0i => ?_)
 have F0 : Fr 18 [(0, .agg #[.slice a_Ra a_Rn a_Rc, .slice a_Wa a_Wn a_Wc]), (1, .int .i64 ((k : Nat) : Int))] _ := F0i
 clear F0i
 refine wp_seq (wp_region_lit (l_op (f_box F0 (At.nil w) rfl rfl rfl (F0.ev 0 rfl) rfl rfl fun b1 _ w1 F2 S1 => ?_)))
 refine l_op (f_val F2 rfl rfl (r_assign rfl rfl) rfl fun _ F3 => ?_)
 have F4 : Fr 18 [(4, .int .i64 0), (2, .pointer (some ⟨b1, 0, none⟩)), (1, .int .i64 ((k : Nat) : Int))] _ := F3.cut rfl
 clear F0 F2 F3
 have T5 : Mv _ _ [bx b1 [.slice a_Ra a_Rn a_Rc, .slice a_Wa a_Wn a_Wc] 33] _ := S1
 refine s_end (x_normal (wp_seq (wp_region_lit (l_op (f_val F4 rfl rfl (r_field FI_33_0 rfl (F4.ev 2 rfl) rfl) rfl fun _ F6 => ?_)))))
 refine l_op (f_val (v := .slice a_Ra a_Rn a_Rc) F6 rfl rfl (r_loadB T5.at' 0 TI_24 rfl rfl (F6.ev 5 rfl) rfl rfl (fun _ => rfl) rfl) rfl fun _ F7 => ?_)
 refine l_op (f_mv F7 rfl rfl rfl rfl rfl fun _ F8 => ?_)
 refine l_op (f_call F8 CF_55 rfl rfl rfl rfl (lc (F8.ev 6 rfl) (lc (F8.ev 7 rfl) rfl)) (laws_heldStringS_c (n := d.reads.length) (a := a.reads) (k := k) (Rd.mv (Nat.succ_pos _) Q2 T5) ⟨by omega, by first | omega | (unfold i64ok at *; omega)⟩ (by rw [p0]; rfl) (by first | assumption | omega | (simp <;> omega))) ?_)
 rintro _ w9 ⟨rfl, m9⟩
 refine ⟨_, rfl, fun _ F10 => ?_⟩
 have S9 := At.frame0 T5.at' m9
 clear m9
 refine l_op (f_as F10 rfl rfl rfl rfl rfl fun _ F11 => ?_)
 have F12 : Fr 18 [(1, .int .i64 ((k + d.reads.length : Nat) : Int)), (2, .pointer (some ⟨b1, 0, none⟩))] _ := F11.cut rfl
 clear F4 F6 F7 F8 F10 F11
 have T13 : Mv _ _ [bx b1 [.slice a_Ra a_Rn a_Rc, .slice a_Wa a_Wn a_Wc] 33] _ := S9
 refine s_end (x_normal (wp_seq (wp_seq (wp_region_lit (l_op (f_mv F12 rfl rfl rfl rfl rfl fun _ F14 => ?_))))))
 refine l_op (f_val F14 rfl rfl (r_cmp (b := false) (.inr (.inr (.inl rfl))) rfl (F14.ev 9 rfl) rfl (cmp_lt0 _ _ (by omega))) rfl fun _ F15 => ?_)
 have F16 : Fr 18 [(10, .bool false), (1, .int .i64 ((k + d.reads.length : Nat) : Int)), (2, .pointer (some ⟨b1, 0, none⟩))] _ := F15.cut rfl
 clear F12 F14 F15
 refine s_end (x_normal (wp_cond_false (F16.ev 10 rfl) (wp_skip (x_normal (wp_seq (wp_region_lit (l_op (f_val F16 rfl rfl (r_field FI_33_1 rfl (F16.ev 2 rfl) rfl) rfl fun _ F17 => ?_))))))))
 refine l_op (f_val (v := .slice a_Wa a_Wn a_Wc) F17 rfl rfl (r_loadB T13.at' 0 TI_24 rfl rfl (F17.ev 11 rfl) rfl rfl (fun _ => rfl) rfl) rfl fun _ F18 => ?_)
 refine l_op (f_mv F18 rfl rfl rfl rfl rfl fun _ F19 => ?_)
 refine l_op (f_call F19 CF_55 rfl rfl rfl rfl (lc (F19.ev 12 rfl) (lc (F19.ev 13 rfl) rfl)) (laws_heldStringS_c (n := d.writes.length) (a := a.writes) (k := k + d.reads.length) (Rd.mv (Nat.succ_pos _) Q3 (T5.trans T13)) ⟨by omega, by first | omega | (unfold i64ok at *; omega)⟩ (by rw [p0]; rfl) (by first | assumption | omega | (simp <;> omega))) ?_)
 rintro _ w20 ⟨rfl, m20⟩
 refine ⟨_, rfl, fun _ F21 => ?_⟩
 have S20 := At.frame0 T13.at' m20
 clear m20
 refine l_op (f_as F21 rfl rfl rfl rfl rfl fun _ F22 => ?_)
 have F23 : Fr 18 [(1, .int .i64 (((k + d.reads.length) + d.writes.length : Nat) : Int))] _ := F22.cut rfl
 clear F16 F17 F18 F19 F21 F22
 have T24 : Mv _ _ [bx b1 [.slice a_Ra a_Rn a_Rc, .slice a_Wa a_Wn a_Wc] 33] _ := S20
 refine s_end (x_normal (wp_seq (wp_seq (wp_region_lit (l_op (f_mv F23 rfl rfl rfl rfl rfl fun _ F25 => ?_))))))
 refine l_op (f_val F25 rfl rfl (r_cmp (b := false) (.inr (.inr (.inl rfl))) rfl (F25.ev 15 rfl) rfl (cmp_lt0 _ _ (by omega))) rfl fun _ F26 => ?_)
 have F27 : Fr 18 [(16, .bool false), (1, .int .i64 (((k + d.reads.length) + d.writes.length : Nat) : Int))] _ := F26.cut rfl
 clear F23 F25 F26
 refine s_end (x_normal (wp_cond_false (F27.ev 16 rfl) (wp_skip (x_normal (wp_seq (wp_region_lit (l_op (f_mv F27 rfl rfl rfl rfl rfl fun _ F28 => ?_))))))))
 refine l_op (f_as F28 rfl rfl rfl rfl rfl fun _ F29 => ?_)
 have F30 : Fr 18 [(4, .int .i64 (((k + d.reads.length) + d.writes.length : Nat) : Int))] _ := F29.cut rfl
 clear F27 F28 F29
 refine s_end (x_normal (wp_ret ?_))
 refine x_done (v := .int .i64 (((k + d.reads.length) + d.writes.length : Nat) : Int)) F30 (results_1 Try.results38 (.tmp (F30.ev 4 rfl))) ?_
 exact ⟨(by rw [(show (((k + d.reads.length) + d.writes.length : Nat) : Int) = ((k + cntT d : Nat) : Int) from by unfold cntT; omega)]), (Mv.pick (T5.trans (T13.trans T24)) [] rfl)⟩
theorem impl_Touch_clone_c {w : World} {H : Nat → Prop} {t : TouchD} {t_Ra : Option Addr} {t_Rn t_Rc : Nat} {t_Wa : Option Addr} {t_Wn t_Wc : Nat} (Q12 : Rd 1 encS okS H w (.slice t_Ra t_Rn t_Rc) t.reads) (Q13 : Rd 1 encS okS H w (.slice t_Wa t_Wn t_Wc) t.writes) (p0 : t.reads.length ≤ 1099511627776) (p1 : t.writes.length ≤ 1099511627776) :
    Calls Try.prog 49 #[.agg #[.slice t_Ra t_Rn t_Rc, .slice t_Wa t_Wn t_Wc]] w fun e w' => ∃ (Q6 : Option Addr), ∃ (Q8 : Nat), ∃ (Q7 : Nat), ∃ (Q9 : Option Addr), ∃ (Q11 : Nat), ∃ (Q10 : Nat), e = .returned (.agg #[.slice Q6 Q8 Q7, .slice Q9 Q11 Q10]) ∧ Mv [] w [ow 9 1 encS okS (.slice Q6 Q8 Q7) t.reads, ow 9 1 encS okS (.slice Q9 Q11 Q10) t.writes] w' := by
 have uU : True := (fun _ _ => trivial) p0 p1
 clear uU
 have Q14 : Rd 1 encS okS (V H w []) w (.slice t_Ra t_Rn t_Rc) t.reads := Rd.start Q12 (fun _ _ => fps_nil _)
 obtain ⟨Q18, Q16, Q32, Q34⟩ := Rd.inv Q12
 have Q15 : Rd 1 encS okS (V H w []) w (.slice t_Wa t_Wn t_Wc) t.writes := Rd.start Q13 (fun _ _ => fps_nil _)
 obtain ⟨Q19, Q17, Q33, Q35⟩ := Rd.inv Q13
 refine calls_enter 10 Try.func49 rfl Try.ntmps49 (Nat.le_of_ble_eq_true rfl) (fun _ F0i => ?_)
 have F0 : Fr 10 [(0, .agg #[.slice t_Ra t_Rn t_Rc, .slice t_Wa t_Wn t_Wc])] _ := F0i
 clear F0i
 refine wp_seq (wp_region_lit (l_op (f_box F0 (At.nil w) rfl rfl rfl (F0.ev 0 rfl) rfl rfl fun b1 _ w1 F2 S1 => ?_)))
 refine l_op (f_alloc F2 S1.at' ZI_33 rfl rfl rfl rfl rfl fun b3 _ w3 F4 S3 => ?_)
 have F5 : Fr 10 [(2, .pointer (some ⟨b3, 0, none⟩)), (1, .pointer (some ⟨b1, 0, none⟩))] _ := F4.cut rfl
 clear F0 F2 F4
 have T6 : Mv _ _ [bx b3 [.slice none 0 0, .slice none 0 0] 33, bx b1 [.slice t_Ra t_Rn t_Rc, .slice t_Wa t_Wn t_Wc] 33] _ := S3
 refine s_end (x_normal (wp_seq ?_))
 refine x_draw (fun aZ wZ => ∃ (Q0 : Option Addr), ∃ (Q2 : Nat), ∃ (Q1 : Nat), ∃ (Q3 : Option Addr), ∃ (Q5 : Nat), ∃ (Q4 : Nat), Fr 10 [(2, .pointer (some ⟨b3, 0, none⟩))] aZ ∧ Mv [bx b3 [.slice none 0 0, .slice none 0 0] 33, bx b1 [.slice t_Ra t_Rn t_Rc, .slice t_Wa t_Wn t_Wc] 33] w3 [bx b3 [.slice Q0 Q2 Q1, .slice Q3 Q5 Q4] 33, bx b1 [.slice t_Ra t_Rn t_Rc, .slice t_Wa t_Wn t_Wc] 33, ow 9 1 encS okS (.slice Q0 Q2 Q1) t.reads, ow 9 1 encS okS (.slice Q3 Q5 Q4) t.writes] wZ) [bx b1 [.slice t_Ra t_Rn t_Rc, .slice t_Wa t_Wn t_Wc] 33] mixed T6.at' (listed := #[false, false, false, false, false, false, false, false]) rfl (fun w8 S8 => ?_) [1] rfl ?_
 · skip
   refine g_take F5 rfl (i := 0) (listed' := #[true, false, false, false, false, false, false, false]) rfl (by kernel_rfl) (by kernel_rfl) (by kernel_rfl) (fun _ _ _ h => h) (Sd.of (Mv.refl S8.at') [1] rfl) rfl rfl rfl rfl (fun _ hz => (r_field FI_33_0 rfl (F5.ev 1 rfl) rfl)) fun _ F9 => ?_
   refine g_take (v := .slice t_Ra t_Rn t_Rc) F9 rfl (i := 1) (listed' := #[true, true, false, false, false, false, false, false]) rfl (by kernel_rfl) (by kernel_rfl) (by kernel_rfl) (fun _ _ _ h => h) (Sd.of (Mv.refl S8.at') [1] rfl) rfl rfl rfl rfl (fun _ hz => (r_loadX (hz.bx 0 rfl) TI_24 rfl (F9.ev 3 rfl) rfl rfl (fun _ => rfl) rfl)) fun _ F10 => ?_
   refine g_take F10 rfl (i := 3) (listed' := #[true, true, false, true, false, false, false, false]) rfl (by kernel_rfl) (by kernel_rfl) (by kernel_rfl) (fun _ _ _ h => h) (Sd.of (Mv.refl S8.at') [1] rfl) rfl rfl rfl rfl (fun _ hz => (r_field FI_33_1 rfl (F10.ev 1 rfl) rfl)) fun _ F11 => ?_
   refine g_take (v := .slice t_Wa t_Wn t_Wc) F11 rfl (i := 4) (listed' := #[true, true, false, true, true, false, false, false]) rfl (by kernel_rfl) (by kernel_rfl) (by kernel_rfl) (fun _ _ _ h => h) (Sd.of (Mv.refl S8.at') [1] rfl) rfl rfl rfl rfl (fun _ hz => (r_loadX (hz.bx 0 rfl) TI_24 rfl (F11.ev 6 rfl) rfl rfl (fun _ => rfl) rfl)) fun _ F12 => ?_
   refine d_one (i := 2) (listed' := #[true, true, true, true, true, false, false, false]) rfl (by kernel_rfl) rfl rfl ?_
   refine f_call F12 CF_56 rfl rfl rfl rfl (lc (F12.ev 4 rfl) rfl) (slices_Clone_Sstring_string_c (s := t.reads) (Rd.mv (Nat.succ_pos _) Q14 (S1.trans (T6.trans S8))) (by first | assumption | omega | (simp <;> omega))) ?_
   rintro _ w13 ⟨Q0, Q2, Q1, rfl, m13⟩
   refine ⟨_, rfl, fun _ F14 => ?_⟩
   have S13 : Mv _ _ [ow 9 1 encS okS (.slice Q0 Q2 Q1) t.reads, bx b3 [.slice none 0 0, .slice none 0 0] 33, bx b1 [.slice t_Ra t_Rn t_Rc, .slice t_Wa t_Wn t_Wc] 33] _ := At.frame S8.at' [] rfl m13
   obtain ⟨Q20, Q24, Q28⟩ := At.ownInv S13.at' ET_24.hk 0 rfl
   clear m13
   refine ⟨Sd.of S13 [2] rfl, ?_⟩
   refine d_one (i := 5) (listed' := #[true, true, true, true, true, true, false, false]) rfl (by kernel_rfl) rfl rfl ?_
   refine f_call F14 CF_56 rfl rfl rfl rfl (lc (F14.ev 7 rfl) rfl) (slices_Clone_Sstring_string_c (s := t.writes) (Rd.mv (Nat.succ_pos _) Q15 (S1.trans (T6.trans (S8.trans S13)))) (by first | assumption | omega | (simp <;> omega))) ?_
   rintro _ w15 ⟨Q3, Q5, Q4, rfl, m15⟩
   refine ⟨_, rfl, fun _ F16 => ?_⟩
   have S15 : Mv _ _ [ow 9 1 encS okS (.slice Q3 Q5 Q4) t.writes, ow 9 1 encS okS (.slice Q0 Q2 Q1) t.reads, bx b3 [.slice none 0 0, .slice none 0 0] 33, bx b1 [.slice t_Ra t_Rn t_Rc, .slice t_Wa t_Wn t_Wc] 33] _ := At.frame S13.at' [] rfl m15
   obtain ⟨Q21, Q25, Q29⟩ := At.ownInv S15.at' ET_24.hk 0 rfl
   clear m15
   refine ⟨Sd.of (S13.trans S15) [3] rfl, ?_⟩
   refine g_take (v := .agg #[.slice Q0 Q2 Q1, .slice Q3 Q5 Q4]) F16 rfl (i := 6) (listed' := #[true, true, true, true, true, true, true, false]) rfl (by kernel_rfl) (by kernel_rfl) (by kernel_rfl) (fun _ _ _ h => h) (Sd.of (S13.trans S15) [3] rfl) rfl rfl rfl rfl (fun _ hz => (r_build BI_33 rfl (lc (pr2 (F16.ev 5 rfl)) (lc (pr2 (F16.ev 8 rfl)) rfl)) rfl)) fun _ F17 => ?_
   refine d_one (i := 7) (listed' := #[true, true, true, true, true, true, true, true]) rfl (by kernel_rfl) rfl rfl ?_
   refine s_store S15.at' 2 TI_33 rfl rfl rfl rfl rfl (F17.ev 2 rfl) (F17.ev 9 rfl) rfl rfl rfl rfl rfl fun w18 S18 => ?_
   refine ⟨Sd.of (S13.trans (S15.trans S18)) [3] rfl, ?_⟩
   refine wpAnyH_done (by kernel_rfl) (x_normal ?_) _
   exact ⟨Q0, Q2, Q1, Q3, Q5, Q4, F17.cut rfl, ((S8.trans (S13.trans (S15.trans S18))).pick [0, 3, 2, 1] rfl)⟩
 · rintro a19 w19 ⟨Q0, Q2, Q1, Q3, Q5, Q4, F19, S19⟩
   obtain ⟨Q22, Q26, Q30⟩ := At.ownInv S19.at' ET_24.hk 2 rfl
   obtain ⟨Q23, Q27, Q31⟩ := At.ownInv S19.at' ET_24.hk 3 rfl
   refine x_normal (wp_ret ?_)
   refine x_done (v := .agg #[.slice Q0 Q2 Q1, .slice Q3 Q5 Q4]) F19 (results_1 Try.results49 (.cell (F19.ev 2 rfl) (run_loadVar' TI_33 _ [.slice Q0 Q2 Q1, .slice Q3 Q5 Q4] rfl (fun h => nomatch h) (At.cells S19.at' 0 rfl 0 [.slice Q0 Q2 Q1, .slice Q3 Q5 Q4] rfl)))) ?_
   exact ⟨Q0, Q2, Q1, Q3, Q5, Q4, rfl, (Mv.pick (S1.trans (T6.trans S19)) [2, 3] rfl)⟩
theorem laws_markText_c {w : World} {H : Nat → Prop} {k : Nat} (h_k : i64ok (k : Int)) :
    Calls Try.prog 53 #[.int .i64 ((k : Nat) : Int)] w fun e w' => e = .returned (.string (markT k)) ∧ Mv [] w [] w' ∧ okS (markT k) := by
  have uU : True := (fun _ => trivial) H
  clear uU
  refine (markText_c k w (by obtain ⟨_, h⟩ := h_k; omega)).mono ?_
  rintro e w' ⟨rfl, hb⟩
  exact ⟨rfl, Mv.of_bl hb, markT_ok k⟩
theorem laws_szCall_c {w : World} {H : Nat → Prop} {a : CallD} {left : Int} (Q1 : i64ok a.kind) (Q2 : okS a.name) (Q4 : okS a.to_) (h_a_a : i64ok a.a) (Q0 : i64ok a.b) (Q3 : okS a.text) (Q5 : i64ok left) (p0 : 0 ≤ left) (p1 : left ≤ 1048576) :
    Calls Try.prog 40 #[.agg #[.int .i64 a.kind, .string a.name, .string a.to_, .int .i64 a.a, .int .i64 a.b, .string a.text], .int .i64 left] w fun e w' => e = .returned (.int .i64 (subOr left (szCallD a))) ∧ Mv [] w [] w' ∧ i64ok (subOr left (szCallD a)) := by
 have uU : True := (fun _ _ _ _ _ => trivial) H Q1 h_a_a Q0 Q5
 clear uU
 unfold okS at Q2 Q4 Q3
 refine calls_enter 27 Try.func40 rfl Try.ntmps40 (Nat.le_of_ble_eq_true rfl) (fun _ F0i => ?_)
 have F0 : Fr 27 [(0, .agg #[.int .i64 a.kind, .string a.name, .string a.to_, .int .i64 a.a, .int .i64 a.b, .string a.text]), (1, .int .i64 left)] _ := F0i
 clear F0i
 refine wp_seq (wp_region_lit (l_op (f_box F0 (At.nil w) rfl rfl rfl (F0.ev 0 rfl) rfl rfl fun b1 _ w1 F2 S1 => ?_)))
 refine l_op (f_val F2 rfl rfl (r_assign rfl rfl) rfl fun _ F3 => ?_)
 have F4 : Fr 27 [(4, .int .i64 0), (2, .pointer (some ⟨b1, 0, none⟩)), (1, .int .i64 left)] _ := F3.cut rfl
 clear F0 F2 F3
 have T5 : Mv _ _ [bx b1 [.int .i64 a.kind, .string a.name, .string a.to_, .int .i64 a.a, .int .i64 a.b, .string a.text] 68] _ := S1
 refine s_end (x_normal (wp_seq (wp_region_lit (l_op (f_mv F4 rfl rfl rfl rfl rfl fun _ F6 => ?_)))))
 refine l_op (f_val F6 rfl rfl (r_field FI_68_1 rfl (F6.ev 2 rfl) rfl) rfl fun _ F7 => ?_)
 refine l_op (f_val (v := .string a.name) F7 rfl rfl (r_loadB T5.at' 0 TI_9 rfl rfl (F7.ev 6 rfl) rfl rfl (fun _ => rfl) rfl) rfl fun _ F8 => ?_)
 refine l_op (f_val F8 rfl rfl (r_lenS (fun t ht => by cases ht; exact Try.underlying9) rfl rfl (F8.ev 7 rfl)) rfl fun _ F9 => ?_)
 refine l_op (f_val F9 rfl rfl (r_sub (z := (left - ((a.name.size : Nat) : Int))) rfl (F9.ev 5 rfl) (F9.ev 8 rfl) (by first | rfl | omega) ⟨by first | omega | (unfold i64ok at *; omega), by first | omega | (unfold i64ok at *; omega)⟩) rfl fun _ F10 => ?_)
 refine l_op (f_as F10 rfl rfl rfl rfl rfl fun _ F11 => ?_)
 have F12 : Fr 27 [(1, .int .i64 (left - ((a.name.size : Nat) : Int))), (2, .pointer (some ⟨b1, 0, none⟩))] _ := F11.cut rfl
 clear F4 F6 F7 F8 F9 F10 F11
 refine s_end (x_normal (wp_seq (wp_seq (wp_region_lit (l_op (f_mv F12 rfl rfl rfl rfl rfl fun _ F13 => ?_))))))
 refine l_op (f_val F13 rfl rfl (r_cmp (b := decide ((left - ((a.name.size : Nat) : Int)) < 0)) (.inr (.inr (.inl rfl))) rfl (F13.ev 10 rfl) rfl (dec_of (by omega))) rfl fun _ F14 => ?_)
 have F15 : Fr 27 [(11, .bool (decide ((left - ((a.name.size : Nat) : Int)) < 0))), (1, .int .i64 (left - ((a.name.size : Nat) : Int))), (2, .pointer (some ⟨b1, 0, none⟩))] _ := F14.cut rfl
 clear F12 F13 F14
 refine s_end (x_normal (x_cond (p := (left - ((a.name.size : Nat) : Int)) < 0) (F15.ev 11 rfl) (fun h16 => ?_) (fun h16 => ?_)))
 · skip
   refine wp_seq (wp_region_lit (l_op (f_val F15 rfl rfl (r_assign rfl rfl) rfl fun _ F17 => ?_)))
   have F18 : Fr 27 [(4, .int .i64 (-1))] _ := F17.cut rfl
   clear F15 F17
   refine s_end (x_normal (wp_ret (x_then_ret ?_)))
   refine x_done (v := .int .i64 (-1)) F18 (results_1 Try.results40 (.tmp (F18.ev 4 rfl))) ?_
   exact ⟨(by rw [(show (-1) = (subOr left (szCallD a)) from by unfold szCallD; first | exact sz3_a (by assumption) | exact sz3_b (by assumption) | exact sz3_c (by assumption) | exact sz3_d (by assumption))]), (Mv.pick T5 [] rfl), subOr_i64 p0 p1⟩
 · skip
   refine wp_skip (x_normal (wp_seq (wp_region_lit (l_op (f_mv F15 rfl rfl rfl rfl rfl fun _ F19 => ?_)))))
   refine l_op (f_val F19 rfl rfl (r_field FI_68_2 rfl (F19.ev 2 rfl) rfl) rfl fun _ F20 => ?_)
   refine l_op (f_val (v := .string a.to_) F20 rfl rfl (r_loadB T5.at' 0 TI_9 rfl rfl (F20.ev 13 rfl) rfl rfl (fun _ => rfl) rfl) rfl fun _ F21 => ?_)
   refine l_op (f_val F21 rfl rfl (r_lenS (fun t ht => by cases ht; exact Try.underlying9) rfl rfl (F21.ev 14 rfl)) rfl fun _ F22 => ?_)
   refine l_op (f_val F22 rfl rfl (r_sub (z := ((left - ((a.name.size : Nat) : Int)) - ((a.to_.size : Nat) : Int))) rfl (F22.ev 12 rfl) (F22.ev 15 rfl) (by first | rfl | omega) ⟨by first | omega | (unfold i64ok at *; omega), by first | omega | (unfold i64ok at *; omega)⟩) rfl fun _ F23 => ?_)
   refine l_op (f_as F23 rfl rfl rfl rfl rfl fun _ F24 => ?_)
   have F25 : Fr 27 [(1, .int .i64 ((left - ((a.name.size : Nat) : Int)) - ((a.to_.size : Nat) : Int))), (2, .pointer (some ⟨b1, 0, none⟩))] _ := F24.cut rfl
   clear F15 F19 F20 F21 F22 F23 F24
   refine s_end (x_normal (wp_seq (wp_seq (wp_region_lit (l_op (f_mv F25 rfl rfl rfl rfl rfl fun _ F26 => ?_))))))
   refine l_op (f_val F26 rfl rfl (r_cmp (b := decide (((left - ((a.name.size : Nat) : Int)) - ((a.to_.size : Nat) : Int)) < 0)) (.inr (.inr (.inl rfl))) rfl (F26.ev 17 rfl) rfl (dec_of (by omega))) rfl fun _ F27 => ?_)
   have F28 : Fr 27 [(18, .bool (decide (((left - ((a.name.size : Nat) : Int)) - ((a.to_.size : Nat) : Int)) < 0))), (1, .int .i64 ((left - ((a.name.size : Nat) : Int)) - ((a.to_.size : Nat) : Int))), (2, .pointer (some ⟨b1, 0, none⟩))] _ := F27.cut rfl
   clear F25 F26 F27
   refine s_end (x_normal (x_cond (p := ((left - ((a.name.size : Nat) : Int)) - ((a.to_.size : Nat) : Int)) < 0) (F28.ev 18 rfl) (fun h29 => ?_) (fun h29 => ?_)))
   · skip
     refine wp_seq (wp_region_lit (l_op (f_val F28 rfl rfl (r_assign rfl rfl) rfl fun _ F30 => ?_)))
     have F31 : Fr 27 [(4, .int .i64 (-1))] _ := F30.cut rfl
     clear F28 F30
     refine s_end (x_normal (wp_ret (x_then_ret ?_)))
     refine x_done (v := .int .i64 (-1)) F31 (results_1 Try.results40 (.tmp (F31.ev 4 rfl))) ?_
     exact ⟨(by rw [(show (-1) = (subOr left (szCallD a)) from by unfold szCallD; first | exact sz3_a (by assumption) | exact sz3_b (by assumption) | exact sz3_c (by assumption) | exact sz3_d (by assumption))]), (Mv.pick T5 [] rfl), subOr_i64 p0 p1⟩
   · skip
     refine wp_skip (x_normal (wp_seq (wp_region_lit (l_op (f_mv F28 rfl rfl rfl rfl rfl fun _ F32 => ?_)))))
     refine l_op (f_val F32 rfl rfl (r_field FI_68_5 rfl (F32.ev 2 rfl) rfl) rfl fun _ F33 => ?_)
     refine l_op (f_val (v := .string a.text) F33 rfl rfl (r_loadB T5.at' 0 TI_9 rfl rfl (F33.ev 20 rfl) rfl rfl (fun _ => rfl) rfl) rfl fun _ F34 => ?_)
     refine l_op (f_val F34 rfl rfl (r_lenS (fun t ht => by cases ht; exact Try.underlying9) rfl rfl (F34.ev 21 rfl)) rfl fun _ F35 => ?_)
     refine l_op (f_val F35 rfl rfl (r_sub (z := (((left - ((a.name.size : Nat) : Int)) - ((a.to_.size : Nat) : Int)) - ((a.text.size : Nat) : Int))) rfl (F35.ev 19 rfl) (F35.ev 22 rfl) (by first | rfl | omega) ⟨by first | omega | (unfold i64ok at *; omega), by first | omega | (unfold i64ok at *; omega)⟩) rfl fun _ F36 => ?_)
     refine l_op (f_as F36 rfl rfl rfl rfl rfl fun _ F37 => ?_)
     have F38 : Fr 27 [(1, .int .i64 (((left - ((a.name.size : Nat) : Int)) - ((a.to_.size : Nat) : Int)) - ((a.text.size : Nat) : Int)))] _ := F37.cut rfl
     clear F28 F32 F33 F34 F35 F36 F37
     refine s_end (x_normal (wp_seq (wp_seq (wp_region_lit (l_op (f_mv F38 rfl rfl rfl rfl rfl fun _ F39 => ?_))))))
     refine l_op (f_val F39 rfl rfl (r_cmp (b := decide ((((left - ((a.name.size : Nat) : Int)) - ((a.to_.size : Nat) : Int)) - ((a.text.size : Nat) : Int)) < 0)) (.inr (.inr (.inl rfl))) rfl (F39.ev 24 rfl) rfl (dec_of (by omega))) rfl fun _ F40 => ?_)
     have F41 : Fr 27 [(25, .bool (decide ((((left - ((a.name.size : Nat) : Int)) - ((a.to_.size : Nat) : Int)) - ((a.text.size : Nat) : Int)) < 0))), (1, .int .i64 (((left - ((a.name.size : Nat) : Int)) - ((a.to_.size : Nat) : Int)) - ((a.text.size : Nat) : Int)))] _ := F40.cut rfl
     clear F38 F39 F40
     refine s_end (x_normal (x_cond (p := (((left - ((a.name.size : Nat) : Int)) - ((a.to_.size : Nat) : Int)) - ((a.text.size : Nat) : Int)) < 0) (F41.ev 25 rfl) (fun h42 => ?_) (fun h42 => ?_)))
     · skip
       refine wp_seq (wp_region_lit (l_op (f_val F41 rfl rfl (r_assign rfl rfl) rfl fun _ F43 => ?_)))
       have F44 : Fr 27 [(4, .int .i64 (-1))] _ := F43.cut rfl
       clear F41 F43
       refine s_end (x_normal (wp_ret (x_then_ret ?_)))
       refine x_done (v := .int .i64 (-1)) F44 (results_1 Try.results40 (.tmp (F44.ev 4 rfl))) ?_
       exact ⟨(by rw [(show (-1) = (subOr left (szCallD a)) from by unfold szCallD; first | exact sz3_a (by assumption) | exact sz3_b (by assumption) | exact sz3_c (by assumption) | exact sz3_d (by assumption))]), (Mv.pick T5 [] rfl), subOr_i64 p0 p1⟩
     · skip
       refine wp_skip (x_normal (wp_seq (wp_region_lit (l_op (f_mv F41 rfl rfl rfl rfl rfl fun _ F45 => ?_)))))
       refine l_op (f_as F45 rfl rfl rfl rfl rfl fun _ F46 => ?_)
       have F47 : Fr 27 [(4, .int .i64 (((left - ((a.name.size : Nat) : Int)) - ((a.to_.size : Nat) : Int)) - ((a.text.size : Nat) : Int)))] _ := F46.cut rfl
       clear F41 F45 F46
       refine s_end (x_normal (wp_ret ?_))
       refine x_done (v := .int .i64 (((left - ((a.name.size : Nat) : Int)) - ((a.to_.size : Nat) : Int)) - ((a.text.size : Nat) : Int))) F47 (results_1 Try.results40 (.tmp (F47.ev 4 rfl))) ?_
       exact ⟨(by rw [(show (((left - ((a.name.size : Nat) : Int)) - ((a.to_.size : Nat) : Int)) - ((a.text.size : Nat) : Int)) = (subOr left (szCallD a)) from by unfold szCallD; first | exact sz3_a (by assumption) | exact sz3_b (by assumption) | exact sz3_c (by assumption) | exact sz3_d (by assumption))]), (Mv.pick T5 [] rfl), subOr_i64 p0 p1⟩
theorem laws_szAnswer_c {w : World} {H : Nat → Prop} {a : AnsD} {left : Int} (Q0 : i64ok a.code) (h_a_n : i64ok a.n) (Q1 : okS a.text) (Q2 : i64ok left) (p0 : 0 ≤ left) (p1 : left ≤ 1048576) :
    Calls Try.prog 41 #[.agg #[.int .i64 a.code, .int .i64 a.n, .string a.text], .int .i64 left] w fun e w' => e = .returned (.int .i64 (subOr left (szAnsD a))) ∧ Mv [] w [] w' ∧ i64ok (subOr left (szAnsD a)) := by
 have uU : True := (fun _ _ _ _ => trivial) H Q0 h_a_n Q2
 clear uU
 unfold okS at Q1
 refine calls_enter 13 Try.func41 rfl Try.ntmps41 (Nat.le_of_ble_eq_true rfl) (fun _ F0i => ?_)
 have F0 : Fr 13 [(0, .agg #[.int .i64 a.code, .int .i64 a.n, .string a.text]), (1, .int .i64 left)] _ := F0i
 clear F0i
 refine wp_seq (wp_region_lit (l_op (f_box F0 (At.nil w) rfl rfl rfl (F0.ev 0 rfl) rfl rfl fun b1 _ w1 F2 S1 => ?_)))
 refine l_op (f_val F2 rfl rfl (r_assign rfl rfl) rfl fun _ F3 => ?_)
 have F4 : Fr 13 [(4, .int .i64 0), (2, .pointer (some ⟨b1, 0, none⟩)), (1, .int .i64 left)] _ := F3.cut rfl
 clear F0 F2 F3
 have T5 : Mv _ _ [bx b1 [.int .i64 a.code, .int .i64 a.n, .string a.text] 70] _ := S1
 refine s_end (x_normal (wp_seq (wp_region_lit (l_op (f_mv F4 rfl rfl rfl rfl rfl fun _ F6 => ?_)))))
 refine l_op (f_val F6 rfl rfl (r_field FI_70_2 rfl (F6.ev 2 rfl) rfl) rfl fun _ F7 => ?_)
 refine l_op (f_val (v := .string a.text) F7 rfl rfl (r_loadB T5.at' 0 TI_9 rfl rfl (F7.ev 6 rfl) rfl rfl (fun _ => rfl) rfl) rfl fun _ F8 => ?_)
 refine l_op (f_val F8 rfl rfl (r_lenS (fun t ht => by cases ht; exact Try.underlying9) rfl rfl (F8.ev 7 rfl)) rfl fun _ F9 => ?_)
 refine l_op (f_val F9 rfl rfl (r_sub (z := (left - ((a.text.size : Nat) : Int))) rfl (F9.ev 5 rfl) (F9.ev 8 rfl) (by first | rfl | omega) ⟨by first | omega | (unfold i64ok at *; omega), by first | omega | (unfold i64ok at *; omega)⟩) rfl fun _ F10 => ?_)
 refine l_op (f_as F10 rfl rfl rfl rfl rfl fun _ F11 => ?_)
 have F12 : Fr 13 [(1, .int .i64 (left - ((a.text.size : Nat) : Int)))] _ := F11.cut rfl
 clear F4 F6 F7 F8 F9 F10 F11
 refine s_end (x_normal (wp_seq (wp_seq (wp_region_lit (l_op (f_mv F12 rfl rfl rfl rfl rfl fun _ F13 => ?_))))))
 refine l_op (f_val F13 rfl rfl (r_cmp (b := decide ((left - ((a.text.size : Nat) : Int)) < 0)) (.inr (.inr (.inl rfl))) rfl (F13.ev 10 rfl) rfl (dec_of (by omega))) rfl fun _ F14 => ?_)
 have F15 : Fr 13 [(11, .bool (decide ((left - ((a.text.size : Nat) : Int)) < 0))), (1, .int .i64 (left - ((a.text.size : Nat) : Int)))] _ := F14.cut rfl
 clear F12 F13 F14
 refine s_end (x_normal (x_cond (p := (left - ((a.text.size : Nat) : Int)) < 0) (F15.ev 11 rfl) (fun h16 => ?_) (fun h16 => ?_)))
 · skip
   refine wp_seq (wp_region_lit (l_op (f_val F15 rfl rfl (r_assign rfl rfl) rfl fun _ F17 => ?_)))
   have F18 : Fr 13 [(4, .int .i64 (-1))] _ := F17.cut rfl
   clear F15 F17
   refine s_end (x_normal (wp_ret (x_then_ret ?_)))
   refine x_done (v := .int .i64 (-1)) F18 (results_1 Try.results41 (.tmp (F18.ev 4 rfl))) ?_
   exact ⟨(by rw [(show (-1) = (subOr left (szAnsD a)) from by unfold szAnsD; first | exact sz1_a (by assumption) | exact sz1_b (by assumption))]), (Mv.pick T5 [] rfl), subOr_i64 p0 p1⟩
 · skip
   refine wp_skip (x_normal (wp_seq (wp_region_lit (l_op (f_mv F15 rfl rfl rfl rfl rfl fun _ F19 => ?_)))))
   refine l_op (f_as F19 rfl rfl rfl rfl rfl fun _ F20 => ?_)
   have F21 : Fr 13 [(4, .int .i64 (left - ((a.text.size : Nat) : Int)))] _ := F20.cut rfl
   clear F15 F19 F20
   refine s_end (x_normal (wp_ret ?_))
   refine x_done (v := .int .i64 (left - ((a.text.size : Nat) : Int))) F21 (results_1 Try.results41 (.tmp (F21.ev 4 rfl))) ?_
   exact ⟨(by rw [(show (left - ((a.text.size : Nat) : Int)) = (subOr left (szAnsD a)) from by unfold szAnsD; first | exact sz1_a (by assumption) | exact sz1_b (by assumption))]), (Mv.pick T5 [] rfl), subOr_i64 p0 p1⟩
theorem laws_szCallS_c {w : World} {H : Nat → Prop} {a : List CallD} {a_a : Option Addr} {a_n a_c : Nat} {left : Int} (v_a : RdA 6 encK okK H w (.slice a_a a_n a_c) a) (Q0 : i64ok left) (p0 : 0 ≤ left) (p1 : left ≤ 1048576) :
    Calls Try.prog 11 #[.slice a_a a_n a_c, .int .i64 left] w fun e w' => e = .returned (.int .i64 (subOr left (szCalls a))) ∧ Mv [] w [] w' ∧ i64ok (subOr left (szCalls a)) := by
 have uU : True := (fun _ => trivial) Q0
 clear uU
 have V_v_a : RdA 6 encK okK (V H w []) w (.slice a_a a_n a_c) a := RdA.start v_a (fun _ _ => fps_nil _)
 obtain ⟨ln_a, le_a, mx_a, ni_a⟩ := RdA.inv v_a
 refine calls_enter 27 Try.func11 rfl Try.ntmps11 (Nat.le_of_ble_eq_true rfl) (fun _ F0i => ?_)
 have F0 : Fr 27 [(0, .slice a_a a_n a_c), (1, .int .i64 left)] _ := F0i
 clear F0i
 refine wp_seq (wp_region_lit (l_op (f_val F0 rfl rfl (r_assign rfl rfl) rfl fun _ F1 => ?_)))
 have F2 : Fr 27 [(4, .int .i64 0), (0, .slice a_a a_n a_c), (1, .int .i64 left)] _ := F1.cut rfl
 clear F0 F1
 refine s_end (x_normal (wp_seq (wp_region_lit (l_op (f_mv F2 rfl rfl rfl rfl rfl fun _ F3 => ?_)))))
 refine l_op (f_mv F3 rfl rfl rfl rfl rfl fun _ F4 => ?_)
 refine l_op (f_val F4 rfl rfl (r_len Try.underlying22 rfl (F4.ev 7 rfl)) rfl fun _ F5 => ?_)
 refine l_op (f_val F5 rfl rfl (r_sub (z := (left - ((a_n : Nat) : Int))) rfl (F5.ev 6 rfl) (F5.ev 8 rfl) (by first | rfl | omega) ⟨by first | omega | (unfold i64ok at *; omega), by first | omega | (unfold i64ok at *; omega)⟩) rfl fun _ F6 => ?_)
 refine l_op (f_as F6 rfl rfl rfl rfl rfl fun _ F7 => ?_)
 have F8 : Fr 27 [(1, .int .i64 (left - ((a_n : Nat) : Int))), (0, .slice a_a a_n a_c)] _ := F7.cut rfl
 clear F2 F3 F4 F5 F6 F7
 refine s_end (x_normal (wp_seq (wp_seq (wp_region_lit (l_op (f_mv F8 rfl rfl rfl rfl rfl fun _ F9 => ?_))))))
 refine l_op (f_val F9 rfl rfl (r_cmp (b := decide ((left - ((a_n : Nat) : Int)) < 0)) (.inr (.inr (.inl rfl))) rfl (F9.ev 10 rfl) rfl (dec_of (by omega))) rfl fun _ F10 => ?_)
 have F11 : Fr 27 [(11, .bool (decide ((left - ((a_n : Nat) : Int)) < 0))), (1, .int .i64 (left - ((a_n : Nat) : Int))), (0, .slice a_a a_n a_c)] _ := F10.cut rfl
 clear F8 F9 F10
 refine s_end (x_normal (x_cond (p := (left - ((a_n : Nat) : Int)) < 0) (F11.ev 11 rfl) (fun h12 => ?_) (fun h12 => ?_)))
 · skip
   refine wp_seq (wp_region_lit (l_op (f_val F11 rfl rfl (r_assign rfl rfl) rfl fun _ F13 => ?_)))
   have F14 : Fr 27 [(4, .int .i64 (-1))] _ := F13.cut rfl
   clear F11 F13
   refine s_end (x_normal (wp_ret (x_then_ret ?_)))
   refine x_done (v := .int .i64 (-1)) F14 (results_1 Try.results11 (.tmp (F14.ev 4 rfl))) ?_
   exact ⟨(by rw [(show (-1) = (subOr left (szCalls a)) from by unfold szCalls; rw [← ln_a]; exact sz_neg (by assumption))]), (Mv.pick (Mv.refl (At.nil w)) [] rfl), subOr_i64 p0 p1⟩
 · skip
   refine wp_skip (x_normal (wp_seq (wp_seq (wp_region_lit (l_op (f_val F11 rfl rfl (r_assign rfl rfl) rfl fun _ F15 => ?_))))))
   have F16 : Fr 27 [(5, .int .i64 0), (1, .int .i64 (left - ((a_n : Nat) : Int))), (0, .slice a_a a_n a_c)] _ := F15.cut rfl
   clear F11 F15
   refine s_end (x_normal (wp_block ?_))
   refine x_loop (fun (k : Nat) aZ wZ => ∃ (lv : Int), Fr 27 [(5, .int .i64 ((k : Nat) : Int)), (1, .int .i64 lv), (0, .slice a_a a_n a_c)] aZ ∧ Mv [] w [] wZ ∧ (k ≤ a_n) ∧ (lv = left - ((a.length + sumOf szCallD (a.take k) : Nat) : Int)) ∧ (0 ≤ lv)) (fun (k : Nat) => a_n - k) (0) ?_ ?_
   · exact ⟨(left - ((a_n : Nat) : Int)), F16.cut rfl, (Mv.refl (At.nil w)), by omega, by have e : sumOf szCallD (a.take 0) = 0 := rfl; rw [e]; omega, by omega⟩
   · rintro k a17 w17 ⟨lv, F17, S17, hk_0, hk_1, hk_2⟩
     refine wp_seq (wp_seq (wp_region_lit (l_op (f_mv F17 rfl rfl rfl rfl rfl fun _ F18 => ?_))))
     refine l_op (f_mv F18 rfl rfl rfl rfl rfl fun _ F19 => ?_)
     refine l_op (f_val F19 rfl rfl (r_len Try.underlying22 rfl (F19.ev 13 rfl)) rfl fun _ F20 => ?_)
     refine l_op (f_val F20 rfl rfl (r_cmp (b := decide (k < a_n)) (.inr (.inr (.inl rfl))) rfl (F20.ev 12 rfl) (F20.ev 14 rfl) (dec_of (by omega))) rfl fun _ F21 => ?_)
     have F22 : Fr 27 [(15, .bool (decide (k < a_n))), (5, .int .i64 ((k : Nat) : Int)), (1, .int .i64 lv), (0, .slice a_a a_n a_c)] _ := F21.cut rfl
     clear F17 F18 F19 F20 F21
     refine s_end (x_normal (x_cond (p := k < a_n) (F22.ev 15 rfl) (fun h23 => ?_) (fun h23 => ?_)))
     · skip
       refine wp_skip (x_normal (wp_seq (wp_block (wp_seq (wp_region_lit (l_op (f_mv F22 rfl rfl rfl rfl rfl fun _ F24 => ?_)))))))
       refine l_op (f_mv F24 rfl rfl rfl rfl rfl fun _ F25 => ?_)
       obtain ⟨B26, O26, x1, ad26, hx1, okx1, ln26, cl26⟩ := RdA.at (RdA.mv (Nat.succ_pos _) V_v_a S17) k (by first | assumption | omega)
       clear ln26
       refine l_op (f_val F25 rfl rfl (r_indexAddr (i := k) ET_22 rfl ((F25.ev 18 rfl).trans (by rw [ad26])) (F25.ev 19 rfl) (by omega) (by first | assumption | omega)) rfl fun _ F27 => ?_)
       refine l_op (f_val (v := .agg #[.int .i64 x1.kind, .string x1.name, .string x1.to_, .int .i64 x1.a, .int .i64 x1.b, .string x1.text]) F27 rfl rfl (r_load (cs := [.int .i64 x1.kind, .string x1.name, .string x1.to_, .int .i64 x1.a, .int .i64 x1.b, .string x1.text]) TI_68 rfl (F27.ev 20 rfl) rfl (fun h => nomatch h) (elem_sub (f := 0) cl26 [.int .i64 x1.kind, .string x1.name, .string x1.to_, .int .i64 x1.a, .int .i64 x1.b, .string x1.text] rfl)) rfl fun _ F28 => ?_)
       refine l_op (f_mv F28 rfl rfl rfl rfl rfl fun _ F29 => ?_)
       refine l_op (f_call F29 CF_40 rfl rfl rfl rfl (lc (F29.ev 21 rfl) (lc (F29.ev 22 rfl) rfl)) (laws_szCall_c (H := fun _ => True) (a := x1) (left := lv) okx1.1 okx1.2.1 okx1.2.2.1 okx1.2.2.2.1 okx1.2.2.2.2.1 okx1.2.2.2.2.2 (by first | assumption | exact ⟨by omega, by omega⟩ | (unfold i64ok at *; omega)) (by first | assumption | omega | (simp <;> omega)) (by first | assumption | omega | (simp <;> omega))) ?_)
       rintro _ w30 ⟨rfl, m30, q30_0⟩
       refine ⟨_, rfl, fun _ F31 => ?_⟩
       have S30 := At.frame0 S17.at' m30
       clear m30
       refine l_op (f_as F31 rfl rfl rfl rfl rfl fun _ F32 => ?_)
       have F33 : Fr 27 [(1, .int .i64 (subOr lv (szCallD x1))), (5, .int .i64 ((k : Nat) : Int)), (0, .slice a_a a_n a_c)] _ := F32.cut rfl
       clear F22 F24 F25 F27 F28 F29 F31 F32
       have T34 : Mv _ _ [] _ := S30
       refine s_end (x_normal (wp_seq (wp_region_lit (l_op (f_mv F33 rfl rfl rfl rfl rfl fun _ F35 => ?_)))))
       refine l_op (f_val F35 rfl rfl (r_cmp (b := decide ((subOr lv (szCallD x1)) < 0)) (.inr (.inr (.inl rfl))) rfl (F35.ev 24 rfl) rfl (dec_of (by omega))) rfl fun _ F36 => ?_)
       have F37 : Fr 27 [(25, .bool (decide ((subOr lv (szCallD x1)) < 0))), (1, .int .i64 (subOr lv (szCallD x1))), (5, .int .i64 ((k : Nat) : Int)), (0, .slice a_a a_n a_c)] _ := F36.cut rfl
       clear F33 F35 F36
       refine s_end (x_normal (x_cond (p := (subOr lv (szCallD x1)) < 0) (F37.ev 25 rfl) (fun h38 => ?_) (fun h38 => ?_)))
       · skip
         refine wp_seq (wp_region_lit (l_op (f_val F37 rfl rfl (r_assign rfl rfl) rfl fun _ F39 => ?_)))
         have F40 : Fr 27 [(4, .int .i64 (-1))] _ := F39.cut rfl
         clear F37 F39
         refine s_end (x_normal (wp_ret (x_block_ret (x_then_ret (x_then_ret (x_block_ret (x_then_ret ?_)))))))
         refine x_done (v := .int .i64 (-1)) F40 (results_1 Try.results11 (.tmp (F40.ev 4 rfl))) ?_
         exact ⟨(by rw [(show (-1) = (subOr left (szCalls a)) from by unfold szCalls; exact sz_stop hx1 hk_1 (by assumption))]), (Mv.pick (S17.trans T34) [] rfl), subOr_i64 p0 p1⟩
       · skip
         refine wp_skip (x_block_normal (x_normal (wp_region_lit (l_op (f_mv F37 rfl rfl rfl rfl rfl fun _ F41 => ?_)))))
         refine l_op (f_val F41 rfl rfl (r_add (z := ((k + 1 : Nat) : Int)) rfl (F41.ev 16 rfl) rfl (by first | rfl | omega) ⟨by first | omega | (unfold i64ok at *; omega), by first | omega | (unfold i64ok at *; omega)⟩) rfl fun _ F42 => ?_)
         refine l_op (f_as F42 rfl rfl rfl rfl rfl fun _ F43 => ?_)
         have F44 : Fr 27 [(5, .int .i64 ((k + 1 : Nat) : Int)), (1, .int .i64 (subOr lv (szCallD x1))), (0, .slice a_a a_n a_c)] _ := F43.cut rfl
         clear F37 F41 F42 F43
         refine s_end ?_
         refine x_normal ⟨k + 1, by omega, (subOr lv (szCallD x1)), F44.cut rfl, ((S17.trans T34).pick [] rfl), by omega, (sz_next hx1 hk_1 (by assumption)).1, (sz_next hx1 hk_1 (by assumption)).2⟩
     · skip
       refine wp_exit (x_then_exit (x_then_exit (x_block_here (x_normal (wp_seq (wp_region_lit (l_op (f_mv F22 rfl rfl rfl rfl rfl fun _ F45 => ?_))))))))
       refine l_op (f_as F45 rfl rfl rfl rfl rfl fun _ F46 => ?_)
       have F47 : Fr 27 [(4, .int .i64 lv)] _ := F46.cut rfl
       clear F22 F45 F46
       refine s_end (x_normal (wp_ret ?_))
       refine x_done (v := .int .i64 lv) F47 (results_1 Try.results11 (.tmp (F47.ev 4 rfl))) ?_
       exact ⟨(by rw [(show lv = (subOr left (szCalls a)) from by unfold szCalls; exact sz_done (by omega) hk_1 hk_2)]), (Mv.pick S17 [] rfl), subOr_i64 p0 p1⟩
theorem laws_szAnswerS_c {w : World} {H : Nat → Prop} {a : List AnsD} {a_a : Option Addr} {a_n a_c : Nat} {left : Int} (v_a : RdA 3 encR okR H w (.slice a_a a_n a_c) a) (Q0 : i64ok left) (p0 : 0 ≤ left) (p1 : left ≤ 1048576) :
    Calls Try.prog 12 #[.slice a_a a_n a_c, .int .i64 left] w fun e w' => e = .returned (.int .i64 (subOr left (szAnss a))) ∧ Mv [] w [] w' ∧ i64ok (subOr left (szAnss a)) := by
 have uU : True := (fun _ => trivial) Q0
 clear uU
 have V_v_a : RdA 3 encR okR (V H w []) w (.slice a_a a_n a_c) a := RdA.start v_a (fun _ _ => fps_nil _)
 obtain ⟨ln_a, le_a, mx_a, ni_a⟩ := RdA.inv v_a
 refine calls_enter 27 Try.func12 rfl Try.ntmps12 (Nat.le_of_ble_eq_true rfl) (fun _ F0i => ?_)
 have F0 : Fr 27 [(0, .slice a_a a_n a_c), (1, .int .i64 left)] _ := F0i
 clear F0i
 refine wp_seq (wp_region_lit (l_op (f_val F0 rfl rfl (r_assign rfl rfl) rfl fun _ F1 => ?_)))
 have F2 : Fr 27 [(4, .int .i64 0), (0, .slice a_a a_n a_c), (1, .int .i64 left)] _ := F1.cut rfl
 clear F0 F1
 refine s_end (x_normal (wp_seq (wp_region_lit (l_op (f_mv F2 rfl rfl rfl rfl rfl fun _ F3 => ?_)))))
 refine l_op (f_mv F3 rfl rfl rfl rfl rfl fun _ F4 => ?_)
 refine l_op (f_val F4 rfl rfl (r_len Try.underlying23 rfl (F4.ev 7 rfl)) rfl fun _ F5 => ?_)
 refine l_op (f_val F5 rfl rfl (r_sub (z := (left - ((a_n : Nat) : Int))) rfl (F5.ev 6 rfl) (F5.ev 8 rfl) (by first | rfl | omega) ⟨by first | omega | (unfold i64ok at *; omega), by first | omega | (unfold i64ok at *; omega)⟩) rfl fun _ F6 => ?_)
 refine l_op (f_as F6 rfl rfl rfl rfl rfl fun _ F7 => ?_)
 have F8 : Fr 27 [(1, .int .i64 (left - ((a_n : Nat) : Int))), (0, .slice a_a a_n a_c)] _ := F7.cut rfl
 clear F2 F3 F4 F5 F6 F7
 refine s_end (x_normal (wp_seq (wp_seq (wp_region_lit (l_op (f_mv F8 rfl rfl rfl rfl rfl fun _ F9 => ?_))))))
 refine l_op (f_val F9 rfl rfl (r_cmp (b := decide ((left - ((a_n : Nat) : Int)) < 0)) (.inr (.inr (.inl rfl))) rfl (F9.ev 10 rfl) rfl (dec_of (by omega))) rfl fun _ F10 => ?_)
 have F11 : Fr 27 [(11, .bool (decide ((left - ((a_n : Nat) : Int)) < 0))), (1, .int .i64 (left - ((a_n : Nat) : Int))), (0, .slice a_a a_n a_c)] _ := F10.cut rfl
 clear F8 F9 F10
 refine s_end (x_normal (x_cond (p := (left - ((a_n : Nat) : Int)) < 0) (F11.ev 11 rfl) (fun h12 => ?_) (fun h12 => ?_)))
 · skip
   refine wp_seq (wp_region_lit (l_op (f_val F11 rfl rfl (r_assign rfl rfl) rfl fun _ F13 => ?_)))
   have F14 : Fr 27 [(4, .int .i64 (-1))] _ := F13.cut rfl
   clear F11 F13
   refine s_end (x_normal (wp_ret (x_then_ret ?_)))
   refine x_done (v := .int .i64 (-1)) F14 (results_1 Try.results12 (.tmp (F14.ev 4 rfl))) ?_
   exact ⟨(by rw [(show (-1) = (subOr left (szAnss a)) from by unfold szAnss; rw [← ln_a]; exact sz_neg (by assumption))]), (Mv.pick (Mv.refl (At.nil w)) [] rfl), subOr_i64 p0 p1⟩
 · skip
   refine wp_skip (x_normal (wp_seq (wp_seq (wp_region_lit (l_op (f_val F11 rfl rfl (r_assign rfl rfl) rfl fun _ F15 => ?_))))))
   have F16 : Fr 27 [(5, .int .i64 0), (1, .int .i64 (left - ((a_n : Nat) : Int))), (0, .slice a_a a_n a_c)] _ := F15.cut rfl
   clear F11 F15
   refine s_end (x_normal (wp_block ?_))
   refine x_loop (fun (k : Nat) aZ wZ => ∃ (lv : Int), Fr 27 [(5, .int .i64 ((k : Nat) : Int)), (1, .int .i64 lv), (0, .slice a_a a_n a_c)] aZ ∧ Mv [] w [] wZ ∧ (k ≤ a_n) ∧ (lv = left - ((a.length + sumOf szAnsD (a.take k) : Nat) : Int)) ∧ (0 ≤ lv)) (fun (k : Nat) => a_n - k) (0) ?_ ?_
   · exact ⟨(left - ((a_n : Nat) : Int)), F16.cut rfl, (Mv.refl (At.nil w)), by omega, by have e : sumOf szAnsD (a.take 0) = 0 := rfl; rw [e]; omega, by omega⟩
   · rintro k a17 w17 ⟨lv, F17, S17, hk_0, hk_1, hk_2⟩
     refine wp_seq (wp_seq (wp_region_lit (l_op (f_mv F17 rfl rfl rfl rfl rfl fun _ F18 => ?_))))
     refine l_op (f_mv F18 rfl rfl rfl rfl rfl fun _ F19 => ?_)
     refine l_op (f_val F19 rfl rfl (r_len Try.underlying23 rfl (F19.ev 13 rfl)) rfl fun _ F20 => ?_)
     refine l_op (f_val F20 rfl rfl (r_cmp (b := decide (k < a_n)) (.inr (.inr (.inl rfl))) rfl (F20.ev 12 rfl) (F20.ev 14 rfl) (dec_of (by omega))) rfl fun _ F21 => ?_)
     have F22 : Fr 27 [(15, .bool (decide (k < a_n))), (5, .int .i64 ((k : Nat) : Int)), (1, .int .i64 lv), (0, .slice a_a a_n a_c)] _ := F21.cut rfl
     clear F17 F18 F19 F20 F21
     refine s_end (x_normal (x_cond (p := k < a_n) (F22.ev 15 rfl) (fun h23 => ?_) (fun h23 => ?_)))
     · skip
       refine wp_skip (x_normal (wp_seq (wp_block (wp_seq (wp_region_lit (l_op (f_mv F22 rfl rfl rfl rfl rfl fun _ F24 => ?_)))))))
       refine l_op (f_mv F24 rfl rfl rfl rfl rfl fun _ F25 => ?_)
       obtain ⟨B26, O26, x1, ad26, hx1, okx1, ln26, cl26⟩ := RdA.at (RdA.mv (Nat.succ_pos _) V_v_a S17) k (by first | assumption | omega)
       clear ln26
       refine l_op (f_val F25 rfl rfl (r_indexAddr (i := k) ET_23 rfl ((F25.ev 18 rfl).trans (by rw [ad26])) (F25.ev 19 rfl) (by omega) (by first | assumption | omega)) rfl fun _ F27 => ?_)
       refine l_op (f_val (v := .agg #[.int .i64 x1.code, .int .i64 x1.n, .string x1.text]) F27 rfl rfl (r_load (cs := [.int .i64 x1.code, .int .i64 x1.n, .string x1.text]) TI_70 rfl (F27.ev 20 rfl) rfl (fun h => nomatch h) (elem_sub (f := 0) cl26 [.int .i64 x1.code, .int .i64 x1.n, .string x1.text] rfl)) rfl fun _ F28 => ?_)
       refine l_op (f_mv F28 rfl rfl rfl rfl rfl fun _ F29 => ?_)
       refine l_op (f_call F29 CF_41 rfl rfl rfl rfl (lc (F29.ev 21 rfl) (lc (F29.ev 22 rfl) rfl)) (laws_szAnswer_c (H := fun _ => True) (a := x1) (left := lv) okx1.1 okx1.2.1 okx1.2.2 (by first | assumption | exact ⟨by omega, by omega⟩ | (unfold i64ok at *; omega)) (by first | assumption | omega | (simp <;> omega)) (by first | assumption | omega | (simp <;> omega))) ?_)
       rintro _ w30 ⟨rfl, m30, q30_0⟩
       refine ⟨_, rfl, fun _ F31 => ?_⟩
       have S30 := At.frame0 S17.at' m30
       clear m30
       refine l_op (f_as F31 rfl rfl rfl rfl rfl fun _ F32 => ?_)
       have F33 : Fr 27 [(1, .int .i64 (subOr lv (szAnsD x1))), (5, .int .i64 ((k : Nat) : Int)), (0, .slice a_a a_n a_c)] _ := F32.cut rfl
       clear F22 F24 F25 F27 F28 F29 F31 F32
       have T34 : Mv _ _ [] _ := S30
       refine s_end (x_normal (wp_seq (wp_region_lit (l_op (f_mv F33 rfl rfl rfl rfl rfl fun _ F35 => ?_)))))
       refine l_op (f_val F35 rfl rfl (r_cmp (b := decide ((subOr lv (szAnsD x1)) < 0)) (.inr (.inr (.inl rfl))) rfl (F35.ev 24 rfl) rfl (dec_of (by omega))) rfl fun _ F36 => ?_)
       have F37 : Fr 27 [(25, .bool (decide ((subOr lv (szAnsD x1)) < 0))), (1, .int .i64 (subOr lv (szAnsD x1))), (5, .int .i64 ((k : Nat) : Int)), (0, .slice a_a a_n a_c)] _ := F36.cut rfl
       clear F33 F35 F36
       refine s_end (x_normal (x_cond (p := (subOr lv (szAnsD x1)) < 0) (F37.ev 25 rfl) (fun h38 => ?_) (fun h38 => ?_)))
       · skip
         refine wp_seq (wp_region_lit (l_op (f_val F37 rfl rfl (r_assign rfl rfl) rfl fun _ F39 => ?_)))
         have F40 : Fr 27 [(4, .int .i64 (-1))] _ := F39.cut rfl
         clear F37 F39
         refine s_end (x_normal (wp_ret (x_block_ret (x_then_ret (x_then_ret (x_block_ret (x_then_ret ?_)))))))
         refine x_done (v := .int .i64 (-1)) F40 (results_1 Try.results12 (.tmp (F40.ev 4 rfl))) ?_
         exact ⟨(by rw [(show (-1) = (subOr left (szAnss a)) from by unfold szAnss; exact sz_stop hx1 hk_1 (by assumption))]), (Mv.pick (S17.trans T34) [] rfl), subOr_i64 p0 p1⟩
       · skip
         refine wp_skip (x_block_normal (x_normal (wp_region_lit (l_op (f_mv F37 rfl rfl rfl rfl rfl fun _ F41 => ?_)))))
         refine l_op (f_val F41 rfl rfl (r_add (z := ((k + 1 : Nat) : Int)) rfl (F41.ev 16 rfl) rfl (by first | rfl | omega) ⟨by first | omega | (unfold i64ok at *; omega), by first | omega | (unfold i64ok at *; omega)⟩) rfl fun _ F42 => ?_)
         refine l_op (f_as F42 rfl rfl rfl rfl rfl fun _ F43 => ?_)
         have F44 : Fr 27 [(5, .int .i64 ((k + 1 : Nat) : Int)), (1, .int .i64 (subOr lv (szAnsD x1))), (0, .slice a_a a_n a_c)] _ := F43.cut rfl
         clear F37 F41 F42 F43
         refine s_end ?_
         refine x_normal ⟨k + 1, by omega, (subOr lv (szAnsD x1)), F44.cut rfl, ((S17.trans T34).pick [] rfl), by omega, (sz_next hx1 hk_1 (by assumption)).1, (sz_next hx1 hk_1 (by assumption)).2⟩
     · skip
       refine wp_exit (x_then_exit (x_then_exit (x_block_here (x_normal (wp_seq (wp_region_lit (l_op (f_mv F22 rfl rfl rfl rfl rfl fun _ F45 => ?_))))))))
       refine l_op (f_as F45 rfl rfl rfl rfl rfl fun _ F46 => ?_)
       have F47 : Fr 27 [(4, .int .i64 lv)] _ := F46.cut rfl
       clear F22 F45 F46
       refine s_end (x_normal (wp_ret ?_))
       refine x_done (v := .int .i64 lv) F47 (results_1 Try.results12 (.tmp (F47.ev 4 rfl))) ?_
       exact ⟨(by rw [(show lv = (subOr left (szAnss a)) from by unfold szAnss; exact sz_done (by omega) hk_1 hk_2)]), (Mv.pick S17 [] rfl), subOr_i64 p0 p1⟩
theorem laws_szIntS_c {w : World} {H : Nat → Prop} {a : List Int} {a_a : Option Addr} {a_n a_c : Nat} {left : Int} (v_a : RdA 1 encI okI H w (.slice a_a a_n a_c) a) (Q0 : i64ok left) (p0 : 0 ≤ left) (p1 : left ≤ 1048576) :
    Calls Try.prog 14 #[.slice a_a a_n a_c, .int .i64 left] w fun e w' => e = .returned (.int .i64 (subOr left a.length)) ∧ Mv [] w [] w' ∧ i64ok (subOr left a.length) := by
 have uU : True := (fun _ => trivial) Q0
 clear uU
 have V_v_a : RdA 1 encI okI (V H w []) w (.slice a_a a_n a_c) a := RdA.start v_a (fun _ _ => fps_nil _)
 obtain ⟨ln_a, le_a, mx_a, ni_a⟩ := RdA.inv v_a
 refine calls_enter 12 Try.func14 rfl Try.ntmps14 (Nat.le_of_ble_eq_true rfl) (fun _ F0i => ?_)
 have F0 : Fr 12 [(0, .slice a_a a_n a_c), (1, .int .i64 left)] _ := F0i
 clear F0i
 refine wp_seq (wp_region_lit (l_op (f_val F0 rfl rfl (r_assign rfl rfl) rfl fun _ F1 => ?_)))
 have F2 : Fr 12 [(4, .int .i64 0), (0, .slice a_a a_n a_c), (1, .int .i64 left)] _ := F1.cut rfl
 clear F0 F1
 refine s_end (x_normal (wp_seq (wp_region_lit (l_op (f_mv F2 rfl rfl rfl rfl rfl fun _ F3 => ?_)))))
 refine l_op (f_mv F3 rfl rfl rfl rfl rfl fun _ F4 => ?_)
 refine l_op (f_val F4 rfl rfl (r_len Try.underlying27 rfl (F4.ev 6 rfl)) rfl fun _ F5 => ?_)
 refine l_op (f_val F5 rfl rfl (r_sub (z := (left - ((a_n : Nat) : Int))) rfl (F5.ev 5 rfl) (F5.ev 7 rfl) (by first | rfl | omega) ⟨by first | omega | (unfold i64ok at *; omega), by first | omega | (unfold i64ok at *; omega)⟩) rfl fun _ F6 => ?_)
 refine l_op (f_as F6 rfl rfl rfl rfl rfl fun _ F7 => ?_)
 have F8 : Fr 12 [(1, .int .i64 (left - ((a_n : Nat) : Int)))] _ := F7.cut rfl
 clear F2 F3 F4 F5 F6 F7
 refine s_end (x_normal (wp_seq (wp_seq (wp_region_lit (l_op (f_mv F8 rfl rfl rfl rfl rfl fun _ F9 => ?_))))))
 refine l_op (f_val F9 rfl rfl (r_cmp (b := decide ((left - ((a_n : Nat) : Int)) < 0)) (.inr (.inr (.inl rfl))) rfl (F9.ev 9 rfl) rfl (dec_of (by omega))) rfl fun _ F10 => ?_)
 have F11 : Fr 12 [(10, .bool (decide ((left - ((a_n : Nat) : Int)) < 0))), (1, .int .i64 (left - ((a_n : Nat) : Int)))] _ := F10.cut rfl
 clear F8 F9 F10
 refine s_end (x_normal (x_cond (p := (left - ((a_n : Nat) : Int)) < 0) (F11.ev 10 rfl) (fun h12 => ?_) (fun h12 => ?_)))
 · skip
   refine wp_seq (wp_region_lit (l_op (f_val F11 rfl rfl (r_assign rfl rfl) rfl fun _ F13 => ?_)))
   have F14 : Fr 12 [(4, .int .i64 (-1))] _ := F13.cut rfl
   clear F11 F13
   refine s_end (x_normal (wp_ret (x_then_ret ?_)))
   refine x_done (v := .int .i64 (-1)) F14 (results_1 Try.results14 (.tmp (F14.ev 4 rfl))) ?_
   exact ⟨(by rw [(show (-1) = (subOr left a.length) from by rw [← ln_a]; first | exact sz1_a (by assumption) | exact sz1_b (by assumption))]), (Mv.pick (Mv.refl (At.nil w)) [] rfl), subOr_i64 p0 p1⟩
 · skip
   refine wp_skip (x_normal (wp_seq (wp_region_lit (l_op (f_mv F11 rfl rfl rfl rfl rfl fun _ F15 => ?_)))))
   refine l_op (f_as F15 rfl rfl rfl rfl rfl fun _ F16 => ?_)
   have F17 : Fr 12 [(4, .int .i64 (left - ((a_n : Nat) : Int)))] _ := F16.cut rfl
   clear F11 F15 F16
   refine s_end (x_normal (wp_ret ?_))
   refine x_done (v := .int .i64 (left - ((a_n : Nat) : Int))) F17 (results_1 Try.results14 (.tmp (F17.ev 4 rfl))) ?_
   exact ⟨(by rw [(show (left - ((a_n : Nat) : Int)) = (subOr left a.length) from by rw [← ln_a]; first | exact sz1_a (by assumption) | exact sz1_b (by assumption))]), (Mv.pick (Mv.refl (At.nil w)) [] rfl), subOr_i64 p0 p1⟩
theorem laws_toCall_c {w : World} {H : Nat → Prop} {a : CallD} (Q1 : i64ok a.kind) (Q2 : okS a.name) (Q4 : okS a.to_) (h_a_a : i64ok a.a) (Q0 : i64ok a.b) (Q3 : okS a.text) :
    Calls Try.prog 43 #[.agg #[.int .i64 a.kind, .string a.name, .string a.to_, .int .i64 a.a, .int .i64 a.b, .string a.text]] w fun e w' => e = .returned (.agg #[.int .i64 a.kind, .string a.name, .string a.to_, .int .i64 a.a, .int .i64 a.b, .string a.text]) ∧ Mv [] w [] w' ∧ okS a.name ∧ okS a.to_ ∧ okS a.text ∧ i64ok a.kind ∧ i64ok a.a ∧ i64ok a.b := by
 have uU : True := (fun _ _ _ _ => trivial) H Q1 h_a_a Q0
 clear uU
 refine calls_enter 23 Try.func43 rfl Try.ntmps43 (Nat.le_of_ble_eq_true rfl) (fun _ F0i => ?_)
 have F0 : Fr 23 [(0, .agg #[.int .i64 a.kind, .string a.name, .string a.to_, .int .i64 a.a, .int .i64 a.b, .string a.text])] _ := F0i
 clear F0i
 refine wp_seq (wp_region_lit (l_op (f_box F0 (At.nil w) rfl rfl rfl (F0.ev 0 rfl) rfl rfl fun b1 _ w1 F2 S1 => ?_)))
 refine l_op (f_alloc F2 S1.at' ZI_56 rfl rfl rfl rfl rfl fun b3 _ w3 F4 S3 => ?_)
 have F5 : Fr 23 [(2, .pointer (some ⟨b3, 0, none⟩)), (1, .pointer (some ⟨b1, 0, none⟩))] _ := F4.cut rfl
 clear F0 F2 F4
 have T6 : Mv _ _ [bx b3 [.int .i64 0, .string (⟨#[]⟩ : ByteArray), .string (⟨#[]⟩ : ByteArray), .int .i64 0, .int .i64 0, .string (⟨#[]⟩ : ByteArray)] 56, bx b1 [.int .i64 a.kind, .string a.name, .string a.to_, .int .i64 a.a, .int .i64 a.b, .string a.text] 68] _ := S3
 refine s_end (x_normal (wp_seq (wp_region_lit (l_op (f_alloc F5 T6.at' ZI_56 rfl rfl rfl rfl rfl fun b7 _ w7 F8 S7 => ?_)))))
 have F9 : Fr 23 [(3, .pointer (some ⟨b7, 0, none⟩)), (2, .pointer (some ⟨b3, 0, none⟩)), (1, .pointer (some ⟨b1, 0, none⟩))] _ := F8.cut rfl
 clear F5 F8
 have T10 : Mv _ _ [bx b7 [.int .i64 0, .string (⟨#[]⟩ : ByteArray), .string (⟨#[]⟩ : ByteArray), .int .i64 0, .int .i64 0, .string (⟨#[]⟩ : ByteArray)] 56, bx b3 [.int .i64 0, .string (⟨#[]⟩ : ByteArray), .string (⟨#[]⟩ : ByteArray), .int .i64 0, .int .i64 0, .string (⟨#[]⟩ : ByteArray)] 56, bx b1 [.int .i64 a.kind, .string a.name, .string a.to_, .int .i64 a.a, .int .i64 a.b, .string a.text] 68] _ := S7
 refine s_end (x_normal (wp_seq (wp_region_lit (l_op (f_val F9 rfl rfl (r_field FI_68_0 rfl (F9.ev 1 rfl) rfl) rfl fun _ F11 => ?_)))))
 refine l_op (f_val (v := .int .i64 a.kind) F11 rfl rfl (r_loadB T10.at' 2 TI_3 rfl rfl (F11.ev 4 rfl) rfl rfl (fun _ => rfl) rfl) rfl fun _ F12 => ?_)
 refine l_op (f_val F12 rfl rfl (r_field FI_56_0 rfl (F12.ev 3 rfl) rfl) rfl fun _ F13 => ?_)
 refine l_op (s_store T10.at' 0 TI_3 rfl rfl rfl rfl rfl (F13.ev 6 rfl) (F13.ev 5 rfl) rfl rfl rfl rfl rfl fun w14 S14 => ?_)
 have F15 : Fr 23 [(6, .pointer (some ⟨b7, 0, none⟩)), (5, .int .i64 a.kind), (3, .pointer (some ⟨b7, 0, none⟩)), (2, .pointer (some ⟨b3, 0, none⟩)), (1, .pointer (some ⟨b1, 0, none⟩))] _ := F13.cut rfl
 clear F9 F11 F12 F13
 have T16 : Mv _ _ [bx b7 [.int .i64 a.kind, .string (⟨#[]⟩ : ByteArray), .string (⟨#[]⟩ : ByteArray), .int .i64 0, .int .i64 0, .string (⟨#[]⟩ : ByteArray)] 56, bx b3 [.int .i64 0, .string (⟨#[]⟩ : ByteArray), .string (⟨#[]⟩ : ByteArray), .int .i64 0, .int .i64 0, .string (⟨#[]⟩ : ByteArray)] 56, bx b1 [.int .i64 a.kind, .string a.name, .string a.to_, .int .i64 a.a, .int .i64 a.b, .string a.text] 68] _ := S14
 refine s_end (x_normal (wp_seq (wp_region_lit (l_op (f_val F15 rfl rfl (r_field FI_68_1 rfl (F15.ev 1 rfl) rfl) rfl fun _ F17 => ?_)))))
 refine l_op (f_val (v := .string a.name) F17 rfl rfl (r_loadB T16.at' 2 TI_9 rfl rfl (F17.ev 7 rfl) rfl rfl (fun _ => rfl) rfl) rfl fun _ F18 => ?_)
 refine l_op (f_val F18 rfl rfl (r_field FI_56_1 rfl (F18.ev 3 rfl) rfl) rfl fun _ F19 => ?_)
 refine l_op (s_store T16.at' 0 TI_9 rfl rfl rfl rfl rfl (F19.ev 9 rfl) (F19.ev 8 rfl) rfl rfl rfl rfl rfl fun w20 S20 => ?_)
 have F21 : Fr 23 [(9, .pointer (some ⟨b7, 1, none⟩)), (8, .string a.name), (3, .pointer (some ⟨b7, 0, none⟩)), (2, .pointer (some ⟨b3, 0, none⟩)), (1, .pointer (some ⟨b1, 0, none⟩))] _ := F19.cut rfl
 clear F15 F17 F18 F19
 have T22 : Mv _ _ [bx b7 [.int .i64 a.kind, .string a.name, .string (⟨#[]⟩ : ByteArray), .int .i64 0, .int .i64 0, .string (⟨#[]⟩ : ByteArray)] 56, bx b3 [.int .i64 0, .string (⟨#[]⟩ : ByteArray), .string (⟨#[]⟩ : ByteArray), .int .i64 0, .int .i64 0, .string (⟨#[]⟩ : ByteArray)] 56, bx b1 [.int .i64 a.kind, .string a.name, .string a.to_, .int .i64 a.a, .int .i64 a.b, .string a.text] 68] _ := S20
 refine s_end (x_normal (wp_seq (wp_region_lit (l_op (f_val F21 rfl rfl (r_field FI_68_2 rfl (F21.ev 1 rfl) rfl) rfl fun _ F23 => ?_)))))
 refine l_op (f_val (v := .string a.to_) F23 rfl rfl (r_loadB T22.at' 2 TI_9 rfl rfl (F23.ev 10 rfl) rfl rfl (fun _ => rfl) rfl) rfl fun _ F24 => ?_)
 refine l_op (f_val F24 rfl rfl (r_field FI_56_2 rfl (F24.ev 3 rfl) rfl) rfl fun _ F25 => ?_)
 refine l_op (s_store T22.at' 0 TI_9 rfl rfl rfl rfl rfl (F25.ev 12 rfl) (F25.ev 11 rfl) rfl rfl rfl rfl rfl fun w26 S26 => ?_)
 have F27 : Fr 23 [(12, .pointer (some ⟨b7, 2, none⟩)), (11, .string a.to_), (3, .pointer (some ⟨b7, 0, none⟩)), (2, .pointer (some ⟨b3, 0, none⟩)), (1, .pointer (some ⟨b1, 0, none⟩))] _ := F25.cut rfl
 clear F21 F23 F24 F25
 have T28 : Mv _ _ [bx b7 [.int .i64 a.kind, .string a.name, .string a.to_, .int .i64 0, .int .i64 0, .string (⟨#[]⟩ : ByteArray)] 56, bx b3 [.int .i64 0, .string (⟨#[]⟩ : ByteArray), .string (⟨#[]⟩ : ByteArray), .int .i64 0, .int .i64 0, .string (⟨#[]⟩ : ByteArray)] 56, bx b1 [.int .i64 a.kind, .string a.name, .string a.to_, .int .i64 a.a, .int .i64 a.b, .string a.text] 68] _ := S26
 refine s_end (x_normal (wp_seq (wp_region_lit (l_op (f_val F27 rfl rfl (r_field FI_68_3 rfl (F27.ev 1 rfl) rfl) rfl fun _ F29 => ?_)))))
 refine l_op (f_val (v := .int .i64 a.a) F29 rfl rfl (r_loadB T28.at' 2 TI_3 rfl rfl (F29.ev 13 rfl) rfl rfl (fun _ => rfl) rfl) rfl fun _ F30 => ?_)
 refine l_op (f_val F30 rfl rfl (r_field FI_56_3 rfl (F30.ev 3 rfl) rfl) rfl fun _ F31 => ?_)
 refine l_op (s_store T28.at' 0 TI_3 rfl rfl rfl rfl rfl (F31.ev 15 rfl) (F31.ev 14 rfl) rfl rfl rfl rfl rfl fun w32 S32 => ?_)
 have F33 : Fr 23 [(15, .pointer (some ⟨b7, 3, none⟩)), (14, .int .i64 a.a), (3, .pointer (some ⟨b7, 0, none⟩)), (2, .pointer (some ⟨b3, 0, none⟩)), (1, .pointer (some ⟨b1, 0, none⟩))] _ := F31.cut rfl
 clear F27 F29 F30 F31
 have T34 : Mv _ _ [bx b7 [.int .i64 a.kind, .string a.name, .string a.to_, .int .i64 a.a, .int .i64 0, .string (⟨#[]⟩ : ByteArray)] 56, bx b3 [.int .i64 0, .string (⟨#[]⟩ : ByteArray), .string (⟨#[]⟩ : ByteArray), .int .i64 0, .int .i64 0, .string (⟨#[]⟩ : ByteArray)] 56, bx b1 [.int .i64 a.kind, .string a.name, .string a.to_, .int .i64 a.a, .int .i64 a.b, .string a.text] 68] _ := S32
 refine s_end (x_normal (wp_seq (wp_region_lit (l_op (f_val F33 rfl rfl (r_field FI_68_4 rfl (F33.ev 1 rfl) rfl) rfl fun _ F35 => ?_)))))
 refine l_op (f_val (v := .int .i64 a.b) F35 rfl rfl (r_loadB T34.at' 2 TI_3 rfl rfl (F35.ev 16 rfl) rfl rfl (fun _ => rfl) rfl) rfl fun _ F36 => ?_)
 refine l_op (f_val F36 rfl rfl (r_field FI_56_4 rfl (F36.ev 3 rfl) rfl) rfl fun _ F37 => ?_)
 refine l_op (s_store T34.at' 0 TI_3 rfl rfl rfl rfl rfl (F37.ev 18 rfl) (F37.ev 17 rfl) rfl rfl rfl rfl rfl fun w38 S38 => ?_)
 have F39 : Fr 23 [(18, .pointer (some ⟨b7, 4, none⟩)), (17, .int .i64 a.b), (3, .pointer (some ⟨b7, 0, none⟩)), (2, .pointer (some ⟨b3, 0, none⟩)), (1, .pointer (some ⟨b1, 0, none⟩))] _ := F37.cut rfl
 clear F33 F35 F36 F37
 have T40 : Mv _ _ [bx b7 [.int .i64 a.kind, .string a.name, .string a.to_, .int .i64 a.a, .int .i64 a.b, .string (⟨#[]⟩ : ByteArray)] 56, bx b3 [.int .i64 0, .string (⟨#[]⟩ : ByteArray), .string (⟨#[]⟩ : ByteArray), .int .i64 0, .int .i64 0, .string (⟨#[]⟩ : ByteArray)] 56, bx b1 [.int .i64 a.kind, .string a.name, .string a.to_, .int .i64 a.a, .int .i64 a.b, .string a.text] 68] _ := S38
 refine s_end (x_normal (wp_seq (wp_region_lit (l_op (f_val F39 rfl rfl (r_field FI_68_5 rfl (F39.ev 1 rfl) rfl) rfl fun _ F41 => ?_)))))
 refine l_op (f_val (v := .string a.text) F41 rfl rfl (r_loadB T40.at' 2 TI_9 rfl rfl (F41.ev 19 rfl) rfl rfl (fun _ => rfl) rfl) rfl fun _ F42 => ?_)
 refine l_op (f_val F42 rfl rfl (r_field FI_56_5 rfl (F42.ev 3 rfl) rfl) rfl fun _ F43 => ?_)
 refine l_op (s_store T40.at' 0 TI_9 rfl rfl rfl rfl rfl (F43.ev 21 rfl) (F43.ev 20 rfl) rfl rfl rfl rfl rfl fun w44 S44 => ?_)
 have F45 : Fr 23 [(21, .pointer (some ⟨b7, 5, none⟩)), (20, .string a.text), (3, .pointer (some ⟨b7, 0, none⟩)), (2, .pointer (some ⟨b3, 0, none⟩))] _ := F43.cut rfl
 clear F39 F41 F42 F43
 have T46 : Mv _ _ [bx b7 [.int .i64 a.kind, .string a.name, .string a.to_, .int .i64 a.a, .int .i64 a.b, .string a.text] 56, bx b3 [.int .i64 0, .string (⟨#[]⟩ : ByteArray), .string (⟨#[]⟩ : ByteArray), .int .i64 0, .int .i64 0, .string (⟨#[]⟩ : ByteArray)] 56, bx b1 [.int .i64 a.kind, .string a.name, .string a.to_, .int .i64 a.a, .int .i64 a.b, .string a.text] 68] _ := S44
 refine s_end (x_normal (wp_seq (wp_region_lit (l_op (f_val (v := .agg #[.int .i64 a.kind, .string a.name, .string a.to_, .int .i64 a.a, .int .i64 a.b, .string a.text]) F45 rfl rfl (r_loadB T46.at' 0 TI_56 rfl rfl (F45.ev 3 rfl) rfl rfl (fun h => nomatch h) rfl) rfl fun _ F47 => ?_)))))
 refine l_op (s_store T46.at' 1 TI_56 rfl rfl rfl rfl rfl (F47.ev 2 rfl) (F47.ev 22 rfl) rfl rfl rfl rfl rfl fun w48 S48 => ?_)
 have F49 : Fr 23 [(22, .agg #[.int .i64 a.kind, .string a.name, .string a.to_, .int .i64 a.a, .int .i64 a.b, .string a.text]), (2, .pointer (some ⟨b3, 0, none⟩))] _ := F47.cut rfl
 clear F45 F47
 have T50 : Mv _ _ [bx b3 [.int .i64 a.kind, .string a.name, .string a.to_, .int .i64 a.a, .int .i64 a.b, .string a.text] 56, bx b7 [.int .i64 a.kind, .string a.name, .string a.to_, .int .i64 a.a, .int .i64 a.b, .string a.text] 56, bx b1 [.int .i64 a.kind, .string a.name, .string a.to_, .int .i64 a.a, .int .i64 a.b, .string a.text] 68] _ := S48
 refine s_end (x_normal (wp_ret ?_))
 refine x_done (v := .agg #[.int .i64 a.kind, .string a.name, .string a.to_, .int .i64 a.a, .int .i64 a.b, .string a.text]) F49 (results_1 Try.results43 (.cell (F49.ev 2 rfl) (run_loadVar' TI_56 _ [.int .i64 a.kind, .string a.name, .string a.to_, .int .i64 a.a, .int .i64 a.b, .string a.text] rfl (fun h => nomatch h) (At.cells T50.at' 0 rfl 0 [.int .i64 a.kind, .string a.name, .string a.to_, .int .i64 a.a, .int .i64 a.b, .string a.text] rfl)))) ?_
 exact ⟨rfl, (Mv.pick (S1.trans (T6.trans (T10.trans (T16.trans (T22.trans (T28.trans (T34.trans (T40.trans (T46.trans T50))))))))) [] rfl), Q2, Q4, Q3, by first | assumption | omega, by first | assumption | omega, by first | assumption | omega⟩
theorem laws_toAnswer_c {w : World} {H : Nat → Prop} {a : AnsD} (Q0 : i64ok a.code) (h_a_n : i64ok a.n) (Q1 : okS a.text) :
    Calls Try.prog 44 #[.agg #[.int .i64 a.code, .int .i64 a.n, .string a.text]] w fun e w' => e = .returned (.agg #[.int .i64 a.code, .int .i64 a.n, .string a.text]) ∧ Mv [] w [] w' ∧ okS a.text ∧ i64ok a.code ∧ i64ok a.n := by
 have uU : True := (fun _ _ _ => trivial) H Q0 h_a_n
 clear uU
 refine calls_enter 14 Try.func44 rfl Try.ntmps44 (Nat.le_of_ble_eq_true rfl) (fun _ F0i => ?_)
 have F0 : Fr 14 [(0, .agg #[.int .i64 a.code, .int .i64 a.n, .string a.text])] _ := F0i
 clear F0i
 refine wp_seq (wp_region_lit (l_op (f_box F0 (At.nil w) rfl rfl rfl (F0.ev 0 rfl) rfl rfl fun b1 _ w1 F2 S1 => ?_)))
 refine l_op (f_alloc F2 S1.at' ZI_59 rfl rfl rfl rfl rfl fun b3 _ w3 F4 S3 => ?_)
 have F5 : Fr 14 [(2, .pointer (some ⟨b3, 0, none⟩)), (1, .pointer (some ⟨b1, 0, none⟩))] _ := F4.cut rfl
 clear F0 F2 F4
 have T6 : Mv _ _ [bx b3 [.int .i64 0, .int .i64 0, .string (⟨#[]⟩ : ByteArray)] 59, bx b1 [.int .i64 a.code, .int .i64 a.n, .string a.text] 70] _ := S3
 refine s_end (x_normal (wp_seq (wp_region_lit (l_op (f_alloc F5 T6.at' ZI_59 rfl rfl rfl rfl rfl fun b7 _ w7 F8 S7 => ?_)))))
 have F9 : Fr 14 [(3, .pointer (some ⟨b7, 0, none⟩)), (2, .pointer (some ⟨b3, 0, none⟩)), (1, .pointer (some ⟨b1, 0, none⟩))] _ := F8.cut rfl
 clear F5 F8
 have T10 : Mv _ _ [bx b7 [.int .i64 0, .int .i64 0, .string (⟨#[]⟩ : ByteArray)] 59, bx b3 [.int .i64 0, .int .i64 0, .string (⟨#[]⟩ : ByteArray)] 59, bx b1 [.int .i64 a.code, .int .i64 a.n, .string a.text] 70] _ := S7
 refine s_end (x_normal (wp_seq (wp_region_lit (l_op (f_val F9 rfl rfl (r_field FI_70_0 rfl (F9.ev 1 rfl) rfl) rfl fun _ F11 => ?_)))))
 refine l_op (f_val (v := .int .i64 a.code) F11 rfl rfl (r_loadB T10.at' 2 TI_3 rfl rfl (F11.ev 4 rfl) rfl rfl (fun _ => rfl) rfl) rfl fun _ F12 => ?_)
 refine l_op (f_val F12 rfl rfl (r_field FI_59_0 rfl (F12.ev 3 rfl) rfl) rfl fun _ F13 => ?_)
 refine l_op (s_store T10.at' 0 TI_3 rfl rfl rfl rfl rfl (F13.ev 6 rfl) (F13.ev 5 rfl) rfl rfl rfl rfl rfl fun w14 S14 => ?_)
 have F15 : Fr 14 [(6, .pointer (some ⟨b7, 0, none⟩)), (5, .int .i64 a.code), (3, .pointer (some ⟨b7, 0, none⟩)), (2, .pointer (some ⟨b3, 0, none⟩)), (1, .pointer (some ⟨b1, 0, none⟩))] _ := F13.cut rfl
 clear F9 F11 F12 F13
 have T16 : Mv _ _ [bx b7 [.int .i64 a.code, .int .i64 0, .string (⟨#[]⟩ : ByteArray)] 59, bx b3 [.int .i64 0, .int .i64 0, .string (⟨#[]⟩ : ByteArray)] 59, bx b1 [.int .i64 a.code, .int .i64 a.n, .string a.text] 70] _ := S14
 refine s_end (x_normal (wp_seq (wp_region_lit (l_op (f_val F15 rfl rfl (r_field FI_70_1 rfl (F15.ev 1 rfl) rfl) rfl fun _ F17 => ?_)))))
 refine l_op (f_val (v := .int .i64 a.n) F17 rfl rfl (r_loadB T16.at' 2 TI_3 rfl rfl (F17.ev 7 rfl) rfl rfl (fun _ => rfl) rfl) rfl fun _ F18 => ?_)
 refine l_op (f_val F18 rfl rfl (r_field FI_59_1 rfl (F18.ev 3 rfl) rfl) rfl fun _ F19 => ?_)
 refine l_op (s_store T16.at' 0 TI_3 rfl rfl rfl rfl rfl (F19.ev 9 rfl) (F19.ev 8 rfl) rfl rfl rfl rfl rfl fun w20 S20 => ?_)
 have F21 : Fr 14 [(9, .pointer (some ⟨b7, 1, none⟩)), (8, .int .i64 a.n), (3, .pointer (some ⟨b7, 0, none⟩)), (2, .pointer (some ⟨b3, 0, none⟩)), (1, .pointer (some ⟨b1, 0, none⟩))] _ := F19.cut rfl
 clear F15 F17 F18 F19
 have T22 : Mv _ _ [bx b7 [.int .i64 a.code, .int .i64 a.n, .string (⟨#[]⟩ : ByteArray)] 59, bx b3 [.int .i64 0, .int .i64 0, .string (⟨#[]⟩ : ByteArray)] 59, bx b1 [.int .i64 a.code, .int .i64 a.n, .string a.text] 70] _ := S20
 refine s_end (x_normal (wp_seq (wp_region_lit (l_op (f_val F21 rfl rfl (r_field FI_70_2 rfl (F21.ev 1 rfl) rfl) rfl fun _ F23 => ?_)))))
 refine l_op (f_val (v := .string a.text) F23 rfl rfl (r_loadB T22.at' 2 TI_9 rfl rfl (F23.ev 10 rfl) rfl rfl (fun _ => rfl) rfl) rfl fun _ F24 => ?_)
 refine l_op (f_val F24 rfl rfl (r_field FI_59_2 rfl (F24.ev 3 rfl) rfl) rfl fun _ F25 => ?_)
 refine l_op (s_store T22.at' 0 TI_9 rfl rfl rfl rfl rfl (F25.ev 12 rfl) (F25.ev 11 rfl) rfl rfl rfl rfl rfl fun w26 S26 => ?_)
 have F27 : Fr 14 [(12, .pointer (some ⟨b7, 2, none⟩)), (11, .string a.text), (3, .pointer (some ⟨b7, 0, none⟩)), (2, .pointer (some ⟨b3, 0, none⟩))] _ := F25.cut rfl
 clear F21 F23 F24 F25
 have T28 : Mv _ _ [bx b7 [.int .i64 a.code, .int .i64 a.n, .string a.text] 59, bx b3 [.int .i64 0, .int .i64 0, .string (⟨#[]⟩ : ByteArray)] 59, bx b1 [.int .i64 a.code, .int .i64 a.n, .string a.text] 70] _ := S26
 refine s_end (x_normal (wp_seq (wp_region_lit (l_op (f_val (v := .agg #[.int .i64 a.code, .int .i64 a.n, .string a.text]) F27 rfl rfl (r_loadB T28.at' 0 TI_59 rfl rfl (F27.ev 3 rfl) rfl rfl (fun h => nomatch h) rfl) rfl fun _ F29 => ?_)))))
 refine l_op (s_store T28.at' 1 TI_59 rfl rfl rfl rfl rfl (F29.ev 2 rfl) (F29.ev 13 rfl) rfl rfl rfl rfl rfl fun w30 S30 => ?_)
 have F31 : Fr 14 [(13, .agg #[.int .i64 a.code, .int .i64 a.n, .string a.text]), (2, .pointer (some ⟨b3, 0, none⟩))] _ := F29.cut rfl
 clear F27 F29
 have T32 : Mv _ _ [bx b3 [.int .i64 a.code, .int .i64 a.n, .string a.text] 59, bx b7 [.int .i64 a.code, .int .i64 a.n, .string a.text] 59, bx b1 [.int .i64 a.code, .int .i64 a.n, .string a.text] 70] _ := S30
 refine s_end (x_normal (wp_ret ?_))
 refine x_done (v := .agg #[.int .i64 a.code, .int .i64 a.n, .string a.text]) F31 (results_1 Try.results44 (.cell (F31.ev 2 rfl) (run_loadVar' TI_59 _ [.int .i64 a.code, .int .i64 a.n, .string a.text] rfl (fun h => nomatch h) (At.cells T32.at' 0 rfl 0 [.int .i64 a.code, .int .i64 a.n, .string a.text] rfl)))) ?_
 exact ⟨rfl, (Mv.pick (S1.trans (T6.trans (T10.trans (T16.trans (T22.trans (T28.trans T32)))))) [] rfl), Q1, by first | assumption | omega, by first | assumption | omega⟩
theorem laws_toCallS_c {w : World} {H : Nat → Prop} {a : List CallD} {a_a : Option Addr} {a_n a_c : Nat} (v_a : RdA 6 encK okK H w (.slice a_a a_n a_c) a) (p0 : a.length ≤ 1048576) :
    Calls Try.prog 18 #[.slice a_a a_n a_c] w fun e w' => ∃ (r0_a : Option Addr), ∃ (r0_n : Nat), ∃ (r0_c : Nat), e = .returned (.slice r0_a r0_n r0_c) ∧ Mv [] w [ow 56 6 encK okK (.slice r0_a r0_n r0_c) a] w' := by
 have uU : True := (fun _ => trivial) p0
 clear uU
 have V_v_a : RdA 6 encK okK (V H w []) w (.slice a_a a_n a_c) a := RdA.start v_a (fun _ _ => fps_nil _)
 obtain ⟨ln_a, le_a, mx_a, ni_a⟩ := RdA.inv v_a
 refine calls_enter 23 Try.func18 rfl Try.ntmps18 (Nat.le_of_ble_eq_true rfl) (fun _ F0i => ?_)
 have F0 : Fr 23 [(0, .slice a_a a_n a_c)] _ := F0i
 clear F0i
 refine wp_seq (wp_region_lit (l_op (f_val F0 rfl rfl (r_assign rfl rfl) rfl fun _ F1 => ?_)))
 have F2 : Fr 23 [(2, .slice none 0 0), (0, .slice a_a a_n a_c)] _ := F1.cut rfl
 clear F0 F1
 refine s_end (x_normal (wp_seq (wp_region_lit (l_op (f_mv F2 rfl rfl rfl rfl rfl fun _ F3 => ?_)))))
 refine l_op (f_val F3 rfl rfl (r_len Try.underlying22 rfl (F3.ev 5 rfl)) rfl fun _ F4 => ?_)
 refine l_op (f_mk (ok := okK) (⟨0, (⟨#[]⟩ : ByteArray), (⟨#[]⟩ : ByteArray), 0, 0, (⟨#[]⟩ : ByteArray)⟩ : CallD) F4 (At.nil w) ET_31 rfl rfl rfl rfl (F4.ev 6 rfl) (F4.ev 6 rfl) rfl ⟨(show i64ok 0 from by first | assumption | exact ⟨by omega, by omega⟩), (by unfold okS; decide), (by unfold okS; decide), (show i64ok 0 from by first | assumption | exact ⟨by omega, by omega⟩), (show i64ok 0 from by first | assumption | exact ⟨by omega, by omega⟩), (by unfold okS; decide)⟩ (by omega) fun b5 _ w5 F6 S5 => ?_)
 refine l_op (f_as F6 rfl rfl rfl rfl rfl fun _ F7 => ?_)
 have F8 : Fr 23 [(3, .slice (some ⟨b5, 0, none⟩) a_n a_n), (0, .slice a_a a_n a_c)] _ := F7.cut rfl
 clear F2 F3 F4 F6 F7
 have T9 : Mv _ _ [ow 56 6 encK okK (.slice (some ⟨b5, 0, none⟩) a_n a_n) (List.replicate a_n (⟨0, (⟨#[]⟩ : ByteArray), (⟨#[]⟩ : ByteArray), 0, 0, (⟨#[]⟩ : ByteArray)⟩ : CallD))] _ := S5
 refine s_end (x_normal (wp_seq (wp_seq (wp_region_lit (l_op (f_val F8 rfl rfl (r_assign rfl rfl) rfl fun _ F10 => ?_))))))
 have F11 : Fr 23 [(4, .int .i64 0), (3, .slice (some ⟨b5, 0, none⟩) a_n a_n), (0, .slice a_a a_n a_c)] _ := F10.cut rfl
 clear F8 F10
 refine s_end (x_normal (wp_block ?_))
 refine x_loop (fun (k : Nat) aZ wZ => ∃ (D : List CallD), ∃ (oa : Option Addr), ∃ (on : Nat), ∃ (oc : Nat), Fr 23 [(4, .int .i64 ((k : Nat) : Int)), (3, .slice oa on oc), (0, .slice a_a a_n a_c)] aZ ∧ Mv [ow 56 6 encK okK (.slice (some ⟨b5, 0, none⟩) a_n a_n) (List.replicate a_n (⟨0, (⟨#[]⟩ : ByteArray), (⟨#[]⟩ : ByteArray), 0, 0, (⟨#[]⟩ : ByteArray)⟩ : CallD))] w5 [ow 56 6 encK okK (.slice oa on oc) D] wZ ∧ (k ≤ a_n) ∧ (D = copyTo (⟨0, (⟨#[]⟩ : ByteArray), (⟨#[]⟩ : ByteArray), 0, 0, (⟨#[]⟩ : ByteArray)⟩ : CallD) k a) ∧ (on = a_n)) (fun (k : Nat) => a_n - k) (0) ?_ ?_
 · exact ⟨List.replicate a_n (⟨0, (⟨#[]⟩ : ByteArray), (⟨#[]⟩ : ByteArray), 0, 0, (⟨#[]⟩ : ByteArray)⟩ : CallD), (some ⟨b5, 0, none⟩), a_n, a_n, F11.cut rfl, (Mv.refl T9.at'), by omega, copyTo_start _ _ ln_a, rfl⟩
 · rintro k a12 w12 ⟨D, oa, on, oc, F12, S12, hk_0, hk_1, hk_2⟩
   refine wp_seq (wp_seq (wp_region_lit (l_op (f_mv F12 rfl rfl rfl rfl rfl fun _ F13 => ?_))))
   refine l_op (f_mv F13 rfl rfl rfl rfl rfl fun _ F14 => ?_)
   refine l_op (f_val F14 rfl rfl (r_len Try.underlying22 rfl (F14.ev 9 rfl)) rfl fun _ F15 => ?_)
   refine l_op (f_val F15 rfl rfl (r_cmp (b := decide (k < a_n)) (.inr (.inr (.inl rfl))) rfl (F15.ev 8 rfl) (F15.ev 10 rfl) (dec_of (by omega))) rfl fun _ F16 => ?_)
   have F17 : Fr 23 [(11, .bool (decide (k < a_n))), (4, .int .i64 ((k : Nat) : Int)), (3, .slice oa on oc), (0, .slice a_a a_n a_c)] _ := F16.cut rfl
   clear F12 F13 F14 F15 F16
   refine s_end (x_normal (x_cond (p := k < a_n) (F17.ev 11 rfl) (fun h18 => ?_) (fun h18 => ?_)))
   · skip
     refine wp_skip (x_normal (wp_seq (wp_block (wp_region_lit (l_op (f_mv F17 rfl rfl rfl rfl rfl fun _ F19 => ?_))))))
     refine l_op (f_mv F19 rfl rfl rfl rfl rfl fun _ F20 => ?_)
     refine l_op (f_mv F20 rfl rfl rfl rfl rfl fun _ F21 => ?_)
     refine l_op (f_mv F21 rfl rfl rfl rfl rfl fun _ F22 => ?_)
     obtain ⟨B23, O23, x1, ad23, hx1, okx1, ln23, cl23⟩ := RdA.at (RdA.mv (Nat.succ_pos _) V_v_a (T9.trans S12)) k (by first | assumption | omega)
     clear ln23
     refine l_op (f_val F22 rfl rfl (r_indexAddr (i := k) ET_22 rfl ((F22.ev 16 rfl).trans (by rw [ad23])) (F22.ev 17 rfl) (by omega) (by first | assumption | omega)) rfl fun _ F24 => ?_)
     refine l_op (f_val (v := .agg #[.int .i64 x1.kind, .string x1.name, .string x1.to_, .int .i64 x1.a, .int .i64 x1.b, .string x1.text]) F24 rfl rfl (r_load (cs := [.int .i64 x1.kind, .string x1.name, .string x1.to_, .int .i64 x1.a, .int .i64 x1.b, .string x1.text]) TI_68 rfl (F24.ev 18 rfl) rfl (fun h => nomatch h) (elem_sub (f := 0) cl23 [.int .i64 x1.kind, .string x1.name, .string x1.to_, .int .i64 x1.a, .int .i64 x1.b, .string x1.text] rfl)) rfl fun _ F25 => ?_)
     refine l_op (f_call F25 CF_43 rfl rfl rfl rfl (lc (F25.ev 19 rfl) rfl) (laws_toCall_c (H := fun _ => True) (a := x1) okx1.1 okx1.2.1 okx1.2.2.1 okx1.2.2.2.1 okx1.2.2.2.2.1 okx1.2.2.2.2.2) ?_)
     rintro _ w26 ⟨rfl, m26, Q0, Q2, Q1, q26_0, q26_1, q26_2⟩
     refine ⟨_, rfl, fun _ F27 => ?_⟩
     have S26 := At.frame0 S12.at' m26
     clear m26
     obtain ⟨B28, x2, ad28, hx2, okx2, cl28⟩ := At.ownAt S26.at' ET_31.hk 0 rfl k (by first | assumption | omega)
     refine l_op (f_val F27 rfl rfl (r_indexAddr (i := k) ET_31 rfl ((F27.ev 14 rfl).trans (by rw [ad28])) (F27.ev 15 rfl) (by omega) (by first | assumption | omega)) rfl fun _ F29 => ?_)
     refine l_op (s_storeEl S26.at' 0 k x1 ET_31.hk ET_31.h1 TI_56 rfl ad28 rfl rfl rfl rfl (F29.ev 21 rfl) (F29.ev 20 rfl) rfl (by first | assumption | omega) ⟨(show i64ok x1.kind from by first | assumption | exact ⟨by omega, by omega⟩), Q0, Q2, (show i64ok x1.a from by first | assumption | exact ⟨by omega, by omega⟩), (show i64ok x1.b from by first | assumption | exact ⟨by omega, by omega⟩), Q1⟩ fun w30 S30 => ?_)
     have F31 : Fr 23 [(21, .pointer (some ⟨B28, 0 + k * 6, none⟩)), (20, .agg #[.int .i64 x1.kind, .string x1.name, .string x1.to_, .int .i64 x1.a, .int .i64 x1.b, .string x1.text]), (4, .int .i64 ((k : Nat) : Int)), (3, .slice oa on oc), (0, .slice a_a a_n a_c)] _ := F29.cut rfl
     clear F17 F19 F20 F21 F22 F24 F25 F27 F29
     have T32 : Mv _ _ [ow 56 6 encK okK (.slice oa on oc) (D.set k x1)] _ := S30
     refine s_end (x_block_normal (x_normal (wp_region_lit (l_op (f_mv F31 rfl rfl rfl rfl rfl fun _ F33 => ?_)))))
     refine l_op (f_val F33 rfl rfl (r_add (z := ((k + 1 : Nat) : Int)) rfl (F33.ev 12 rfl) rfl (by first | rfl | omega) ⟨by first | omega | (unfold i64ok at *; omega), by first | omega | (unfold i64ok at *; omega)⟩) rfl fun _ F34 => ?_)
     refine l_op (f_as F34 rfl rfl rfl rfl rfl fun _ F35 => ?_)
     have F36 : Fr 23 [(4, .int .i64 ((k + 1 : Nat) : Int)), (3, .slice oa on oc), (0, .slice a_a a_n a_c)] _ := F35.cut rfl
     clear F31 F33 F34 F35
     refine s_end ?_
     refine x_normal ⟨k + 1, by omega, D.set k x1, oa, on, oc, F36.cut rfl, ((S12.trans (S26.trans T32)).pick [0] rfl), by omega, by rw [hk_1, copyTo_step hx1], by assumption⟩
   · skip
     refine wp_exit (x_then_exit (x_then_exit (x_block_here (x_normal (wp_seq (wp_region_lit (l_op (f_mv F17 rfl rfl rfl rfl rfl fun _ F37 => ?_))))))))
     refine l_op (f_as F37 rfl rfl rfl rfl rfl fun _ F38 => ?_)
     have F39 : Fr 23 [(2, .slice oa on oc)] _ := F38.cut rfl
     clear F17 F37 F38
     refine s_end (x_normal (wp_ret ?_))
     refine x_done (v := .slice oa on oc) F39 (results_1 Try.results18 (.tmp (F39.ev 2 rfl))) ?_
     exact ⟨oa, on, oc, rfl, (Mv.cast (Mv.pick (T9.trans S12) [0] rfl) (by rw [(show D = a from by rw [hk_1, copyTo_end (by omega)])]; all_goals rfl))⟩
theorem laws_toAnswerS_c {w : World} {H : Nat → Prop} {a : List AnsD} {a_a : Option Addr} {a_n a_c : Nat} (v_a : RdA 3 encR okR H w (.slice a_a a_n a_c) a) (p0 : a.length ≤ 1048576) :
    Calls Try.prog 19 #[.slice a_a a_n a_c] w fun e w' => ∃ (r0_a : Option Addr), ∃ (r0_n : Nat), ∃ (r0_c : Nat), e = .returned (.slice r0_a r0_n r0_c) ∧ Mv [] w [ow 59 3 encR okR (.slice r0_a r0_n r0_c) a] w' := by
 have uU : True := (fun _ => trivial) p0
 clear uU
 have V_v_a : RdA 3 encR okR (V H w []) w (.slice a_a a_n a_c) a := RdA.start v_a (fun _ _ => fps_nil _)
 obtain ⟨ln_a, le_a, mx_a, ni_a⟩ := RdA.inv v_a
 refine calls_enter 23 Try.func19 rfl Try.ntmps19 (Nat.le_of_ble_eq_true rfl) (fun _ F0i => ?_)
 have F0 : Fr 23 [(0, .slice a_a a_n a_c)] _ := F0i
 clear F0i
 refine wp_seq (wp_region_lit (l_op (f_val F0 rfl rfl (r_assign rfl rfl) rfl fun _ F1 => ?_)))
 have F2 : Fr 23 [(2, .slice none 0 0), (0, .slice a_a a_n a_c)] _ := F1.cut rfl
 clear F0 F1
 refine s_end (x_normal (wp_seq (wp_region_lit (l_op (f_mv F2 rfl rfl rfl rfl rfl fun _ F3 => ?_)))))
 refine l_op (f_val F3 rfl rfl (r_len Try.underlying23 rfl (F3.ev 5 rfl)) rfl fun _ F4 => ?_)
 refine l_op (f_mk (ok := okR) (⟨0, 0, (⟨#[]⟩ : ByteArray)⟩ : AnsD) F4 (At.nil w) ET_32 rfl rfl rfl rfl (F4.ev 6 rfl) (F4.ev 6 rfl) rfl ⟨(show i64ok 0 from by first | assumption | exact ⟨by omega, by omega⟩), (show i64ok 0 from by first | assumption | exact ⟨by omega, by omega⟩), (by unfold okS; decide)⟩ (by omega) fun b5 _ w5 F6 S5 => ?_)
 refine l_op (f_as F6 rfl rfl rfl rfl rfl fun _ F7 => ?_)
 have F8 : Fr 23 [(3, .slice (some ⟨b5, 0, none⟩) a_n a_n), (0, .slice a_a a_n a_c)] _ := F7.cut rfl
 clear F2 F3 F4 F6 F7
 have T9 : Mv _ _ [ow 59 3 encR okR (.slice (some ⟨b5, 0, none⟩) a_n a_n) (List.replicate a_n (⟨0, 0, (⟨#[]⟩ : ByteArray)⟩ : AnsD))] _ := S5
 refine s_end (x_normal (wp_seq (wp_seq (wp_region_lit (l_op (f_val F8 rfl rfl (r_assign rfl rfl) rfl fun _ F10 => ?_))))))
 have F11 : Fr 23 [(4, .int .i64 0), (3, .slice (some ⟨b5, 0, none⟩) a_n a_n), (0, .slice a_a a_n a_c)] _ := F10.cut rfl
 clear F8 F10
 refine s_end (x_normal (wp_block ?_))
 refine x_loop (fun (k : Nat) aZ wZ => ∃ (D : List AnsD), ∃ (oa : Option Addr), ∃ (on : Nat), ∃ (oc : Nat), Fr 23 [(4, .int .i64 ((k : Nat) : Int)), (3, .slice oa on oc), (0, .slice a_a a_n a_c)] aZ ∧ Mv [ow 59 3 encR okR (.slice (some ⟨b5, 0, none⟩) a_n a_n) (List.replicate a_n (⟨0, 0, (⟨#[]⟩ : ByteArray)⟩ : AnsD))] w5 [ow 59 3 encR okR (.slice oa on oc) D] wZ ∧ (k ≤ a_n) ∧ (D = copyTo (⟨0, 0, (⟨#[]⟩ : ByteArray)⟩ : AnsD) k a) ∧ (on = a_n)) (fun (k : Nat) => a_n - k) (0) ?_ ?_
 · exact ⟨List.replicate a_n (⟨0, 0, (⟨#[]⟩ : ByteArray)⟩ : AnsD), (some ⟨b5, 0, none⟩), a_n, a_n, F11.cut rfl, (Mv.refl T9.at'), by omega, copyTo_start _ _ ln_a, rfl⟩
 · rintro k a12 w12 ⟨D, oa, on, oc, F12, S12, hk_0, hk_1, hk_2⟩
   refine wp_seq (wp_seq (wp_region_lit (l_op (f_mv F12 rfl rfl rfl rfl rfl fun _ F13 => ?_))))
   refine l_op (f_mv F13 rfl rfl rfl rfl rfl fun _ F14 => ?_)
   refine l_op (f_val F14 rfl rfl (r_len Try.underlying23 rfl (F14.ev 9 rfl)) rfl fun _ F15 => ?_)
   refine l_op (f_val F15 rfl rfl (r_cmp (b := decide (k < a_n)) (.inr (.inr (.inl rfl))) rfl (F15.ev 8 rfl) (F15.ev 10 rfl) (dec_of (by omega))) rfl fun _ F16 => ?_)
   have F17 : Fr 23 [(11, .bool (decide (k < a_n))), (4, .int .i64 ((k : Nat) : Int)), (3, .slice oa on oc), (0, .slice a_a a_n a_c)] _ := F16.cut rfl
   clear F12 F13 F14 F15 F16
   refine s_end (x_normal (x_cond (p := k < a_n) (F17.ev 11 rfl) (fun h18 => ?_) (fun h18 => ?_)))
   · skip
     refine wp_skip (x_normal (wp_seq (wp_block (wp_region_lit (l_op (f_mv F17 rfl rfl rfl rfl rfl fun _ F19 => ?_))))))
     refine l_op (f_mv F19 rfl rfl rfl rfl rfl fun _ F20 => ?_)
     refine l_op (f_mv F20 rfl rfl rfl rfl rfl fun _ F21 => ?_)
     refine l_op (f_mv F21 rfl rfl rfl rfl rfl fun _ F22 => ?_)
     obtain ⟨B23, O23, x1, ad23, hx1, okx1, ln23, cl23⟩ := RdA.at (RdA.mv (Nat.succ_pos _) V_v_a (T9.trans S12)) k (by first | assumption | omega)
     clear ln23
     refine l_op (f_val F22 rfl rfl (r_indexAddr (i := k) ET_23 rfl ((F22.ev 16 rfl).trans (by rw [ad23])) (F22.ev 17 rfl) (by omega) (by first | assumption | omega)) rfl fun _ F24 => ?_)
     refine l_op (f_val (v := .agg #[.int .i64 x1.code, .int .i64 x1.n, .string x1.text]) F24 rfl rfl (r_load (cs := [.int .i64 x1.code, .int .i64 x1.n, .string x1.text]) TI_70 rfl (F24.ev 18 rfl) rfl (fun h => nomatch h) (elem_sub (f := 0) cl23 [.int .i64 x1.code, .int .i64 x1.n, .string x1.text] rfl)) rfl fun _ F25 => ?_)
     refine l_op (f_call F25 CF_44 rfl rfl rfl rfl (lc (F25.ev 19 rfl) rfl) (laws_toAnswer_c (H := fun _ => True) (a := x1) okx1.1 okx1.2.1 okx1.2.2) ?_)
     rintro _ w26 ⟨rfl, m26, Q0, q26_0, q26_1⟩
     refine ⟨_, rfl, fun _ F27 => ?_⟩
     have S26 := At.frame0 S12.at' m26
     clear m26
     obtain ⟨B28, x2, ad28, hx2, okx2, cl28⟩ := At.ownAt S26.at' ET_32.hk 0 rfl k (by first | assumption | omega)
     refine l_op (f_val F27 rfl rfl (r_indexAddr (i := k) ET_32 rfl ((F27.ev 14 rfl).trans (by rw [ad28])) (F27.ev 15 rfl) (by omega) (by first | assumption | omega)) rfl fun _ F29 => ?_)
     refine l_op (s_storeEl S26.at' 0 k x1 ET_32.hk ET_32.h1 TI_59 rfl ad28 rfl rfl rfl rfl (F29.ev 21 rfl) (F29.ev 20 rfl) rfl (by first | assumption | omega) ⟨(show i64ok x1.code from by first | assumption | exact ⟨by omega, by omega⟩), (show i64ok x1.n from by first | assumption | exact ⟨by omega, by omega⟩), Q0⟩ fun w30 S30 => ?_)
     have F31 : Fr 23 [(21, .pointer (some ⟨B28, 0 + k * 3, none⟩)), (20, .agg #[.int .i64 x1.code, .int .i64 x1.n, .string x1.text]), (4, .int .i64 ((k : Nat) : Int)), (3, .slice oa on oc), (0, .slice a_a a_n a_c)] _ := F29.cut rfl
     clear F17 F19 F20 F21 F22 F24 F25 F27 F29
     have T32 : Mv _ _ [ow 59 3 encR okR (.slice oa on oc) (D.set k x1)] _ := S30
     refine s_end (x_block_normal (x_normal (wp_region_lit (l_op (f_mv F31 rfl rfl rfl rfl rfl fun _ F33 => ?_)))))
     refine l_op (f_val F33 rfl rfl (r_add (z := ((k + 1 : Nat) : Int)) rfl (F33.ev 12 rfl) rfl (by first | rfl | omega) ⟨by first | omega | (unfold i64ok at *; omega), by first | omega | (unfold i64ok at *; omega)⟩) rfl fun _ F34 => ?_)
     refine l_op (f_as F34 rfl rfl rfl rfl rfl fun _ F35 => ?_)
     have F36 : Fr 23 [(4, .int .i64 ((k + 1 : Nat) : Int)), (3, .slice oa on oc), (0, .slice a_a a_n a_c)] _ := F35.cut rfl
     clear F31 F33 F34 F35
     refine s_end ?_
     refine x_normal ⟨k + 1, by omega, D.set k x1, oa, on, oc, F36.cut rfl, ((S12.trans (S26.trans T32)).pick [0] rfl), by omega, by rw [hk_1, copyTo_step hx1], by assumption⟩
   · skip
     refine wp_exit (x_then_exit (x_then_exit (x_block_here (x_normal (wp_seq (wp_region_lit (l_op (f_mv F17 rfl rfl rfl rfl rfl fun _ F37 => ?_))))))))
     refine l_op (f_as F37 rfl rfl rfl rfl rfl fun _ F38 => ?_)
     have F39 : Fr 23 [(2, .slice oa on oc)] _ := F38.cut rfl
     clear F17 F37 F38
     refine s_end (x_normal (wp_ret ?_))
     refine x_done (v := .slice oa on oc) F39 (results_1 Try.results19 (.tmp (F39.ev 2 rfl))) ?_
     exact ⟨oa, on, oc, rfl, (Mv.cast (Mv.pick (T9.trans S12) [0] rfl) (by rw [(show D = a from by rw [hk_1, copyTo_end (by omega)])]; all_goals rfl))⟩
theorem laws_toIntS_c {w : World} {H : Nat → Prop} {a : List Int} {a_a : Option Addr} {a_n a_c : Nat} (v_a : RdA 1 encI okI H w (.slice a_a a_n a_c) a) (p0 : a.length ≤ 1048576) :
    Calls Try.prog 21 #[.slice a_a a_n a_c] w fun e w' => ∃ (r0_a : Option Addr), ∃ (r0_n : Nat), ∃ (r0_c : Nat), e = .returned (.slice r0_a r0_n r0_c) ∧ Mv [] w [ow 3 1 encI okI (.slice r0_a r0_n r0_c) a] w' := by
 have uU : True := (fun _ => trivial) p0
 clear uU
 have V_v_a : RdA 1 encI okI (V H w []) w (.slice a_a a_n a_c) a := RdA.start v_a (fun _ _ => fps_nil _)
 obtain ⟨ln_a, le_a, mx_a, ni_a⟩ := RdA.inv v_a
 refine calls_enter 22 Try.func21 rfl Try.ntmps21 (Nat.le_of_ble_eq_true rfl) (fun _ F0i => ?_)
 have F0 : Fr 22 [(0, .slice a_a a_n a_c)] _ := F0i
 clear F0i
 refine wp_seq (wp_region_lit (l_op (f_val F0 rfl rfl (r_assign rfl rfl) rfl fun _ F1 => ?_)))
 have F2 : Fr 22 [(2, .slice none 0 0), (0, .slice a_a a_n a_c)] _ := F1.cut rfl
 clear F0 F1
 refine s_end (x_normal (wp_seq (wp_region_lit (l_op (f_mv F2 rfl rfl rfl rfl rfl fun _ F3 => ?_)))))
 refine l_op (f_val F3 rfl rfl (r_len Try.underlying27 rfl (F3.ev 5 rfl)) rfl fun _ F4 => ?_)
 refine l_op (f_mk (ok := okI) 0 F4 (At.nil w) ET_27 rfl rfl rfl rfl (F4.ev 6 rfl) (F4.ev 6 rfl) rfl ⟨by omega, by omega⟩ (by omega) fun b5 _ w5 F6 S5 => ?_)
 refine l_op (f_as F6 rfl rfl rfl rfl rfl fun _ F7 => ?_)
 have F8 : Fr 22 [(3, .slice (some ⟨b5, 0, none⟩) a_n a_n), (0, .slice a_a a_n a_c)] _ := F7.cut rfl
 clear F2 F3 F4 F6 F7
 have T9 : Mv _ _ [ow 3 1 encI okI (.slice (some ⟨b5, 0, none⟩) a_n a_n) (List.replicate a_n 0)] _ := S5
 refine s_end (x_normal (wp_seq (wp_seq (wp_region_lit (l_op (f_val F8 rfl rfl (r_assign rfl rfl) rfl fun _ F10 => ?_))))))
 have F11 : Fr 22 [(4, .int .i64 0), (3, .slice (some ⟨b5, 0, none⟩) a_n a_n), (0, .slice a_a a_n a_c)] _ := F10.cut rfl
 clear F8 F10
 refine s_end (x_normal (wp_block ?_))
 refine x_loop (fun (k : Nat) aZ wZ => ∃ (D : List Int), ∃ (oa : Option Addr), ∃ (on : Nat), ∃ (oc : Nat), Fr 22 [(4, .int .i64 ((k : Nat) : Int)), (3, .slice oa on oc), (0, .slice a_a a_n a_c)] aZ ∧ Mv [ow 3 1 encI okI (.slice (some ⟨b5, 0, none⟩) a_n a_n) (List.replicate a_n 0)] w5 [ow 3 1 encI okI (.slice oa on oc) D] wZ ∧ (k ≤ a_n) ∧ (D = copyTo (0 : Int) k a) ∧ (on = a_n)) (fun (k : Nat) => a_n - k) (0) ?_ ?_
 · exact ⟨List.replicate a_n 0, (some ⟨b5, 0, none⟩), a_n, a_n, F11.cut rfl, (Mv.refl T9.at'), by omega, copyTo_start _ _ ln_a, rfl⟩
 · rintro k a12 w12 ⟨D, oa, on, oc, F12, S12, hk_0, hk_1, hk_2⟩
   refine wp_seq (wp_seq (wp_region_lit (l_op (f_mv F12 rfl rfl rfl rfl rfl fun _ F13 => ?_))))
   refine l_op (f_mv F13 rfl rfl rfl rfl rfl fun _ F14 => ?_)
   refine l_op (f_val F14 rfl rfl (r_len Try.underlying27 rfl (F14.ev 9 rfl)) rfl fun _ F15 => ?_)
   refine l_op (f_val F15 rfl rfl (r_cmp (b := decide (k < a_n)) (.inr (.inr (.inl rfl))) rfl (F15.ev 8 rfl) (F15.ev 10 rfl) (dec_of (by omega))) rfl fun _ F16 => ?_)
   have F17 : Fr 22 [(11, .bool (decide (k < a_n))), (4, .int .i64 ((k : Nat) : Int)), (3, .slice oa on oc), (0, .slice a_a a_n a_c)] _ := F16.cut rfl
   clear F12 F13 F14 F15 F16
   refine s_end (x_normal (x_cond (p := k < a_n) (F17.ev 11 rfl) (fun h18 => ?_) (fun h18 => ?_)))
   · skip
     refine wp_skip (x_normal (wp_seq (wp_block (wp_region_lit (l_op (f_mv F17 rfl rfl rfl rfl rfl fun _ F19 => ?_))))))
     refine l_op (f_mv F19 rfl rfl rfl rfl rfl fun _ F20 => ?_)
     refine l_op (f_mv F20 rfl rfl rfl rfl rfl fun _ F21 => ?_)
     refine l_op (f_mv F21 rfl rfl rfl rfl rfl fun _ F22 => ?_)
     obtain ⟨B23, O23, x1, ad23, hx1, okx1, ln23, cl23⟩ := RdA.at (RdA.mv (Nat.succ_pos _) V_v_a (T9.trans S12)) k (by first | assumption | omega)
     clear ln23
     refine l_op (f_val F22 rfl rfl (r_indexAddr (i := k) ET_27 rfl ((F22.ev 16 rfl).trans (by rw [ad23])) (F22.ev 17 rfl) (by omega) (by first | assumption | omega)) rfl fun _ F24 => ?_)
     refine l_op (f_val (v := .int .i64 x1) F24 rfl rfl (r_load (cs := [.int .i64 x1]) TI_3 rfl (F24.ev 18 rfl) rfl (fun _ => rfl) (elem_sub (f := 0) cl23 [.int .i64 x1] rfl)) rfl fun _ F25 => ?_)
     obtain ⟨B26, x2, ad26, hx2, okx2, cl26⟩ := At.ownAt S12.at' ET_27.hk 0 rfl k (by first | assumption | omega)
     refine l_op (f_val F25 rfl rfl (r_indexAddr (i := k) ET_27 rfl ((F25.ev 14 rfl).trans (by rw [ad26])) (F25.ev 15 rfl) (by omega) (by first | assumption | omega)) rfl fun _ F27 => ?_)
     refine l_op (s_storeEl S12.at' 0 k x1 ET_27.hk ET_27.h1 TI_3 rfl ad26 rfl rfl rfl rfl (F27.ev 20 rfl) (F27.ev 19 rfl) rfl (by first | assumption | omega) okx1 fun w28 S28 => ?_)
     have F29 : Fr 22 [(20, .pointer (some ⟨B26, 0 + k * 1, none⟩)), (19, .int .i64 x1), (4, .int .i64 ((k : Nat) : Int)), (3, .slice oa on oc), (0, .slice a_a a_n a_c)] _ := F27.cut rfl
     clear F17 F19 F20 F21 F22 F24 F25 F27
     have T30 : Mv _ _ [ow 3 1 encI okI (.slice oa on oc) (D.set k x1)] _ := S28
     refine s_end (x_block_normal (x_normal (wp_region_lit (l_op (f_mv F29 rfl rfl rfl rfl rfl fun _ F31 => ?_)))))
     refine l_op (f_val F31 rfl rfl (r_add (z := ((k + 1 : Nat) : Int)) rfl (F31.ev 12 rfl) rfl (by first | rfl | omega) ⟨by first | omega | (unfold i64ok at *; omega), by first | omega | (unfold i64ok at *; omega)⟩) rfl fun _ F32 => ?_)
     refine l_op (f_as F32 rfl rfl rfl rfl rfl fun _ F33 => ?_)
     have F34 : Fr 22 [(4, .int .i64 ((k + 1 : Nat) : Int)), (3, .slice oa on oc), (0, .slice a_a a_n a_c)] _ := F33.cut rfl
     clear F29 F31 F32 F33
     refine s_end ?_
     refine x_normal ⟨k + 1, by omega, D.set k x1, oa, on, oc, F34.cut rfl, ((S12.trans T30).pick [0] rfl), by omega, by rw [hk_1, copyTo_step hx1], by assumption⟩
   · skip
     refine wp_exit (x_then_exit (x_then_exit (x_block_here (x_normal (wp_seq (wp_region_lit (l_op (f_mv F17 rfl rfl rfl rfl rfl fun _ F35 => ?_))))))))
     refine l_op (f_as F35 rfl rfl rfl rfl rfl fun _ F36 => ?_)
     have F37 : Fr 22 [(2, .slice oa on oc)] _ := F36.cut rfl
     clear F17 F35 F36
     refine s_end (x_normal (wp_ret ?_))
     refine x_done (v := .slice oa on oc) F37 (results_1 Try.results21 (.tmp (F37.ev 2 rfl))) ?_
     exact ⟨oa, on, oc, rfl, (Mv.cast (Mv.pick (T9.trans S12) [0] rfl) (by rw [(show D = a from by rw [hk_1, copyTo_end (by omega)])]; all_goals rfl))⟩
theorem laws_eqCall_c {w : World} {H : Nat → Prop} {a : CallD} {b : CallD} (Q1 : i64ok a.kind) (Q2 : okS a.name) (Q4 : okS a.to_) (h_a_a : i64ok a.a) (Q0 : i64ok a.b) (Q3 : okS a.text) (Q6 : i64ok b.kind) (Q7 : okS b.name) (Q9 : okS b.to_) (h_b_a : i64ok b.a) (Q5 : i64ok b.b) (Q8 : okS b.text) (p0 : a = b) :
    Calls Try.prog 50 #[.agg #[.int .i64 a.kind, .string a.name, .string a.to_, .int .i64 a.a, .int .i64 a.b, .string a.text], .agg #[.int .i64 b.kind, .string b.name, .string b.to_, .int .i64 b.a, .int .i64 b.b, .string b.text]] w fun e w' => e = .returned (.bool true) ∧ Mv [] w [] w' := by
 have uU : True := (fun _ _ _ _ _ _ _ _ _ _ _ _ _ => trivial) H Q1 Q2 Q4 h_a_a Q0 Q3 Q6 Q7 Q9 h_b_a Q5 Q8
 clear uU
 refine calls_enter 35 Try.func50 rfl Try.ntmps50 (Nat.le_of_ble_eq_true rfl) (fun _ F0i => ?_)
 have F0 : Fr 35 [(0, .agg #[.int .i64 a.kind, .string a.name, .string a.to_, .int .i64 a.a, .int .i64 a.b, .string a.text]), (1, .agg #[.int .i64 b.kind, .string b.name, .string b.to_, .int .i64 b.a, .int .i64 b.b, .string b.text])] _ := F0i
 clear F0i
 refine wp_seq (wp_region_lit (l_op (f_box F0 (At.nil w) rfl rfl rfl (F0.ev 0 rfl) rfl rfl fun b1 _ w1 F2 S1 => ?_)))
 refine l_op (f_box F2 S1.at' rfl rfl rfl (F2.ev 1 rfl) rfl rfl fun b3 _ w3 F4 S3 => ?_)
 refine l_op (f_val F4 rfl rfl (r_assign rfl rfl) rfl fun _ F5 => ?_)
 have F6 : Fr 35 [(4, .bool false), (3, .pointer (some ⟨b3, 0, none⟩)), (2, .pointer (some ⟨b1, 0, none⟩))] _ := F5.cut rfl
 clear F0 F2 F4 F5
 have T7 : Mv _ _ [bx b3 [.int .i64 b.kind, .string b.name, .string b.to_, .int .i64 b.a, .int .i64 b.b, .string b.text] 56, bx b1 [.int .i64 a.kind, .string a.name, .string a.to_, .int .i64 a.a, .int .i64 a.b, .string a.text] 56] _ := S3
 refine s_end (x_normal (wp_seq (wp_seq (wp_region_lit (l_op (f_val F6 rfl rfl (r_field FI_56_0 rfl (F6.ev 2 rfl) rfl) rfl fun _ F8 => ?_))))))
 refine l_op (f_val (v := .int .i64 a.kind) F8 rfl rfl (r_loadB T7.at' 1 TI_3 rfl rfl (F8.ev 5 rfl) rfl rfl (fun _ => rfl) rfl) rfl fun _ F9 => ?_)
 refine l_op (f_val F9 rfl rfl (r_field FI_56_0 rfl (F9.ev 3 rfl) rfl) rfl fun _ F10 => ?_)
 refine l_op (f_val (v := .int .i64 b.kind) F10 rfl rfl (r_loadB T7.at' 0 TI_3 rfl rfl (F10.ev 7 rfl) rfl rfl (fun _ => rfl) rfl) rfl fun _ F11 => ?_)
 refine l_op (f_val F11 rfl rfl (r_cmp (b := decide (a.kind ≠ b.kind)) (.inr (.inl rfl)) rfl (F11.ev 6 rfl) (F11.ev 8 rfl) (dec_of (by omega))) rfl fun _ F12 => ?_)
 rw [show (decide (a.kind ≠ b.kind)) = false from decide_eq_false (fun h => h (by rw [p0]))] at F12
 have F13 : Fr 35 [(9, .bool false), (3, .pointer (some ⟨b3, 0, none⟩)), (2, .pointer (some ⟨b1, 0, none⟩))] _ := F12.cut rfl
 clear F6 F8 F9 F10 F11 F12
 refine s_end (x_normal (wp_cond_false (F13.ev 9 rfl) (wp_skip (x_normal (wp_seq (wp_seq (wp_region_lit (l_op (f_val F13 rfl rfl (r_field FI_56_1 rfl (F13.ev 2 rfl) rfl) rfl fun _ F14 => ?_)))))))))
 refine l_op (f_val (v := .string a.name) F14 rfl rfl (r_loadB T7.at' 1 TI_9 rfl rfl (F14.ev 10 rfl) rfl rfl (fun _ => rfl) rfl) rfl fun _ F15 => ?_)
 refine l_op (f_val F15 rfl rfl (r_field FI_56_1 rfl (F15.ev 3 rfl) rfl) rfl fun _ F16 => ?_)
 refine l_op (f_val (v := .string b.name) F16 rfl rfl (r_loadB T7.at' 0 TI_9 rfl rfl (F16.ev 12 rfl) rfl rfl (fun _ => rfl) rfl) rfl fun _ F17 => ?_)
 refine l_op (f_val F17 rfl rfl (r_cmps (b := (decide (a.name ≠ b.name))) (.inr (.inl rfl)) rfl (F17.ev 11 rfl) (F17.ev 13 rfl) rfl) rfl fun _ F18 => ?_)
 rw [show (decide (a.name ≠ b.name)) = false from decide_eq_false (fun h => h (by rw [p0]))] at F18
 have F19 : Fr 35 [(14, .bool false), (3, .pointer (some ⟨b3, 0, none⟩)), (2, .pointer (some ⟨b1, 0, none⟩))] _ := F18.cut rfl
 clear F13 F14 F15 F16 F17 F18
 refine s_end (x_normal (wp_cond_false (F19.ev 14 rfl) (wp_skip (x_normal (wp_seq (wp_seq (wp_region_lit (l_op (f_val F19 rfl rfl (r_field FI_56_2 rfl (F19.ev 2 rfl) rfl) rfl fun _ F20 => ?_)))))))))
 refine l_op (f_val (v := .string a.to_) F20 rfl rfl (r_loadB T7.at' 1 TI_9 rfl rfl (F20.ev 15 rfl) rfl rfl (fun _ => rfl) rfl) rfl fun _ F21 => ?_)
 refine l_op (f_val F21 rfl rfl (r_field FI_56_2 rfl (F21.ev 3 rfl) rfl) rfl fun _ F22 => ?_)
 refine l_op (f_val (v := .string b.to_) F22 rfl rfl (r_loadB T7.at' 0 TI_9 rfl rfl (F22.ev 17 rfl) rfl rfl (fun _ => rfl) rfl) rfl fun _ F23 => ?_)
 refine l_op (f_val F23 rfl rfl (r_cmps (b := (decide (a.to_ ≠ b.to_))) (.inr (.inl rfl)) rfl (F23.ev 16 rfl) (F23.ev 18 rfl) rfl) rfl fun _ F24 => ?_)
 rw [show (decide (a.to_ ≠ b.to_)) = false from decide_eq_false (fun h => h (by rw [p0]))] at F24
 have F25 : Fr 35 [(19, .bool false), (3, .pointer (some ⟨b3, 0, none⟩)), (2, .pointer (some ⟨b1, 0, none⟩))] _ := F24.cut rfl
 clear F19 F20 F21 F22 F23 F24
 refine s_end (x_normal (wp_cond_false (F25.ev 19 rfl) (wp_skip (x_normal (wp_seq (wp_seq (wp_region_lit (l_op (f_val F25 rfl rfl (r_field FI_56_3 rfl (F25.ev 2 rfl) rfl) rfl fun _ F26 => ?_)))))))))
 refine l_op (f_val (v := .int .i64 a.a) F26 rfl rfl (r_loadB T7.at' 1 TI_3 rfl rfl (F26.ev 20 rfl) rfl rfl (fun _ => rfl) rfl) rfl fun _ F27 => ?_)
 refine l_op (f_val F27 rfl rfl (r_field FI_56_3 rfl (F27.ev 3 rfl) rfl) rfl fun _ F28 => ?_)
 refine l_op (f_val (v := .int .i64 b.a) F28 rfl rfl (r_loadB T7.at' 0 TI_3 rfl rfl (F28.ev 22 rfl) rfl rfl (fun _ => rfl) rfl) rfl fun _ F29 => ?_)
 refine l_op (f_val F29 rfl rfl (r_cmp (b := decide (a.a ≠ b.a)) (.inr (.inl rfl)) rfl (F29.ev 21 rfl) (F29.ev 23 rfl) (dec_of (by omega))) rfl fun _ F30 => ?_)
 rw [show (decide (a.a ≠ b.a)) = false from decide_eq_false (fun h => h (by rw [p0]))] at F30
 have F31 : Fr 35 [(24, .bool false), (3, .pointer (some ⟨b3, 0, none⟩)), (2, .pointer (some ⟨b1, 0, none⟩))] _ := F30.cut rfl
 clear F25 F26 F27 F28 F29 F30
 refine s_end (x_normal (wp_cond_false (F31.ev 24 rfl) (wp_skip (x_normal (wp_seq (wp_seq (wp_region_lit (l_op (f_val F31 rfl rfl (r_field FI_56_4 rfl (F31.ev 2 rfl) rfl) rfl fun _ F32 => ?_)))))))))
 refine l_op (f_val (v := .int .i64 a.b) F32 rfl rfl (r_loadB T7.at' 1 TI_3 rfl rfl (F32.ev 25 rfl) rfl rfl (fun _ => rfl) rfl) rfl fun _ F33 => ?_)
 refine l_op (f_val F33 rfl rfl (r_field FI_56_4 rfl (F33.ev 3 rfl) rfl) rfl fun _ F34 => ?_)
 refine l_op (f_val (v := .int .i64 b.b) F34 rfl rfl (r_loadB T7.at' 0 TI_3 rfl rfl (F34.ev 27 rfl) rfl rfl (fun _ => rfl) rfl) rfl fun _ F35 => ?_)
 refine l_op (f_val F35 rfl rfl (r_cmp (b := decide (a.b ≠ b.b)) (.inr (.inl rfl)) rfl (F35.ev 26 rfl) (F35.ev 28 rfl) (dec_of (by omega))) rfl fun _ F36 => ?_)
 rw [show (decide (a.b ≠ b.b)) = false from decide_eq_false (fun h => h (by rw [p0]))] at F36
 have F37 : Fr 35 [(29, .bool false), (3, .pointer (some ⟨b3, 0, none⟩)), (2, .pointer (some ⟨b1, 0, none⟩))] _ := F36.cut rfl
 clear F31 F32 F33 F34 F35 F36
 refine s_end (x_normal (wp_cond_false (F37.ev 29 rfl) (wp_skip (x_normal (wp_seq (wp_seq (wp_region_lit (l_op (f_val F37 rfl rfl (r_field FI_56_5 rfl (F37.ev 2 rfl) rfl) rfl fun _ F38 => ?_)))))))))
 refine l_op (f_val (v := .string a.text) F38 rfl rfl (r_loadB T7.at' 1 TI_9 rfl rfl (F38.ev 30 rfl) rfl rfl (fun _ => rfl) rfl) rfl fun _ F39 => ?_)
 refine l_op (f_val F39 rfl rfl (r_field FI_56_5 rfl (F39.ev 3 rfl) rfl) rfl fun _ F40 => ?_)
 refine l_op (f_val (v := .string b.text) F40 rfl rfl (r_loadB T7.at' 0 TI_9 rfl rfl (F40.ev 32 rfl) rfl rfl (fun _ => rfl) rfl) rfl fun _ F41 => ?_)
 refine l_op (f_val F41 rfl rfl (r_cmps (b := (decide (a.text ≠ b.text))) (.inr (.inl rfl)) rfl (F41.ev 31 rfl) (F41.ev 33 rfl) rfl) rfl fun _ F42 => ?_)
 rw [show (decide (a.text ≠ b.text)) = false from decide_eq_false (fun h => h (by rw [p0]))] at F42
 have F43 : Fr 35 [(34, .bool false)] _ := F42.cut rfl
 clear F37 F38 F39 F40 F41 F42
 refine s_end (x_normal (wp_cond_false (F43.ev 34 rfl) (wp_skip (x_normal (wp_seq (wp_region_lit (l_op (f_val F43 rfl rfl (r_assign rfl rfl) rfl fun _ F44 => ?_))))))))
 have F45 : Fr 35 [(4, .bool true)] _ := F44.cut rfl
 clear F43 F44
 refine s_end (x_normal (wp_ret ?_))
 refine x_done (v := .bool true) F45 (results_1 Try.results50 (.tmp (F45.ev 4 rfl))) ?_
 exact ⟨rfl, (Mv.pick (S1.trans T7) [] rfl)⟩
theorem laws_eqAnswer_c {w : World} {H : Nat → Prop} {a : AnsD} {b : AnsD} (Q0 : i64ok a.code) (h_a_n : i64ok a.n) (Q1 : okS a.text) (Q2 : i64ok b.code) (h_b_n : i64ok b.n) (Q3 : okS b.text) (p0 : a = b) :
    Calls Try.prog 51 #[.agg #[.int .i64 a.code, .int .i64 a.n, .string a.text], .agg #[.int .i64 b.code, .int .i64 b.n, .string b.text]] w fun e w' => e = .returned (.bool true) ∧ Mv [] w [] w' := by
 have uU : True := (fun _ _ _ _ _ _ _ => trivial) H Q0 h_a_n Q1 Q2 h_b_n Q3
 clear uU
 refine calls_enter 20 Try.func51 rfl Try.ntmps51 (Nat.le_of_ble_eq_true rfl) (fun _ F0i => ?_)
 have F0 : Fr 20 [(0, .agg #[.int .i64 a.code, .int .i64 a.n, .string a.text]), (1, .agg #[.int .i64 b.code, .int .i64 b.n, .string b.text])] _ := F0i
 clear F0i
 refine wp_seq (wp_region_lit (l_op (f_box F0 (At.nil w) rfl rfl rfl (F0.ev 0 rfl) rfl rfl fun b1 _ w1 F2 S1 => ?_)))
 refine l_op (f_box F2 S1.at' rfl rfl rfl (F2.ev 1 rfl) rfl rfl fun b3 _ w3 F4 S3 => ?_)
 refine l_op (f_val F4 rfl rfl (r_assign rfl rfl) rfl fun _ F5 => ?_)
 have F6 : Fr 20 [(4, .bool false), (3, .pointer (some ⟨b3, 0, none⟩)), (2, .pointer (some ⟨b1, 0, none⟩))] _ := F5.cut rfl
 clear F0 F2 F4 F5
 have T7 : Mv _ _ [bx b3 [.int .i64 b.code, .int .i64 b.n, .string b.text] 59, bx b1 [.int .i64 a.code, .int .i64 a.n, .string a.text] 59] _ := S3
 refine s_end (x_normal (wp_seq (wp_seq (wp_region_lit (l_op (f_val F6 rfl rfl (r_field FI_59_0 rfl (F6.ev 2 rfl) rfl) rfl fun _ F8 => ?_))))))
 refine l_op (f_val (v := .int .i64 a.code) F8 rfl rfl (r_loadB T7.at' 1 TI_3 rfl rfl (F8.ev 5 rfl) rfl rfl (fun _ => rfl) rfl) rfl fun _ F9 => ?_)
 refine l_op (f_val F9 rfl rfl (r_field FI_59_0 rfl (F9.ev 3 rfl) rfl) rfl fun _ F10 => ?_)
 refine l_op (f_val (v := .int .i64 b.code) F10 rfl rfl (r_loadB T7.at' 0 TI_3 rfl rfl (F10.ev 7 rfl) rfl rfl (fun _ => rfl) rfl) rfl fun _ F11 => ?_)
 refine l_op (f_val F11 rfl rfl (r_cmp (b := decide (a.code ≠ b.code)) (.inr (.inl rfl)) rfl (F11.ev 6 rfl) (F11.ev 8 rfl) (dec_of (by omega))) rfl fun _ F12 => ?_)
 rw [show (decide (a.code ≠ b.code)) = false from decide_eq_false (fun h => h (by rw [p0]))] at F12
 have F13 : Fr 20 [(9, .bool false), (3, .pointer (some ⟨b3, 0, none⟩)), (2, .pointer (some ⟨b1, 0, none⟩))] _ := F12.cut rfl
 clear F6 F8 F9 F10 F11 F12
 refine s_end (x_normal (wp_cond_false (F13.ev 9 rfl) (wp_skip (x_normal (wp_seq (wp_seq (wp_region_lit (l_op (f_val F13 rfl rfl (r_field FI_59_1 rfl (F13.ev 2 rfl) rfl) rfl fun _ F14 => ?_)))))))))
 refine l_op (f_val (v := .int .i64 a.n) F14 rfl rfl (r_loadB T7.at' 1 TI_3 rfl rfl (F14.ev 10 rfl) rfl rfl (fun _ => rfl) rfl) rfl fun _ F15 => ?_)
 refine l_op (f_val F15 rfl rfl (r_field FI_59_1 rfl (F15.ev 3 rfl) rfl) rfl fun _ F16 => ?_)
 refine l_op (f_val (v := .int .i64 b.n) F16 rfl rfl (r_loadB T7.at' 0 TI_3 rfl rfl (F16.ev 12 rfl) rfl rfl (fun _ => rfl) rfl) rfl fun _ F17 => ?_)
 refine l_op (f_val F17 rfl rfl (r_cmp (b := decide (a.n ≠ b.n)) (.inr (.inl rfl)) rfl (F17.ev 11 rfl) (F17.ev 13 rfl) (dec_of (by omega))) rfl fun _ F18 => ?_)
 rw [show (decide (a.n ≠ b.n)) = false from decide_eq_false (fun h => h (by rw [p0]))] at F18
 have F19 : Fr 20 [(14, .bool false), (3, .pointer (some ⟨b3, 0, none⟩)), (2, .pointer (some ⟨b1, 0, none⟩))] _ := F18.cut rfl
 clear F13 F14 F15 F16 F17 F18
 refine s_end (x_normal (wp_cond_false (F19.ev 14 rfl) (wp_skip (x_normal (wp_seq (wp_seq (wp_region_lit (l_op (f_val F19 rfl rfl (r_field FI_59_2 rfl (F19.ev 2 rfl) rfl) rfl fun _ F20 => ?_)))))))))
 refine l_op (f_val (v := .string a.text) F20 rfl rfl (r_loadB T7.at' 1 TI_9 rfl rfl (F20.ev 15 rfl) rfl rfl (fun _ => rfl) rfl) rfl fun _ F21 => ?_)
 refine l_op (f_val F21 rfl rfl (r_field FI_59_2 rfl (F21.ev 3 rfl) rfl) rfl fun _ F22 => ?_)
 refine l_op (f_val (v := .string b.text) F22 rfl rfl (r_loadB T7.at' 0 TI_9 rfl rfl (F22.ev 17 rfl) rfl rfl (fun _ => rfl) rfl) rfl fun _ F23 => ?_)
 refine l_op (f_val F23 rfl rfl (r_cmps (b := (decide (a.text ≠ b.text))) (.inr (.inl rfl)) rfl (F23.ev 16 rfl) (F23.ev 18 rfl) rfl) rfl fun _ F24 => ?_)
 rw [show (decide (a.text ≠ b.text)) = false from decide_eq_false (fun h => h (by rw [p0]))] at F24
 have F25 : Fr 20 [(19, .bool false)] _ := F24.cut rfl
 clear F19 F20 F21 F22 F23 F24
 refine s_end (x_normal (wp_cond_false (F25.ev 19 rfl) (wp_skip (x_normal (wp_seq (wp_region_lit (l_op (f_val F25 rfl rfl (r_assign rfl rfl) rfl fun _ F26 => ?_))))))))
 have F27 : Fr 20 [(4, .bool true)] _ := F26.cut rfl
 clear F25 F26
 refine s_end (x_normal (wp_ret ?_))
 refine x_done (v := .bool true) F27 (results_1 Try.results51 (.tmp (F27.ev 4 rfl))) ?_
 exact ⟨rfl, (Mv.pick (S1.trans T7) [] rfl)⟩
theorem laws_eqCallS_c {w : World} {H : Nat → Prop} {a : List CallD} {a_a : Option Addr} {a_n a_c : Nat} {b : List CallD} {b_a : Option Addr} {b_n b_c : Nat} (v_a : Rd 6 encK okK H w (.slice a_a a_n a_c) a) (v_b : Rd 6 encK okK H w (.slice b_a b_n b_c) b) (p0 : a = b) :
    Calls Try.prog 28 #[.slice a_a a_n a_c, .slice b_a b_n b_c] w fun e w' => e = .returned (.bool true) ∧ Mv [] w [] w' := by
 have V_v_a : Rd 6 encK okK (V H w []) w (.slice a_a a_n a_c) a := Rd.start v_a (fun _ _ => fps_nil _)
 obtain ⟨ln_a, le_a, mx_a, ni_a⟩ := Rd.inv v_a
 have Q0 : Rd 6 encK okK (V H w []) w (.slice b_a b_n b_c) b := Rd.start v_b (fun _ _ => fps_nil _)
 obtain ⟨ln_b, le_b, mx_b, ni_b⟩ := Rd.inv v_b
 refine calls_enter 27 Try.func28 rfl Try.ntmps28 (Nat.le_of_ble_eq_true rfl) (fun _ F0i => ?_)
 have F0 : Fr 27 [(0, .slice a_a a_n a_c), (1, .slice b_a b_n b_c)] _ := F0i
 clear F0i
 refine wp_seq ?_
 have hab : a_n = b_n := by rw [ln_a, ln_b, p0]
 refine wp_region_lit (l_op (f_val F0 rfl rfl (r_assign rfl rfl) rfl fun _ F1 => ?_))
 have F2 : Fr 27 [(4, .bool false), (0, .slice a_a a_n a_c), (1, .slice b_a b_n b_c)] _ := F1.cut rfl
 clear F0 F1
 refine s_end (x_normal (wp_seq (wp_seq (wp_region_lit (l_op (f_mv F2 rfl rfl rfl rfl rfl fun _ F3 => ?_))))))
 refine l_op (f_val F3 rfl rfl (r_len Try.underlying31 rfl (F3.ev 6 rfl)) rfl fun _ F4 => ?_)
 refine l_op (f_mv F4 rfl rfl rfl rfl rfl fun _ F5 => ?_)
 refine l_op (f_val F5 rfl rfl (r_len Try.underlying31 rfl (F5.ev 8 rfl)) rfl fun _ F6 => ?_)
 refine l_op (f_val F6 rfl rfl (r_cmp (b := decide (a_n ≠ b_n)) (.inr (.inl rfl)) rfl (F6.ev 7 rfl) (F6.ev 9 rfl) (dec_of (by omega))) rfl fun _ F7 => ?_)
 rw [show (decide (a_n ≠ b_n)) = false from decide_eq_false (fun h => h hab)] at F7
 have F8 : Fr 27 [(10, .bool false), (0, .slice a_a a_n a_c), (1, .slice b_a b_n b_c)] _ := F7.cut rfl
 clear F2 F3 F4 F5 F6 F7
 refine s_end (x_normal (wp_cond_false (F8.ev 10 rfl) (wp_skip (x_normal (wp_seq (wp_seq (wp_region_lit (l_op (f_val F8 rfl rfl (r_assign rfl rfl) rfl fun _ F9 => ?_)))))))))
 have F10 : Fr 27 [(5, .int .i64 0), (0, .slice a_a a_n a_c), (1, .slice b_a b_n b_c)] _ := F9.cut rfl
 clear F8 F9
 refine s_end (x_normal (wp_block ?_))
 refine x_loop (fun (k : Nat) aZ wZ => Fr 27 [(5, .int .i64 ((k : Nat) : Int)), (0, .slice a_a a_n a_c), (1, .slice b_a b_n b_c)] aZ ∧ Mv [] w [] wZ ∧ (k ≤ a_n)) (fun (k : Nat) => a_n - k) (0) ?_ ?_
 · exact ⟨F10.cut rfl, (Mv.refl (At.nil w)), by omega⟩
 · rintro k a11 w11 ⟨F11, S11, hk_0⟩
   refine wp_seq (wp_seq (wp_region_lit (l_op (f_mv F11 rfl rfl rfl rfl rfl fun _ F12 => ?_))))
   refine l_op (f_mv F12 rfl rfl rfl rfl rfl fun _ F13 => ?_)
   refine l_op (f_val F13 rfl rfl (r_len Try.underlying31 rfl (F13.ev 12 rfl)) rfl fun _ F14 => ?_)
   refine l_op (f_val F14 rfl rfl (r_cmp (b := decide (k < a_n)) (.inr (.inr (.inl rfl))) rfl (F14.ev 11 rfl) (F14.ev 13 rfl) (dec_of (by omega))) rfl fun _ F15 => ?_)
   have F16 : Fr 27 [(14, .bool (decide (k < a_n))), (5, .int .i64 ((k : Nat) : Int)), (0, .slice a_a a_n a_c), (1, .slice b_a b_n b_c)] _ := F15.cut rfl
   clear F11 F12 F13 F14 F15
   refine s_end (x_normal (x_cond (p := k < a_n) (F16.ev 14 rfl) (fun h17 => ?_) (fun h17 => ?_)))
   · skip
     refine wp_skip (x_normal (wp_seq (wp_block (wp_seq ?_))))
     obtain ⟨x1, hx1, okx1⟩ := Rd.elem (Rd.mv (Nat.succ_pos _) V_v_a S11) k (by first | assumption | omega)
     obtain ⟨x2, hx2, okx2⟩ := Rd.elem (Rd.mv (Nat.succ_pos _) Q0 S11) k (by first | assumption | omega)
     refine x_draw (fun aZ wZ => Fr 27 [(0, .slice a_a a_n a_c), (1, .slice b_a b_n b_c), (5, .int .i64 ((k : Nat) : Int)), (26, .bool false)] aZ ∧ Mv [] w11 [] wZ) [] mixed S11.at' (listed := #[false, false, false, false, false, false, false, false, false, false]) rfl (fun w19 S19 => ?_) [] rfl ?_
     · skip
       refine g_take F16 rfl (i := 0) (listed' := #[true, false, false, false, false, false, false, false, false, false]) rfl (by kernel_rfl) (by kernel_rfl) (by kernel_rfl) (fun _ _ _ h => h) (Sd.of (Mv.refl S19.at') [] rfl) rfl rfl rfl rfl (fun _ hz => (r_move rfl (F16.ev 0 rfl))) fun _ F20 => ?_
       refine g_take F20 rfl (i := 1) (listed' := #[true, true, false, false, false, false, false, false, false, false]) rfl (by kernel_rfl) (by kernel_rfl) (by kernel_rfl) (fun _ _ _ h => h) (Sd.of (Mv.refl S19.at') [] rfl) rfl rfl rfl rfl (fun _ hz => (r_move rfl (F20.ev 5 rfl))) fun _ F21 => ?_
       obtain ⟨B22, O22, y22, ad22, hy22, oky22, ln22, cl22⟩ := Rd.atK (Nat.succ_pos _) (Rd.mv (Nat.succ_pos _) V_v_a (S11.trans S19)) k (by first | assumption | omega)
       clear ln22
       obtain rfl := Option.some.inj (hx1.symm.trans hy22)
       clear hy22 oky22
       refine g_take F21 rfl (i := 2) (listed' := #[true, true, true, false, false, false, false, false, false, false]) rfl (by kernel_rfl) (by kernel_rfl) (by kernel_rfl) (fun _ _ _ h => h) (Sd.of (Mv.refl S19.at') [] rfl) rfl rfl rfl rfl (fun _ hz => (r_indexAddr (i := k) ET_31 rfl ((F21.ev 17 rfl).trans (by rw [ad22])) (F21.ev 18 rfl) (by omega) (by first | assumption | omega))) fun _ F23 => ?_
       refine g_take (v := .agg #[.int .i64 x1.kind, .string x1.name, .string x1.to_, .int .i64 x1.a, .int .i64 x1.b, .string x1.text]) F23 rfl (i := 3) (listed' := #[true, true, true, true, false, false, false, false, false, false]) rfl (by kernel_rfl) (by kernel_rfl) (by kernel_rfl) (fun _ _ _ h => h) (Sd.of (Mv.refl S19.at') [] rfl) rfl rfl rfl rfl (fun _ hz => (r_load (cs := [.int .i64 x1.kind, .string x1.name, .string x1.to_, .int .i64 x1.a, .int .i64 x1.b, .string x1.text]) TI_56 rfl (F23.ev 19 rfl) rfl (fun h => nomatch h) (elem_sub (f := 0) (cl22 _ hz.kp) [.int .i64 x1.kind, .string x1.name, .string x1.to_, .int .i64 x1.a, .int .i64 x1.b, .string x1.text] rfl))) fun _ F24 => ?_
       refine g_take F24 rfl (i := 4) (listed' := #[true, true, true, true, true, false, false, false, false, false]) rfl (by kernel_rfl) (by kernel_rfl) (by kernel_rfl) (fun _ _ _ h => h) (Sd.of (Mv.refl S19.at') [] rfl) rfl rfl rfl rfl (fun _ hz => (r_move rfl (F24.ev 1 rfl))) fun _ F25 => ?_
       refine g_take F25 rfl (i := 5) (listed' := #[true, true, true, true, true, true, false, false, false, false]) rfl (by kernel_rfl) (by kernel_rfl) (by kernel_rfl) (fun _ _ _ h => h) (Sd.of (Mv.refl S19.at') [] rfl) rfl rfl rfl rfl (fun _ hz => (r_move rfl (F25.ev 5 rfl))) fun _ F26 => ?_
       obtain ⟨B27, O27, y27, ad27, hy27, oky27, ln27, cl27⟩ := Rd.atK (Nat.succ_pos _) (Rd.mv (Nat.succ_pos _) Q0 (S11.trans S19)) k (by first | assumption | omega)
       clear ln27
       obtain rfl := Option.some.inj (hx2.symm.trans hy27)
       clear hy27 oky27
       refine g_take F26 rfl (i := 6) (listed' := #[true, true, true, true, true, true, true, false, false, false]) rfl (by kernel_rfl) (by kernel_rfl) (by kernel_rfl) (fun _ _ _ h => h) (Sd.of (Mv.refl S19.at') [] rfl) rfl rfl rfl rfl (fun _ hz => (r_indexAddr (i := k) ET_31 rfl ((F26.ev 21 rfl).trans (by rw [ad27])) (F26.ev 22 rfl) (by omega) (by first | assumption | omega))) fun _ F28 => ?_
       refine g_take (v := .agg #[.int .i64 x2.kind, .string x2.name, .string x2.to_, .int .i64 x2.a, .int .i64 x2.b, .string x2.text]) F28 rfl (i := 7) (listed' := #[true, true, true, true, true, true, true, true, false, false]) rfl (by kernel_rfl) (by kernel_rfl) (by kernel_rfl) (fun _ _ _ h => h) (Sd.of (Mv.refl S19.at') [] rfl) rfl rfl rfl rfl (fun _ hz => (r_load (cs := [.int .i64 x2.kind, .string x2.name, .string x2.to_, .int .i64 x2.a, .int .i64 x2.b, .string x2.text]) TI_56 rfl (F28.ev 23 rfl) rfl (fun h => nomatch h) (elem_sub (f := 0) (cl27 _ hz.kp) [.int .i64 x2.kind, .string x2.name, .string x2.to_, .int .i64 x2.a, .int .i64 x2.b, .string x2.text] rfl))) fun _ F29 => ?_
       refine d_one (i := 8) (listed' := #[true, true, true, true, true, true, true, true, true, false]) rfl (by kernel_rfl) rfl rfl ?_
       refine f_call F29 CF_50 rfl rfl rfl rfl (lc (F29.ev 20 rfl) (lc (F29.ev 24 rfl) rfl)) (laws_eqCall_c (H := fun _ => True) (a := x1) (b := x2) okx1.1 okx1.2.1 okx1.2.2.1 okx1.2.2.2.1 okx1.2.2.2.2.1 okx1.2.2.2.2.2 okx2.1 okx2.2.1 okx2.2.2.1 okx2.2.2.2.1 okx2.2.2.2.2.1 okx2.2.2.2.2.2 (by exact el_eq p0 hx1 hx2)) ?_
       rintro _ w30 ⟨rfl, m30⟩
       refine ⟨_, rfl, fun _ F31 => ?_⟩
       have S30 := At.frame0 S19.at' m30
       clear m30
       refine ⟨Sd.of S30 [] rfl, ?_⟩
       refine g_take F31 rfl (i := 9) (listed' := #[true, true, true, true, true, true, true, true, true, true]) rfl (by kernel_rfl) (by kernel_rfl) (by kernel_rfl) (fun _ _ _ h => h) (Sd.of S30 [] rfl) rfl rfl rfl rfl (fun _ hz => (r_not rfl (F31.ev 25 rfl))) fun _ F32 => ?_
       refine wpAnyH_done (by kernel_rfl) (x_normal ?_) _
       exact ⟨F32.cut rfl, ((S19.trans S30).pick [] rfl)⟩
     · rintro a33 w33 ⟨F33, S33⟩
       refine x_normal (wp_cond_false (F33.ev 26 rfl) (wp_skip (x_block_normal (x_normal (wp_region_lit (l_op (f_mv F33 rfl rfl rfl rfl rfl fun _ F34 => ?_)))))))
       refine l_op (f_val F34 rfl rfl (r_add (z := ((k + 1 : Nat) : Int)) rfl (F34.ev 15 rfl) rfl (by first | rfl | omega) ⟨by first | omega | (unfold i64ok at *; omega), by first | omega | (unfold i64ok at *; omega)⟩) rfl fun _ F35 => ?_)
       refine l_op (f_as F35 rfl rfl rfl rfl rfl fun _ F36 => ?_)
       have F37 : Fr 27 [(5, .int .i64 ((k + 1 : Nat) : Int)), (0, .slice a_a a_n a_c), (1, .slice b_a b_n b_c)] _ := F36.cut rfl
       clear F33 F34 F35 F36
       refine s_end ?_
       refine x_normal ⟨k + 1, by omega, F37.cut rfl, ((S11.trans S33).pick [] rfl), by omega⟩
   · skip
     refine wp_exit (x_then_exit (x_then_exit (x_block_here (x_normal (wp_seq (wp_region_lit (l_op (f_val F16 rfl rfl (r_assign rfl rfl) rfl fun _ F38 => ?_))))))))
     have F39 : Fr 27 [(4, .bool true)] _ := F38.cut rfl
     clear F16 F38
     refine s_end (x_normal (wp_ret ?_))
     refine x_done (v := .bool true) F39 (results_1 Try.results28 (.tmp (F39.ev 4 rfl))) ?_
     exact ⟨rfl, (Mv.pick S11 [] rfl)⟩
theorem laws_eqAnswerS_c {w : World} {H : Nat → Prop} {a : List AnsD} {a_a : Option Addr} {a_n a_c : Nat} {b : List AnsD} {b_a : Option Addr} {b_n b_c : Nat} (v_a : Rd 3 encR okR H w (.slice a_a a_n a_c) a) (v_b : Rd 3 encR okR H w (.slice b_a b_n b_c) b) (p0 : a = b) :
    Calls Try.prog 29 #[.slice a_a a_n a_c, .slice b_a b_n b_c] w fun e w' => e = .returned (.bool true) ∧ Mv [] w [] w' := by
 have V_v_a : Rd 3 encR okR (V H w []) w (.slice a_a a_n a_c) a := Rd.start v_a (fun _ _ => fps_nil _)
 obtain ⟨ln_a, le_a, mx_a, ni_a⟩ := Rd.inv v_a
 have Q0 : Rd 3 encR okR (V H w []) w (.slice b_a b_n b_c) b := Rd.start v_b (fun _ _ => fps_nil _)
 obtain ⟨ln_b, le_b, mx_b, ni_b⟩ := Rd.inv v_b
 refine calls_enter 27 Try.func29 rfl Try.ntmps29 (Nat.le_of_ble_eq_true rfl) (fun _ F0i => ?_)
 have F0 : Fr 27 [(0, .slice a_a a_n a_c), (1, .slice b_a b_n b_c)] _ := F0i
 clear F0i
 refine wp_seq ?_
 have hab : a_n = b_n := by rw [ln_a, ln_b, p0]
 refine wp_region_lit (l_op (f_val F0 rfl rfl (r_assign rfl rfl) rfl fun _ F1 => ?_))
 have F2 : Fr 27 [(4, .bool false), (0, .slice a_a a_n a_c), (1, .slice b_a b_n b_c)] _ := F1.cut rfl
 clear F0 F1
 refine s_end (x_normal (wp_seq (wp_seq (wp_region_lit (l_op (f_mv F2 rfl rfl rfl rfl rfl fun _ F3 => ?_))))))
 refine l_op (f_val F3 rfl rfl (r_len Try.underlying32 rfl (F3.ev 6 rfl)) rfl fun _ F4 => ?_)
 refine l_op (f_mv F4 rfl rfl rfl rfl rfl fun _ F5 => ?_)
 refine l_op (f_val F5 rfl rfl (r_len Try.underlying32 rfl (F5.ev 8 rfl)) rfl fun _ F6 => ?_)
 refine l_op (f_val F6 rfl rfl (r_cmp (b := decide (a_n ≠ b_n)) (.inr (.inl rfl)) rfl (F6.ev 7 rfl) (F6.ev 9 rfl) (dec_of (by omega))) rfl fun _ F7 => ?_)
 rw [show (decide (a_n ≠ b_n)) = false from decide_eq_false (fun h => h hab)] at F7
 have F8 : Fr 27 [(10, .bool false), (0, .slice a_a a_n a_c), (1, .slice b_a b_n b_c)] _ := F7.cut rfl
 clear F2 F3 F4 F5 F6 F7
 refine s_end (x_normal (wp_cond_false (F8.ev 10 rfl) (wp_skip (x_normal (wp_seq (wp_seq (wp_region_lit (l_op (f_val F8 rfl rfl (r_assign rfl rfl) rfl fun _ F9 => ?_)))))))))
 have F10 : Fr 27 [(5, .int .i64 0), (0, .slice a_a a_n a_c), (1, .slice b_a b_n b_c)] _ := F9.cut rfl
 clear F8 F9
 refine s_end (x_normal (wp_block ?_))
 refine x_loop (fun (k : Nat) aZ wZ => Fr 27 [(5, .int .i64 ((k : Nat) : Int)), (0, .slice a_a a_n a_c), (1, .slice b_a b_n b_c)] aZ ∧ Mv [] w [] wZ ∧ (k ≤ a_n)) (fun (k : Nat) => a_n - k) (0) ?_ ?_
 · exact ⟨F10.cut rfl, (Mv.refl (At.nil w)), by omega⟩
 · rintro k a11 w11 ⟨F11, S11, hk_0⟩
   refine wp_seq (wp_seq (wp_region_lit (l_op (f_mv F11 rfl rfl rfl rfl rfl fun _ F12 => ?_))))
   refine l_op (f_mv F12 rfl rfl rfl rfl rfl fun _ F13 => ?_)
   refine l_op (f_val F13 rfl rfl (r_len Try.underlying32 rfl (F13.ev 12 rfl)) rfl fun _ F14 => ?_)
   refine l_op (f_val F14 rfl rfl (r_cmp (b := decide (k < a_n)) (.inr (.inr (.inl rfl))) rfl (F14.ev 11 rfl) (F14.ev 13 rfl) (dec_of (by omega))) rfl fun _ F15 => ?_)
   have F16 : Fr 27 [(14, .bool (decide (k < a_n))), (5, .int .i64 ((k : Nat) : Int)), (0, .slice a_a a_n a_c), (1, .slice b_a b_n b_c)] _ := F15.cut rfl
   clear F11 F12 F13 F14 F15
   refine s_end (x_normal (x_cond (p := k < a_n) (F16.ev 14 rfl) (fun h17 => ?_) (fun h17 => ?_)))
   · skip
     refine wp_skip (x_normal (wp_seq (wp_block (wp_seq ?_))))
     obtain ⟨x1, hx1, okx1⟩ := Rd.elem (Rd.mv (Nat.succ_pos _) V_v_a S11) k (by first | assumption | omega)
     obtain ⟨x2, hx2, okx2⟩ := Rd.elem (Rd.mv (Nat.succ_pos _) Q0 S11) k (by first | assumption | omega)
     refine x_draw (fun aZ wZ => Fr 27 [(0, .slice a_a a_n a_c), (1, .slice b_a b_n b_c), (5, .int .i64 ((k : Nat) : Int)), (26, .bool false)] aZ ∧ Mv [] w11 [] wZ) [] mixed S11.at' (listed := #[false, false, false, false, false, false, false, false, false, false]) rfl (fun w19 S19 => ?_) [] rfl ?_
     · skip
       refine g_take F16 rfl (i := 0) (listed' := #[true, false, false, false, false, false, false, false, false, false]) rfl (by kernel_rfl) (by kernel_rfl) (by kernel_rfl) (fun _ _ _ h => h) (Sd.of (Mv.refl S19.at') [] rfl) rfl rfl rfl rfl (fun _ hz => (r_move rfl (F16.ev 0 rfl))) fun _ F20 => ?_
       refine g_take F20 rfl (i := 1) (listed' := #[true, true, false, false, false, false, false, false, false, false]) rfl (by kernel_rfl) (by kernel_rfl) (by kernel_rfl) (fun _ _ _ h => h) (Sd.of (Mv.refl S19.at') [] rfl) rfl rfl rfl rfl (fun _ hz => (r_move rfl (F20.ev 5 rfl))) fun _ F21 => ?_
       obtain ⟨B22, O22, y22, ad22, hy22, oky22, ln22, cl22⟩ := Rd.atK (Nat.succ_pos _) (Rd.mv (Nat.succ_pos _) V_v_a (S11.trans S19)) k (by first | assumption | omega)
       clear ln22
       obtain rfl := Option.some.inj (hx1.symm.trans hy22)
       clear hy22 oky22
       refine g_take F21 rfl (i := 2) (listed' := #[true, true, true, false, false, false, false, false, false, false]) rfl (by kernel_rfl) (by kernel_rfl) (by kernel_rfl) (fun _ _ _ h => h) (Sd.of (Mv.refl S19.at') [] rfl) rfl rfl rfl rfl (fun _ hz => (r_indexAddr (i := k) ET_32 rfl ((F21.ev 17 rfl).trans (by rw [ad22])) (F21.ev 18 rfl) (by omega) (by first | assumption | omega))) fun _ F23 => ?_
       refine g_take (v := .agg #[.int .i64 x1.code, .int .i64 x1.n, .string x1.text]) F23 rfl (i := 3) (listed' := #[true, true, true, true, false, false, false, false, false, false]) rfl (by kernel_rfl) (by kernel_rfl) (by kernel_rfl) (fun _ _ _ h => h) (Sd.of (Mv.refl S19.at') [] rfl) rfl rfl rfl rfl (fun _ hz => (r_load (cs := [.int .i64 x1.code, .int .i64 x1.n, .string x1.text]) TI_59 rfl (F23.ev 19 rfl) rfl (fun h => nomatch h) (elem_sub (f := 0) (cl22 _ hz.kp) [.int .i64 x1.code, .int .i64 x1.n, .string x1.text] rfl))) fun _ F24 => ?_
       refine g_take F24 rfl (i := 4) (listed' := #[true, true, true, true, true, false, false, false, false, false]) rfl (by kernel_rfl) (by kernel_rfl) (by kernel_rfl) (fun _ _ _ h => h) (Sd.of (Mv.refl S19.at') [] rfl) rfl rfl rfl rfl (fun _ hz => (r_move rfl (F24.ev 1 rfl))) fun _ F25 => ?_
       refine g_take F25 rfl (i := 5) (listed' := #[true, true, true, true, true, true, false, false, false, false]) rfl (by kernel_rfl) (by kernel_rfl) (by kernel_rfl) (fun _ _ _ h => h) (Sd.of (Mv.refl S19.at') [] rfl) rfl rfl rfl rfl (fun _ hz => (r_move rfl (F25.ev 5 rfl))) fun _ F26 => ?_
       obtain ⟨B27, O27, y27, ad27, hy27, oky27, ln27, cl27⟩ := Rd.atK (Nat.succ_pos _) (Rd.mv (Nat.succ_pos _) Q0 (S11.trans S19)) k (by first | assumption | omega)
       clear ln27
       obtain rfl := Option.some.inj (hx2.symm.trans hy27)
       clear hy27 oky27
       refine g_take F26 rfl (i := 6) (listed' := #[true, true, true, true, true, true, true, false, false, false]) rfl (by kernel_rfl) (by kernel_rfl) (by kernel_rfl) (fun _ _ _ h => h) (Sd.of (Mv.refl S19.at') [] rfl) rfl rfl rfl rfl (fun _ hz => (r_indexAddr (i := k) ET_32 rfl ((F26.ev 21 rfl).trans (by rw [ad27])) (F26.ev 22 rfl) (by omega) (by first | assumption | omega))) fun _ F28 => ?_
       refine g_take (v := .agg #[.int .i64 x2.code, .int .i64 x2.n, .string x2.text]) F28 rfl (i := 7) (listed' := #[true, true, true, true, true, true, true, true, false, false]) rfl (by kernel_rfl) (by kernel_rfl) (by kernel_rfl) (fun _ _ _ h => h) (Sd.of (Mv.refl S19.at') [] rfl) rfl rfl rfl rfl (fun _ hz => (r_load (cs := [.int .i64 x2.code, .int .i64 x2.n, .string x2.text]) TI_59 rfl (F28.ev 23 rfl) rfl (fun h => nomatch h) (elem_sub (f := 0) (cl27 _ hz.kp) [.int .i64 x2.code, .int .i64 x2.n, .string x2.text] rfl))) fun _ F29 => ?_
       refine d_one (i := 8) (listed' := #[true, true, true, true, true, true, true, true, true, false]) rfl (by kernel_rfl) rfl rfl ?_
       refine f_call F29 CF_51 rfl rfl rfl rfl (lc (F29.ev 20 rfl) (lc (F29.ev 24 rfl) rfl)) (laws_eqAnswer_c (H := fun _ => True) (a := x1) (b := x2) okx1.1 okx1.2.1 okx1.2.2 okx2.1 okx2.2.1 okx2.2.2 (by exact el_eq p0 hx1 hx2)) ?_
       rintro _ w30 ⟨rfl, m30⟩
       refine ⟨_, rfl, fun _ F31 => ?_⟩
       have S30 := At.frame0 S19.at' m30
       clear m30
       refine ⟨Sd.of S30 [] rfl, ?_⟩
       refine g_take F31 rfl (i := 9) (listed' := #[true, true, true, true, true, true, true, true, true, true]) rfl (by kernel_rfl) (by kernel_rfl) (by kernel_rfl) (fun _ _ _ h => h) (Sd.of S30 [] rfl) rfl rfl rfl rfl (fun _ hz => (r_not rfl (F31.ev 25 rfl))) fun _ F32 => ?_
       refine wpAnyH_done (by kernel_rfl) (x_normal ?_) _
       exact ⟨F32.cut rfl, ((S19.trans S30).pick [] rfl)⟩
     · rintro a33 w33 ⟨F33, S33⟩
       refine x_normal (wp_cond_false (F33.ev 26 rfl) (wp_skip (x_block_normal (x_normal (wp_region_lit (l_op (f_mv F33 rfl rfl rfl rfl rfl fun _ F34 => ?_)))))))
       refine l_op (f_val F34 rfl rfl (r_add (z := ((k + 1 : Nat) : Int)) rfl (F34.ev 15 rfl) rfl (by first | rfl | omega) ⟨by first | omega | (unfold i64ok at *; omega), by first | omega | (unfold i64ok at *; omega)⟩) rfl fun _ F35 => ?_)
       refine l_op (f_as F35 rfl rfl rfl rfl rfl fun _ F36 => ?_)
       have F37 : Fr 27 [(5, .int .i64 ((k + 1 : Nat) : Int)), (0, .slice a_a a_n a_c), (1, .slice b_a b_n b_c)] _ := F36.cut rfl
       clear F33 F34 F35 F36
       refine s_end ?_
       refine x_normal ⟨k + 1, by omega, F37.cut rfl, ((S11.trans S33).pick [] rfl), by omega⟩
   · skip
     refine wp_exit (x_then_exit (x_then_exit (x_block_here (x_normal (wp_seq (wp_region_lit (l_op (f_val F16 rfl rfl (r_assign rfl rfl) rfl fun _ F38 => ?_))))))))
     have F39 : Fr 27 [(4, .bool true)] _ := F38.cut rfl
     clear F16 F38
     refine s_end (x_normal (wp_ret ?_))
     refine x_done (v := .bool true) F39 (results_1 Try.results29 (.tmp (F39.ev 4 rfl))) ?_
     exact ⟨rfl, (Mv.pick S11 [] rfl)⟩
theorem laws_eqIntS_c {w : World} {H : Nat → Prop} {a : List Int} {a_a : Option Addr} {a_n a_c : Nat} {b : List Int} {b_a : Option Addr} {b_n b_c : Nat} (v_a : Rd 1 encI okI H w (.slice a_a a_n a_c) a) (v_b : Rd 1 encI okI H w (.slice b_a b_n b_c) b) (p0 : a = b) :
    Calls Try.prog 31 #[.slice a_a a_n a_c, .slice b_a b_n b_c] w fun e w' => e = .returned (.bool true) ∧ Mv [] w [] w' := by
 have V_v_a : Rd 1 encI okI (V H w []) w (.slice a_a a_n a_c) a := Rd.start v_a (fun _ _ => fps_nil _)
 obtain ⟨ln_a, le_a, mx_a, ni_a⟩ := Rd.inv v_a
 have Q0 : Rd 1 encI okI (V H w []) w (.slice b_a b_n b_c) b := Rd.start v_b (fun _ _ => fps_nil _)
 obtain ⟨ln_b, le_b, mx_b, ni_b⟩ := Rd.inv v_b
 refine calls_enter 26 Try.func31 rfl Try.ntmps31 (Nat.le_of_ble_eq_true rfl) (fun _ F0i => ?_)
 have F0 : Fr 26 [(0, .slice a_a a_n a_c), (1, .slice b_a b_n b_c)] _ := F0i
 clear F0i
 refine wp_seq ?_
 have hab : a_n = b_n := by rw [ln_a, ln_b, p0]
 refine wp_region_lit (l_op (f_val F0 rfl rfl (r_assign rfl rfl) rfl fun _ F1 => ?_))
 have F2 : Fr 26 [(4, .bool false), (0, .slice a_a a_n a_c), (1, .slice b_a b_n b_c)] _ := F1.cut rfl
 clear F0 F1
 refine s_end (x_normal (wp_seq (wp_seq (wp_region_lit (l_op (f_mv F2 rfl rfl rfl rfl rfl fun _ F3 => ?_))))))
 refine l_op (f_val F3 rfl rfl (r_len Try.underlying27 rfl (F3.ev 6 rfl)) rfl fun _ F4 => ?_)
 refine l_op (f_mv F4 rfl rfl rfl rfl rfl fun _ F5 => ?_)
 refine l_op (f_val F5 rfl rfl (r_len Try.underlying27 rfl (F5.ev 8 rfl)) rfl fun _ F6 => ?_)
 refine l_op (f_val F6 rfl rfl (r_cmp (b := decide (a_n ≠ b_n)) (.inr (.inl rfl)) rfl (F6.ev 7 rfl) (F6.ev 9 rfl) (dec_of (by omega))) rfl fun _ F7 => ?_)
 rw [show (decide (a_n ≠ b_n)) = false from decide_eq_false (fun h => h hab)] at F7
 have F8 : Fr 26 [(10, .bool false), (0, .slice a_a a_n a_c), (1, .slice b_a b_n b_c)] _ := F7.cut rfl
 clear F2 F3 F4 F5 F6 F7
 refine s_end (x_normal (wp_cond_false (F8.ev 10 rfl) (wp_skip (x_normal (wp_seq (wp_seq (wp_region_lit (l_op (f_val F8 rfl rfl (r_assign rfl rfl) rfl fun _ F9 => ?_)))))))))
 have F10 : Fr 26 [(5, .int .i64 0), (0, .slice a_a a_n a_c), (1, .slice b_a b_n b_c)] _ := F9.cut rfl
 clear F8 F9
 refine s_end (x_normal (wp_block ?_))
 refine x_loop (fun (k : Nat) aZ wZ => Fr 26 [(5, .int .i64 ((k : Nat) : Int)), (0, .slice a_a a_n a_c), (1, .slice b_a b_n b_c)] aZ ∧ Mv [] w [] wZ ∧ (k ≤ a_n)) (fun (k : Nat) => a_n - k) (0) ?_ ?_
 · exact ⟨F10.cut rfl, (Mv.refl (At.nil w)), by omega⟩
 · rintro k a11 w11 ⟨F11, S11, hk_0⟩
   refine wp_seq (wp_seq (wp_region_lit (l_op (f_mv F11 rfl rfl rfl rfl rfl fun _ F12 => ?_))))
   refine l_op (f_mv F12 rfl rfl rfl rfl rfl fun _ F13 => ?_)
   refine l_op (f_val F13 rfl rfl (r_len Try.underlying27 rfl (F13.ev 12 rfl)) rfl fun _ F14 => ?_)
   refine l_op (f_val F14 rfl rfl (r_cmp (b := decide (k < a_n)) (.inr (.inr (.inl rfl))) rfl (F14.ev 11 rfl) (F14.ev 13 rfl) (dec_of (by omega))) rfl fun _ F15 => ?_)
   have F16 : Fr 26 [(14, .bool (decide (k < a_n))), (5, .int .i64 ((k : Nat) : Int)), (0, .slice a_a a_n a_c), (1, .slice b_a b_n b_c)] _ := F15.cut rfl
   clear F11 F12 F13 F14 F15
   refine s_end (x_normal (x_cond (p := k < a_n) (F16.ev 14 rfl) (fun h17 => ?_) (fun h17 => ?_)))
   · skip
     refine wp_skip (x_normal (wp_seq (wp_block (wp_seq ?_))))
     obtain ⟨x1, hx1, okx1⟩ := Rd.elem (Rd.mv (Nat.succ_pos _) V_v_a S11) k (by first | assumption | omega)
     obtain ⟨x2, hx2, okx2⟩ := Rd.elem (Rd.mv (Nat.succ_pos _) Q0 S11) k (by first | assumption | omega)
     refine x_draw (fun aZ wZ => Fr 26 [(0, .slice a_a a_n a_c), (1, .slice b_a b_n b_c), (5, .int .i64 ((k : Nat) : Int)), (25, .bool false)] aZ ∧ Mv [] w11 [] wZ) [] mixed S11.at' (listed := #[false, false, false, false, false, false, false, false, false]) rfl (fun w19 S19 => ?_) [] rfl ?_
     · skip
       refine g_take F16 rfl (i := 0) (listed' := #[true, false, false, false, false, false, false, false, false]) rfl (by kernel_rfl) (by kernel_rfl) (by kernel_rfl) (fun _ _ _ h => h) (Sd.of (Mv.refl S19.at') [] rfl) rfl rfl rfl rfl (fun _ hz => (r_move rfl (F16.ev 0 rfl))) fun _ F20 => ?_
       refine g_take F20 rfl (i := 1) (listed' := #[true, true, false, false, false, false, false, false, false]) rfl (by kernel_rfl) (by kernel_rfl) (by kernel_rfl) (fun _ _ _ h => h) (Sd.of (Mv.refl S19.at') [] rfl) rfl rfl rfl rfl (fun _ hz => (r_move rfl (F20.ev 5 rfl))) fun _ F21 => ?_
       obtain ⟨B22, O22, y22, ad22, hy22, oky22, ln22, cl22⟩ := Rd.atK (Nat.succ_pos _) (Rd.mv (Nat.succ_pos _) V_v_a (S11.trans S19)) k (by first | assumption | omega)
       clear ln22
       obtain rfl := Option.some.inj (hx1.symm.trans hy22)
       clear hy22 oky22
       refine g_take F21 rfl (i := 2) (listed' := #[true, true, true, false, false, false, false, false, false]) rfl (by kernel_rfl) (by kernel_rfl) (by kernel_rfl) (fun _ _ _ h => h) (Sd.of (Mv.refl S19.at') [] rfl) rfl rfl rfl rfl (fun _ hz => (r_indexAddr (i := k) ET_27 rfl ((F21.ev 17 rfl).trans (by rw [ad22])) (F21.ev 18 rfl) (by omega) (by first | assumption | omega))) fun _ F23 => ?_
       refine g_take (v := .int .i64 x1) F23 rfl (i := 3) (listed' := #[true, true, true, true, false, false, false, false, false]) rfl (by kernel_rfl) (by kernel_rfl) (by kernel_rfl) (fun _ _ _ h => h) (Sd.of (Mv.refl S19.at') [] rfl) rfl rfl rfl rfl (fun _ hz => (r_load (cs := [.int .i64 x1]) TI_3 rfl (F23.ev 19 rfl) rfl (fun _ => rfl) (elem_sub (f := 0) (cl22 _ hz.kp) [.int .i64 x1] rfl))) fun _ F24 => ?_
       refine g_take F24 rfl (i := 4) (listed' := #[true, true, true, true, true, false, false, false, false]) rfl (by kernel_rfl) (by kernel_rfl) (by kernel_rfl) (fun _ _ _ h => h) (Sd.of (Mv.refl S19.at') [] rfl) rfl rfl rfl rfl (fun _ hz => (r_move rfl (F24.ev 1 rfl))) fun _ F25 => ?_
       refine g_take F25 rfl (i := 5) (listed' := #[true, true, true, true, true, true, false, false, false]) rfl (by kernel_rfl) (by kernel_rfl) (by kernel_rfl) (fun _ _ _ h => h) (Sd.of (Mv.refl S19.at') [] rfl) rfl rfl rfl rfl (fun _ hz => (r_move rfl (F25.ev 5 rfl))) fun _ F26 => ?_
       obtain ⟨B27, O27, y27, ad27, hy27, oky27, ln27, cl27⟩ := Rd.atK (Nat.succ_pos _) (Rd.mv (Nat.succ_pos _) Q0 (S11.trans S19)) k (by first | assumption | omega)
       clear ln27
       obtain rfl := Option.some.inj (hx2.symm.trans hy27)
       clear hy27 oky27
       refine g_take F26 rfl (i := 6) (listed' := #[true, true, true, true, true, true, true, false, false]) rfl (by kernel_rfl) (by kernel_rfl) (by kernel_rfl) (fun _ _ _ h => h) (Sd.of (Mv.refl S19.at') [] rfl) rfl rfl rfl rfl (fun _ hz => (r_indexAddr (i := k) ET_27 rfl ((F26.ev 21 rfl).trans (by rw [ad27])) (F26.ev 22 rfl) (by omega) (by first | assumption | omega))) fun _ F28 => ?_
       refine g_take (v := .int .i64 x2) F28 rfl (i := 7) (listed' := #[true, true, true, true, true, true, true, true, false]) rfl (by kernel_rfl) (by kernel_rfl) (by kernel_rfl) (fun _ _ _ h => h) (Sd.of (Mv.refl S19.at') [] rfl) rfl rfl rfl rfl (fun _ hz => (r_load (cs := [.int .i64 x2]) TI_3 rfl (F28.ev 23 rfl) rfl (fun _ => rfl) (elem_sub (f := 0) (cl27 _ hz.kp) [.int .i64 x2] rfl))) fun _ F29 => ?_
       refine g_take F29 rfl (i := 8) (listed' := #[true, true, true, true, true, true, true, true, true]) rfl (by kernel_rfl) (by kernel_rfl) (by kernel_rfl) (fun _ _ _ h => h) (Sd.of (Mv.refl S19.at') [] rfl) rfl rfl rfl rfl (fun _ hz => (r_cmp (b := decide (x1 ≠ x2)) (.inr (.inl rfl)) rfl (F29.ev 20 rfl) (F29.ev 24 rfl) (dec_of (by omega)))) fun _ F30 => ?_
       rw [show (decide (x1 ≠ x2)) = false from decide_eq_false (fun h => h (el_eq p0 hx1 hx2))] at F30
       refine wpAnyH_done (by kernel_rfl) (x_normal ?_) _
       exact ⟨F30.cut rfl, (S19.pick [] rfl)⟩
     · rintro a31 w31 ⟨F31, S31⟩
       refine x_normal (wp_cond_false (F31.ev 25 rfl) (wp_skip (x_block_normal (x_normal (wp_region_lit (l_op (f_mv F31 rfl rfl rfl rfl rfl fun _ F32 => ?_)))))))
       refine l_op (f_val F32 rfl rfl (r_add (z := ((k + 1 : Nat) : Int)) rfl (F32.ev 15 rfl) rfl (by first | rfl | omega) ⟨by first | omega | (unfold i64ok at *; omega), by first | omega | (unfold i64ok at *; omega)⟩) rfl fun _ F33 => ?_)
       refine l_op (f_as F33 rfl rfl rfl rfl rfl fun _ F34 => ?_)
       have F35 : Fr 26 [(5, .int .i64 ((k + 1 : Nat) : Int)), (0, .slice a_a a_n a_c), (1, .slice b_a b_n b_c)] _ := F34.cut rfl
       clear F31 F32 F33 F34
       refine s_end ?_
       refine x_normal ⟨k + 1, by omega, F35.cut rfl, ((S11.trans S31).pick [] rfl), by omega⟩
   · skip
     refine wp_exit (x_then_exit (x_then_exit (x_block_here (x_normal (wp_seq (wp_region_lit (l_op (f_val F16 rfl rfl (r_assign rfl rfl) rfl fun _ F36 => ?_))))))))
     have F37 : Fr 26 [(4, .bool true)] _ := F36.cut rfl
     clear F16 F36
     refine s_end (x_normal (wp_ret ?_))
     refine x_done (v := .bool true) F37 (results_1 Try.results31 (.tmp (F37.ev 4 rfl))) ?_
     exact ⟨rfl, (Mv.pick S11 [] rfl)⟩
theorem laws_markCallS_c {w : World} {H : Nat → Prop} {a : List CallD} {a_a : Option Addr} {a_n a_c : Nat} {a_v : Nat} {k : Nat} (h_k : i64ok (k : Int)) (p0 : k + 6 * a.length ≤ 4611686018427387904) (hA : At w [ow 56 6 encK okK (.slice a_a a_n a_c) a]) :
    Calls Try.prog 32 #[.slice a_a a_n a_v, .int .i64 ((k : Nat) : Int)] w fun e w' => e = .returned (.int .i64 ((k + 6 * a.length : Nat) : Int)) ∧ Mv [ow 56 6 encK okK (.slice a_a a_n a_c) a] w [ow 56 6 encK okK (.slice a_a a_n a_c) (marksOf markK k a.length)] w' := by
 have uU : True := (fun _ _ _ => trivial) H h_k p0
 clear uU
 obtain ⟨lo0, lp0, lq0⟩ := At.ownInv hA ET_31.hk 0 rfl
 refine calls_enter 58 Try.func32 rfl Try.ntmps32 (Nat.le_of_ble_eq_true rfl) (fun _ F0i => ?_)
 have F0 : Fr 58 [(0, .slice a_a a_n a_v), (1, .int .i64 ((k : Nat) : Int))] _ := F0i
 clear F0i
 refine wp_seq (wp_region_lit (l_op (f_val F0 rfl rfl (r_assign rfl rfl) rfl fun _ F1 => ?_)))
 have F2 : Fr 58 [(4, .int .i64 0), (0, .slice a_a a_n a_v), (1, .int .i64 ((k : Nat) : Int))] _ := F1.cut rfl
 clear F0 F1
 refine s_end (x_normal (wp_seq (wp_seq (wp_region_lit (l_op (f_val F2 rfl rfl (r_assign rfl rfl) rfl fun _ F3 => ?_))))))
 have F4 : Fr 58 [(5, .int .i64 0), (0, .slice a_a a_n a_v), (1, .int .i64 ((k : Nat) : Int))] _ := F3.cut rfl
 clear F2 F3
 refine s_end (x_normal (wp_block ?_))
 refine x_loop (fun (j : Nat) aZ wZ => ∃ (kk : Nat), ∃ (D : List CallD), Fr 58 [(5, .int .i64 ((j : Nat) : Int)), (0, .slice a_a a_n a_v), (1, .int .i64 ((kk : Nat) : Int))] aZ ∧ Mv [ow 56 6 encK okK (.slice a_a a_n a_c) a] w [ow 56 6 encK okK (.slice a_a a_n a_c) D] wZ ∧ (j ≤ a_n) ∧ (kk = k + 6 * j) ∧ (D = upTo markK k j a)) (fun (j : Nat) => a_n - j) (0) ?_ ?_
 · exact ⟨k, a, F4.cut rfl, (Mv.refl hA), by omega, by omega, upTo_start ..⟩
 · rintro j a5 w5 ⟨kk, D, F5, S5, hj_0, hj_1, hj_2⟩
   refine wp_seq (wp_seq (wp_region_lit (l_op (f_mv F5 rfl rfl rfl rfl rfl fun _ F6 => ?_))))
   refine l_op (f_mv F6 rfl rfl rfl rfl rfl fun _ F7 => ?_)
   refine l_op (f_val F7 rfl rfl (r_len Try.underlying31 rfl (F7.ev 7 rfl)) rfl fun _ F8 => ?_)
   refine l_op (f_val F8 rfl rfl (r_cmp (b := decide (j < a_n)) (.inr (.inr (.inl rfl))) rfl (F8.ev 6 rfl) (F8.ev 8 rfl) (dec_of (by omega))) rfl fun _ F9 => ?_)
   have F10 : Fr 58 [(9, .bool (decide (j < a_n))), (5, .int .i64 ((j : Nat) : Int)), (0, .slice a_a a_n a_v), (1, .int .i64 ((kk : Nat) : Int))] _ := F9.cut rfl
   clear F5 F6 F7 F8 F9
   refine s_end (x_normal (x_cond (p := j < a_n) (F10.ev 9 rfl) (fun h11 => ?_) (fun h11 => ?_)))
   · skip
     refine wp_skip (x_normal (wp_seq (wp_block (wp_seq (wp_region_lit (l_op (f_mv F10 rfl rfl rfl rfl rfl fun _ F12 => ?_)))))))
     refine l_op (f_mv F12 rfl rfl rfl rfl rfl fun _ F13 => ?_)
     refine l_op (f_mv F13 rfl rfl rfl rfl rfl fun _ F14 => ?_)
     obtain ⟨B15, x1, ad15, hx1, okx1, cl15⟩ := At.ownAt S5.at' ET_31.hk 0 rfl j (by first | assumption | omega)
     refine l_op (f_val F14 rfl rfl (r_indexAddr (i := j) ET_31 rfl ((F14.ev 12 rfl).trans (by rw [ad15])) (F14.ev 13 rfl) (by omega) (by first | assumption | omega)) rfl fun _ F16 => ?_)
     refine l_op (f_val F16 rfl rfl (r_field FI_56_0 rfl (F16.ev 15 rfl) rfl) rfl fun _ F17 => ?_)
     refine l_op (s_storeElF (off := 0) S5.at' 0 j x1 (⟨((kk : Nat) : Int), x1.name, x1.to_, x1.a, x1.b, x1.text⟩ : CallD) ET_31.hk ET_31.h1 TI_3 rfl ad15 rfl rfl rfl rfl (F17.ev 16 rfl) (F17.ev 14 rfl) rfl (by first | assumption | omega) hx1 rfl (by decide) (⟨(show i64ok ((kk : Nat) : Int) from by first | assumption | exact ⟨by omega, by omega⟩), okx1.2.1, okx1.2.2.1, okx1.2.2.2.1, okx1.2.2.2.2.1, okx1.2.2.2.2.2⟩) fun w18 S18 => ?_)
     obtain ⟨E19, x2, cE19, hx2, ex2⟩ : ∃ (zD : List CallD) (zZ : CallD), zD = D.set j zZ ∧ nth zD j = some zZ ∧ zZ = (⟨((kk : Nat) : Int), x1.name, x1.to_, x1.a, x1.b, x1.text⟩ : CallD) := ⟨_, _, rfl, nth_setSelf hx1, rfl⟩
     have S20 : Mv _ _ [ow 56 6 encK okK (.slice a_a a_n a_c) E19] _ := Mv.cast (Mv.refl S18.at') (by rw [cE19, ex2] <;> rfl)
     have okx2 : okK x2 := by rw [ex2]; exact ⟨(show i64ok ((kk : Nat) : Int) from by first | assumption | exact ⟨by omega, by omega⟩), okx1.2.1, okx1.2.2.1, okx1.2.2.2.1, okx1.2.2.2.2.1, okx1.2.2.2.2.2⟩
     have F21 : Fr 58 [(16, .pointer (some ⟨B15, 0 + j * 6, none⟩)), (14, .int .i64 ((kk : Nat) : Int)), (5, .int .i64 ((j : Nat) : Int)), (0, .slice a_a a_n a_v), (1, .int .i64 ((kk : Nat) : Int))] _ := F17.cut rfl
     clear F10 F12 F13 F14 F16 F17
     have T22 : Mv _ _ [ow 56 6 encK okK (.slice a_a a_n a_c) E19] _ := S20
     refine s_end (x_normal (wp_seq (wp_region_lit (l_op (f_mv F21 rfl rfl rfl rfl rfl fun _ F23 => ?_)))))
     refine l_op (f_val F23 rfl rfl (r_add (z := ((kk + 1 : Nat) : Int)) rfl (F23.ev 17 rfl) rfl (by first | rfl | omega) ⟨by first | omega | (unfold i64ok at *; omega), by first | omega | (unfold i64ok at *; omega)⟩) rfl fun _ F24 => ?_)
     refine l_op (f_as F24 rfl rfl rfl rfl rfl fun _ F25 => ?_)
     have F26 : Fr 58 [(1, .int .i64 ((kk + 1 : Nat) : Int)), (5, .int .i64 ((j : Nat) : Int)), (0, .slice a_a a_n a_v)] _ := F25.cut rfl
     clear F21 F23 F24 F25
     refine s_end (x_normal (wp_seq (wp_region_lit (l_op (f_mv F26 rfl rfl rfl rfl rfl fun _ F27 => ?_)))))
     refine l_op (f_mv F27 rfl rfl rfl rfl rfl fun _ F28 => ?_)
     refine l_op (f_mv F28 rfl rfl rfl rfl rfl fun _ F29 => ?_)
     refine l_op (f_call F29 CF_53 rfl rfl rfl rfl (lc (F29.ev 21 rfl) rfl) (laws_markText_c (H := fun _ => True) (k := kk + 1) ⟨by omega, by first | omega | (unfold i64ok at *; omega)⟩) ?_)
     rintro _ w30 ⟨rfl, m30, Q0⟩
     refine ⟨_, rfl, fun _ F31 => ?_⟩
     have S30 := At.frame0 T22.at' m30
     clear m30
     obtain ⟨B32, y32, ad32, hy32, oky32, cl32⟩ := At.ownAt S30.at' ET_31.hk 0 rfl j (by first | assumption | omega)
     obtain rfl := Option.some.inj (hx2.symm.trans hy32)
     clear hy32 oky32
     refine l_op (f_val F31 rfl rfl (r_indexAddr (i := j) ET_31 rfl ((F31.ev 19 rfl).trans (by rw [ad32])) (F31.ev 20 rfl) (by omega) (by first | assumption | omega)) rfl fun _ F33 => ?_)
     refine l_op (f_val F33 rfl rfl (r_field FI_56_1 rfl (F33.ev 23 rfl) rfl) rfl fun _ F34 => ?_)
     refine l_op (s_storeElF (off := 1) S30.at' 0 j x2 (⟨x2.kind, (markT (kk + 1)), x2.to_, x2.a, x2.b, x2.text⟩ : CallD) ET_31.hk ET_31.h1 TI_9 rfl ad32 rfl rfl rfl rfl (F34.ev 24 rfl) (F34.ev 22 rfl) rfl (by first | assumption | omega) hx2 rfl (by decide) (⟨okx2.1, Q0, okx2.2.2.1, okx2.2.2.2.1, okx2.2.2.2.2.1, okx2.2.2.2.2.2⟩) fun w35 S35 => ?_)
     obtain ⟨E36, x3, cE36, hx3, ex3⟩ : ∃ (zD : List CallD) (zZ : CallD), zD = D.set j zZ ∧ nth zD j = some zZ ∧ zZ = (⟨x2.kind, (markT (kk + 1)), x2.to_, x2.a, x2.b, x2.text⟩ : CallD) := ⟨_, _, rfl, nth_setSelf hx1, rfl⟩
     have S37 : Mv _ _ [ow 56 6 encK okK (.slice a_a a_n a_c) E36] _ := Mv.cast (Mv.refl S35.at') (by rw [cE36, ex3, cE19, List.set_set] <;> rfl)
     have okx3 : okK x3 := by rw [ex3]; exact ⟨okx2.1, Q0, okx2.2.2.1, okx2.2.2.2.1, okx2.2.2.2.2.1, okx2.2.2.2.2.2⟩
     have F38 : Fr 58 [(24, .pointer (some ⟨B32, 0 + j * 6 + 1, none⟩)), (22, .string (markT (kk + 1))), (1, .int .i64 ((kk + 1 : Nat) : Int)), (5, .int .i64 ((j : Nat) : Int)), (0, .slice a_a a_n a_v)] _ := F34.cut rfl
     clear F26 F27 F28 F29 F31 F33 F34
     have T39 : Mv _ _ [ow 56 6 encK okK (.slice a_a a_n a_c) E36] _ := S37
     refine s_end (x_normal (wp_seq (wp_region_lit (l_op (f_mv F38 rfl rfl rfl rfl rfl fun _ F40 => ?_)))))
     refine l_op (f_val F40 rfl rfl (r_add (z := (((kk + 1) + 1 : Nat) : Int)) rfl (F40.ev 25 rfl) rfl (by first | rfl | omega) ⟨by first | omega | (unfold i64ok at *; omega), by first | omega | (unfold i64ok at *; omega)⟩) rfl fun _ F41 => ?_)
     refine l_op (f_as F41 rfl rfl rfl rfl rfl fun _ F42 => ?_)
     have F43 : Fr 58 [(1, .int .i64 (((kk + 1) + 1 : Nat) : Int)), (5, .int .i64 ((j : Nat) : Int)), (0, .slice a_a a_n a_v)] _ := F42.cut rfl
     clear F38 F40 F41 F42
     refine s_end (x_normal (wp_seq (wp_region_lit (l_op (f_mv F43 rfl rfl rfl rfl rfl fun _ F44 => ?_)))))
     refine l_op (f_mv F44 rfl rfl rfl rfl rfl fun _ F45 => ?_)
     refine l_op (f_mv F45 rfl rfl rfl rfl rfl fun _ F46 => ?_)
     refine l_op (f_call F46 CF_53 rfl rfl rfl rfl (lc (F46.ev 29 rfl) rfl) (laws_markText_c (H := fun _ => True) (k := (kk + 1) + 1) ⟨by omega, by first | omega | (unfold i64ok at *; omega)⟩) ?_)
     rintro _ w47 ⟨rfl, m47, Q1⟩
     refine ⟨_, rfl, fun _ F48 => ?_⟩
     have S47 := At.frame0 T39.at' m47
     clear m47
     obtain ⟨B49, y49, ad49, hy49, oky49, cl49⟩ := At.ownAt S47.at' ET_31.hk 0 rfl j (by first | assumption | omega)
     obtain rfl := Option.some.inj (hx3.symm.trans hy49)
     clear hy49 oky49
     refine l_op (f_val F48 rfl rfl (r_indexAddr (i := j) ET_31 rfl ((F48.ev 27 rfl).trans (by rw [ad49])) (F48.ev 28 rfl) (by omega) (by first | assumption | omega)) rfl fun _ F50 => ?_)
     refine l_op (f_val F50 rfl rfl (r_field FI_56_2 rfl (F50.ev 31 rfl) rfl) rfl fun _ F51 => ?_)
     refine l_op (s_storeElF (off := 2) S47.at' 0 j x3 (⟨x3.kind, x3.name, (markT ((kk + 1) + 1)), x3.a, x3.b, x3.text⟩ : CallD) ET_31.hk ET_31.h1 TI_9 rfl ad49 rfl rfl rfl rfl (F51.ev 32 rfl) (F51.ev 30 rfl) rfl (by first | assumption | omega) hx3 rfl (by decide) (⟨okx3.1, okx3.2.1, Q1, okx3.2.2.2.1, okx3.2.2.2.2.1, okx3.2.2.2.2.2⟩) fun w52 S52 => ?_)
     obtain ⟨E53, x4, cE53, hx4, ex4⟩ : ∃ (zD : List CallD) (zZ : CallD), zD = D.set j zZ ∧ nth zD j = some zZ ∧ zZ = (⟨x3.kind, x3.name, (markT ((kk + 1) + 1)), x3.a, x3.b, x3.text⟩ : CallD) := ⟨_, _, rfl, nth_setSelf hx1, rfl⟩
     have S54 : Mv _ _ [ow 56 6 encK okK (.slice a_a a_n a_c) E53] _ := Mv.cast (Mv.refl S52.at') (by rw [cE53, ex4, cE36, List.set_set] <;> rfl)
     have okx4 : okK x4 := by rw [ex4]; exact ⟨okx3.1, okx3.2.1, Q1, okx3.2.2.2.1, okx3.2.2.2.2.1, okx3.2.2.2.2.2⟩
     have F55 : Fr 58 [(32, .pointer (some ⟨B49, 0 + j * 6 + 2, none⟩)), (30, .string (markT ((kk + 1) + 1))), (1, .int .i64 (((kk + 1) + 1 : Nat) : Int)), (5, .int .i64 ((j : Nat) : Int)), (0, .slice a_a a_n a_v)] _ := F51.cut rfl
     clear F43 F44 F45 F46 F48 F50 F51
     have T56 : Mv _ _ [ow 56 6 encK okK (.slice a_a a_n a_c) E53] _ := S54
     refine s_end (x_normal (wp_seq (wp_region_lit (l_op (f_mv F55 rfl rfl rfl rfl rfl fun _ F57 => ?_)))))
     refine l_op (f_val F57 rfl rfl (r_add (z := ((((kk + 1) + 1) + 1 : Nat) : Int)) rfl (F57.ev 33 rfl) rfl (by first | rfl | omega) ⟨by first | omega | (unfold i64ok at *; omega), by first | omega | (unfold i64ok at *; omega)⟩) rfl fun _ F58 => ?_)
     refine l_op (f_as F58 rfl rfl rfl rfl rfl fun _ F59 => ?_)
     have F60 : Fr 58 [(1, .int .i64 ((((kk + 1) + 1) + 1 : Nat) : Int)), (5, .int .i64 ((j : Nat) : Int)), (0, .slice a_a a_n a_v)] _ := F59.cut rfl
     clear F55 F57 F58 F59
     refine s_end (x_normal (wp_seq (wp_region_lit (l_op (f_mv F60 rfl rfl rfl rfl rfl fun _ F61 => ?_)))))
     refine l_op (f_mv F61 rfl rfl rfl rfl rfl fun _ F62 => ?_)
     refine l_op (f_mv F62 rfl rfl rfl rfl rfl fun _ F63 => ?_)
     obtain ⟨B64, y64, ad64, hy64, oky64, cl64⟩ := At.ownAt T56.at' ET_31.hk 0 rfl j (by first | assumption | omega)
     obtain rfl := Option.some.inj (hx4.symm.trans hy64)
     clear hy64 oky64
     refine l_op (f_val F63 rfl rfl (r_indexAddr (i := j) ET_31 rfl ((F63.ev 35 rfl).trans (by rw [ad64])) (F63.ev 36 rfl) (by omega) (by first | assumption | omega)) rfl fun _ F65 => ?_)
     refine l_op (f_val F65 rfl rfl (r_field FI_56_3 rfl (F65.ev 38 rfl) rfl) rfl fun _ F66 => ?_)
     refine l_op (s_storeElF (off := 3) T56.at' 0 j x4 (⟨x4.kind, x4.name, x4.to_, ((((kk + 1) + 1) + 1 : Nat) : Int), x4.b, x4.text⟩ : CallD) ET_31.hk ET_31.h1 TI_3 rfl ad64 rfl rfl rfl rfl (F66.ev 39 rfl) (F66.ev 37 rfl) rfl (by first | assumption | omega) hx4 rfl (by decide) (⟨okx4.1, okx4.2.1, okx4.2.2.1, (show i64ok ((((kk + 1) + 1) + 1 : Nat) : Int) from by first | assumption | exact ⟨by omega, by omega⟩), okx4.2.2.2.2.1, okx4.2.2.2.2.2⟩) fun w67 S67 => ?_)
     obtain ⟨E68, x5, cE68, hx5, ex5⟩ : ∃ (zD : List CallD) (zZ : CallD), zD = D.set j zZ ∧ nth zD j = some zZ ∧ zZ = (⟨x4.kind, x4.name, x4.to_, ((((kk + 1) + 1) + 1 : Nat) : Int), x4.b, x4.text⟩ : CallD) := ⟨_, _, rfl, nth_setSelf hx1, rfl⟩
     have S69 : Mv _ _ [ow 56 6 encK okK (.slice a_a a_n a_c) E68] _ := Mv.cast (Mv.refl S67.at') (by rw [cE68, ex5, cE53, List.set_set] <;> rfl)
     have okx5 : okK x5 := by rw [ex5]; exact ⟨okx4.1, okx4.2.1, okx4.2.2.1, (show i64ok ((((kk + 1) + 1) + 1 : Nat) : Int) from by first | assumption | exact ⟨by omega, by omega⟩), okx4.2.2.2.2.1, okx4.2.2.2.2.2⟩
     have F70 : Fr 58 [(39, .pointer (some ⟨B64, 0 + j * 6 + 3, none⟩)), (37, .int .i64 ((((kk + 1) + 1) + 1 : Nat) : Int)), (1, .int .i64 ((((kk + 1) + 1) + 1 : Nat) : Int)), (5, .int .i64 ((j : Nat) : Int)), (0, .slice a_a a_n a_v)] _ := F66.cut rfl
     clear F60 F61 F62 F63 F65 F66
     have T71 : Mv _ _ [ow 56 6 encK okK (.slice a_a a_n a_c) E68] _ := S69
     refine s_end (x_normal (wp_seq (wp_region_lit (l_op (f_mv F70 rfl rfl rfl rfl rfl fun _ F72 => ?_)))))
     refine l_op (f_val F72 rfl rfl (r_add (z := (((((kk + 1) + 1) + 1) + 1 : Nat) : Int)) rfl (F72.ev 40 rfl) rfl (by first | rfl | omega) ⟨by first | omega | (unfold i64ok at *; omega), by first | omega | (unfold i64ok at *; omega)⟩) rfl fun _ F73 => ?_)
     refine l_op (f_as F73 rfl rfl rfl rfl rfl fun _ F74 => ?_)
     have F75 : Fr 58 [(1, .int .i64 (((((kk + 1) + 1) + 1) + 1 : Nat) : Int)), (5, .int .i64 ((j : Nat) : Int)), (0, .slice a_a a_n a_v)] _ := F74.cut rfl
     clear F70 F72 F73 F74
     refine s_end (x_normal (wp_seq (wp_region_lit (l_op (f_mv F75 rfl rfl rfl rfl rfl fun _ F76 => ?_)))))
     refine l_op (f_mv F76 rfl rfl rfl rfl rfl fun _ F77 => ?_)
     refine l_op (f_mv F77 rfl rfl rfl rfl rfl fun _ F78 => ?_)
     obtain ⟨B79, y79, ad79, hy79, oky79, cl79⟩ := At.ownAt T71.at' ET_31.hk 0 rfl j (by first | assumption | omega)
     obtain rfl := Option.some.inj (hx5.symm.trans hy79)
     clear hy79 oky79
     refine l_op (f_val F78 rfl rfl (r_indexAddr (i := j) ET_31 rfl ((F78.ev 42 rfl).trans (by rw [ad79])) (F78.ev 43 rfl) (by omega) (by first | assumption | omega)) rfl fun _ F80 => ?_)
     refine l_op (f_val F80 rfl rfl (r_field FI_56_4 rfl (F80.ev 45 rfl) rfl) rfl fun _ F81 => ?_)
     refine l_op (s_storeElF (off := 4) T71.at' 0 j x5 (⟨x5.kind, x5.name, x5.to_, x5.a, (((((kk + 1) + 1) + 1) + 1 : Nat) : Int), x5.text⟩ : CallD) ET_31.hk ET_31.h1 TI_3 rfl ad79 rfl rfl rfl rfl (F81.ev 46 rfl) (F81.ev 44 rfl) rfl (by first | assumption | omega) hx5 rfl (by decide) (⟨okx5.1, okx5.2.1, okx5.2.2.1, okx5.2.2.2.1, (show i64ok (((((kk + 1) + 1) + 1) + 1 : Nat) : Int) from by first | assumption | exact ⟨by omega, by omega⟩), okx5.2.2.2.2.2⟩) fun w82 S82 => ?_)
     obtain ⟨E83, x6, cE83, hx6, ex6⟩ : ∃ (zD : List CallD) (zZ : CallD), zD = D.set j zZ ∧ nth zD j = some zZ ∧ zZ = (⟨x5.kind, x5.name, x5.to_, x5.a, (((((kk + 1) + 1) + 1) + 1 : Nat) : Int), x5.text⟩ : CallD) := ⟨_, _, rfl, nth_setSelf hx1, rfl⟩
     have S84 : Mv _ _ [ow 56 6 encK okK (.slice a_a a_n a_c) E83] _ := Mv.cast (Mv.refl S82.at') (by rw [cE83, ex6, cE68, List.set_set] <;> rfl)
     have okx6 : okK x6 := by rw [ex6]; exact ⟨okx5.1, okx5.2.1, okx5.2.2.1, okx5.2.2.2.1, (show i64ok (((((kk + 1) + 1) + 1) + 1 : Nat) : Int) from by first | assumption | exact ⟨by omega, by omega⟩), okx5.2.2.2.2.2⟩
     have F85 : Fr 58 [(46, .pointer (some ⟨B79, 0 + j * 6 + 4, none⟩)), (44, .int .i64 (((((kk + 1) + 1) + 1) + 1 : Nat) : Int)), (1, .int .i64 (((((kk + 1) + 1) + 1) + 1 : Nat) : Int)), (5, .int .i64 ((j : Nat) : Int)), (0, .slice a_a a_n a_v)] _ := F81.cut rfl
     clear F75 F76 F77 F78 F80 F81
     have T86 : Mv _ _ [ow 56 6 encK okK (.slice a_a a_n a_c) E83] _ := S84
     refine s_end (x_normal (wp_seq (wp_region_lit (l_op (f_mv F85 rfl rfl rfl rfl rfl fun _ F87 => ?_)))))
     refine l_op (f_val F87 rfl rfl (r_add (z := ((((((kk + 1) + 1) + 1) + 1) + 1 : Nat) : Int)) rfl (F87.ev 47 rfl) rfl (by first | rfl | omega) ⟨by first | omega | (unfold i64ok at *; omega), by first | omega | (unfold i64ok at *; omega)⟩) rfl fun _ F88 => ?_)
     refine l_op (f_as F88 rfl rfl rfl rfl rfl fun _ F89 => ?_)
     have F90 : Fr 58 [(1, .int .i64 ((((((kk + 1) + 1) + 1) + 1) + 1 : Nat) : Int)), (5, .int .i64 ((j : Nat) : Int)), (0, .slice a_a a_n a_v)] _ := F89.cut rfl
     clear F85 F87 F88 F89
     refine s_end (x_normal (wp_seq (wp_region_lit (l_op (f_mv F90 rfl rfl rfl rfl rfl fun _ F91 => ?_)))))
     refine l_op (f_mv F91 rfl rfl rfl rfl rfl fun _ F92 => ?_)
     refine l_op (f_mv F92 rfl rfl rfl rfl rfl fun _ F93 => ?_)
     refine l_op (f_call F93 CF_53 rfl rfl rfl rfl (lc (F93.ev 51 rfl) rfl) (laws_markText_c (H := fun _ => True) (k := ((((kk + 1) + 1) + 1) + 1) + 1) ⟨by omega, by first | omega | (unfold i64ok at *; omega)⟩) ?_)
     rintro _ w94 ⟨rfl, m94, Q2⟩
     refine ⟨_, rfl, fun _ F95 => ?_⟩
     have S94 := At.frame0 T86.at' m94
     clear m94
     obtain ⟨B96, y96, ad96, hy96, oky96, cl96⟩ := At.ownAt S94.at' ET_31.hk 0 rfl j (by first | assumption | omega)
     obtain rfl := Option.some.inj (hx6.symm.trans hy96)
     clear hy96 oky96
     refine l_op (f_val F95 rfl rfl (r_indexAddr (i := j) ET_31 rfl ((F95.ev 49 rfl).trans (by rw [ad96])) (F95.ev 50 rfl) (by omega) (by first | assumption | omega)) rfl fun _ F97 => ?_)
     refine l_op (f_val F97 rfl rfl (r_field FI_56_5 rfl (F97.ev 53 rfl) rfl) rfl fun _ F98 => ?_)
     refine l_op (s_storeElF (off := 5) S94.at' 0 j x6 (⟨x6.kind, x6.name, x6.to_, x6.a, x6.b, (markT (((((kk + 1) + 1) + 1) + 1) + 1))⟩ : CallD) ET_31.hk ET_31.h1 TI_9 rfl ad96 rfl rfl rfl rfl (F98.ev 54 rfl) (F98.ev 52 rfl) rfl (by first | assumption | omega) hx6 rfl (by decide) (⟨okx6.1, okx6.2.1, okx6.2.2.1, okx6.2.2.2.1, okx6.2.2.2.2.1, Q2⟩) fun w99 S99 => ?_)
     obtain ⟨E100, x7, cE100, hx7, ex7⟩ : ∃ (zD : List CallD) (zZ : CallD), zD = D.set j zZ ∧ nth zD j = some zZ ∧ zZ = (⟨x6.kind, x6.name, x6.to_, x6.a, x6.b, (markT (((((kk + 1) + 1) + 1) + 1) + 1))⟩ : CallD) := ⟨_, _, rfl, nth_setSelf hx1, rfl⟩
     have S101 : Mv _ _ [ow 56 6 encK okK (.slice a_a a_n a_c) E100] _ := Mv.cast (Mv.refl S99.at') (by rw [cE100, ex7, cE83, List.set_set] <;> rfl)
     have okx7 : okK x7 := by rw [ex7]; exact ⟨okx6.1, okx6.2.1, okx6.2.2.1, okx6.2.2.2.1, okx6.2.2.2.2.1, Q2⟩
     have F102 : Fr 58 [(54, .pointer (some ⟨B96, 0 + j * 6 + 5, none⟩)), (52, .string (markT (((((kk + 1) + 1) + 1) + 1) + 1))), (1, .int .i64 ((((((kk + 1) + 1) + 1) + 1) + 1 : Nat) : Int)), (5, .int .i64 ((j : Nat) : Int)), (0, .slice a_a a_n a_v)] _ := F98.cut rfl
     clear F90 F91 F92 F93 F95 F97 F98
     have T103 : Mv _ _ [ow 56 6 encK okK (.slice a_a a_n a_c) E100] _ := S101
     refine s_end (x_normal (wp_region_lit (l_op (f_mv F102 rfl rfl rfl rfl rfl fun _ F104 => ?_))))
     refine l_op (f_val F104 rfl rfl (r_add (z := (((((((kk + 1) + 1) + 1) + 1) + 1) + 1 : Nat) : Int)) rfl (F104.ev 55 rfl) rfl (by first | rfl | omega) ⟨by first | omega | (unfold i64ok at *; omega), by first | omega | (unfold i64ok at *; omega)⟩) rfl fun _ F105 => ?_)
     refine l_op (f_as F105 rfl rfl rfl rfl rfl fun _ F106 => ?_)
     have F107 : Fr 58 [(1, .int .i64 (((((((kk + 1) + 1) + 1) + 1) + 1) + 1 : Nat) : Int)), (5, .int .i64 ((j : Nat) : Int)), (0, .slice a_a a_n a_v)] _ := F106.cut rfl
     clear F102 F104 F105 F106
     refine s_end (x_block_normal (x_normal (wp_region_lit (l_op (f_mv F107 rfl rfl rfl rfl rfl fun _ F108 => ?_)))))
     refine l_op (f_val F108 rfl rfl (r_add (z := ((j + 1 : Nat) : Int)) rfl (F108.ev 10 rfl) rfl (by first | rfl | omega) ⟨by first | omega | (unfold i64ok at *; omega), by first | omega | (unfold i64ok at *; omega)⟩) rfl fun _ F109 => ?_)
     refine l_op (f_as F109 rfl rfl rfl rfl rfl fun _ F110 => ?_)
     have F111 : Fr 58 [(5, .int .i64 ((j + 1 : Nat) : Int)), (1, .int .i64 (((((((kk + 1) + 1) + 1) + 1) + 1) + 1 : Nat) : Int)), (0, .slice a_a a_n a_v)] _ := F110.cut rfl
     clear F107 F108 F109 F110
     refine s_end ?_
     refine x_normal ⟨j + 1, by omega, (((((kk + 1) + 1) + 1) + 1) + 1) + 1, E100, F111.cut rfl, ((S5.trans (S18.trans (T22.trans (S30.trans (S35.trans (T39.trans (S47.trans (S52.trans (T56.trans (S67.trans (T71.trans (S82.trans (T86.trans (S94.trans (S99.trans T103))))))))))))))).pick [0] rfl), by omega, by omega, upTo_stepD (by assumption) hj_2 (by omega) (by subst hj_1; subst_vars; rfl)⟩
   · skip
     refine wp_exit (x_then_exit (x_then_exit (x_block_here (x_normal (wp_seq (wp_region_lit (l_op (f_mv F10 rfl rfl rfl rfl rfl fun _ F112 => ?_))))))))
     refine l_op (f_as F112 rfl rfl rfl rfl rfl fun _ F113 => ?_)
     have F114 : Fr 58 [(4, .int .i64 ((kk : Nat) : Int))] _ := F113.cut rfl
     clear F10 F112 F113
     refine s_end (x_normal (wp_ret ?_))
     refine x_done (v := .int .i64 ((kk : Nat) : Int)) F114 (results_1 Try.results32 (.tmp (F114.ev 4 rfl))) ?_
     exact ⟨(by rw [(show ((kk : Nat) : Int) = ((k + 6 * a.length : Nat) : Int) from by first | omega | rw [hj_2, upTo_end (by omega) (by omega)])]), (Mv.cast (Mv.pick S5 [0] rfl) (by rw [(show D = (marksOf markK k a.length) from by first | omega | rw [hj_2, upTo_end (by omega) (by omega)])]; all_goals rfl))⟩
theorem laws_markAnswerS_c {w : World} {H : Nat → Prop} {a : List AnsD} {a_a : Option Addr} {a_n a_c : Nat} {a_v : Nat} {k : Nat} (h_k : i64ok (k : Int)) (p0 : k + 3 * a.length ≤ 4611686018427387904) (hA : At w [ow 59 3 encR okR (.slice a_a a_n a_c) a]) :
    Calls Try.prog 33 #[.slice a_a a_n a_v, .int .i64 ((k : Nat) : Int)] w fun e w' => e = .returned (.int .i64 ((k + 3 * a.length : Nat) : Int)) ∧ Mv [ow 59 3 encR okR (.slice a_a a_n a_c) a] w [ow 59 3 encR okR (.slice a_a a_n a_c) (marksOf markR k a.length)] w' := by
 have uU : True := (fun _ _ _ => trivial) H h_k p0
 clear uU
 obtain ⟨lo0, lp0, lq0⟩ := At.ownInv hA ET_32.hk 0 rfl
 refine calls_enter 35 Try.func33 rfl Try.ntmps33 (Nat.le_of_ble_eq_true rfl) (fun _ F0i => ?_)
 have F0 : Fr 35 [(0, .slice a_a a_n a_v), (1, .int .i64 ((k : Nat) : Int))] _ := F0i
 clear F0i
 refine wp_seq (wp_region_lit (l_op (f_val F0 rfl rfl (r_assign rfl rfl) rfl fun _ F1 => ?_)))
 have F2 : Fr 35 [(4, .int .i64 0), (0, .slice a_a a_n a_v), (1, .int .i64 ((k : Nat) : Int))] _ := F1.cut rfl
 clear F0 F1
 refine s_end (x_normal (wp_seq (wp_seq (wp_region_lit (l_op (f_val F2 rfl rfl (r_assign rfl rfl) rfl fun _ F3 => ?_))))))
 have F4 : Fr 35 [(5, .int .i64 0), (0, .slice a_a a_n a_v), (1, .int .i64 ((k : Nat) : Int))] _ := F3.cut rfl
 clear F2 F3
 refine s_end (x_normal (wp_block ?_))
 refine x_loop (fun (j : Nat) aZ wZ => ∃ (kk : Nat), ∃ (D : List AnsD), Fr 35 [(5, .int .i64 ((j : Nat) : Int)), (0, .slice a_a a_n a_v), (1, .int .i64 ((kk : Nat) : Int))] aZ ∧ Mv [ow 59 3 encR okR (.slice a_a a_n a_c) a] w [ow 59 3 encR okR (.slice a_a a_n a_c) D] wZ ∧ (j ≤ a_n) ∧ (kk = k + 3 * j) ∧ (D = upTo markR k j a)) (fun (j : Nat) => a_n - j) (0) ?_ ?_
 · exact ⟨k, a, F4.cut rfl, (Mv.refl hA), by omega, by omega, upTo_start ..⟩
 · rintro j a5 w5 ⟨kk, D, F5, S5, hj_0, hj_1, hj_2⟩
   refine wp_seq (wp_seq (wp_region_lit (l_op (f_mv F5 rfl rfl rfl rfl rfl fun _ F6 => ?_))))
   refine l_op (f_mv F6 rfl rfl rfl rfl rfl fun _ F7 => ?_)
   refine l_op (f_val F7 rfl rfl (r_len Try.underlying32 rfl (F7.ev 7 rfl)) rfl fun _ F8 => ?_)
   refine l_op (f_val F8 rfl rfl (r_cmp (b := decide (j < a_n)) (.inr (.inr (.inl rfl))) rfl (F8.ev 6 rfl) (F8.ev 8 rfl) (dec_of (by omega))) rfl fun _ F9 => ?_)
   have F10 : Fr 35 [(9, .bool (decide (j < a_n))), (5, .int .i64 ((j : Nat) : Int)), (0, .slice a_a a_n a_v), (1, .int .i64 ((kk : Nat) : Int))] _ := F9.cut rfl
   clear F5 F6 F7 F8 F9
   refine s_end (x_normal (x_cond (p := j < a_n) (F10.ev 9 rfl) (fun h11 => ?_) (fun h11 => ?_)))
   · skip
     refine wp_skip (x_normal (wp_seq (wp_block (wp_seq (wp_region_lit (l_op (f_mv F10 rfl rfl rfl rfl rfl fun _ F12 => ?_)))))))
     refine l_op (f_mv F12 rfl rfl rfl rfl rfl fun _ F13 => ?_)
     refine l_op (f_mv F13 rfl rfl rfl rfl rfl fun _ F14 => ?_)
     obtain ⟨B15, x1, ad15, hx1, okx1, cl15⟩ := At.ownAt S5.at' ET_32.hk 0 rfl j (by first | assumption | omega)
     refine l_op (f_val F14 rfl rfl (r_indexAddr (i := j) ET_32 rfl ((F14.ev 12 rfl).trans (by rw [ad15])) (F14.ev 13 rfl) (by omega) (by first | assumption | omega)) rfl fun _ F16 => ?_)
     refine l_op (f_val F16 rfl rfl (r_field FI_59_0 rfl (F16.ev 15 rfl) rfl) rfl fun _ F17 => ?_)
     refine l_op (s_storeElF (off := 0) S5.at' 0 j x1 (⟨((kk : Nat) : Int), x1.n, x1.text⟩ : AnsD) ET_32.hk ET_32.h1 TI_3 rfl ad15 rfl rfl rfl rfl (F17.ev 16 rfl) (F17.ev 14 rfl) rfl (by first | assumption | omega) hx1 rfl (by decide) (⟨(show i64ok ((kk : Nat) : Int) from by first | assumption | exact ⟨by omega, by omega⟩), okx1.2.1, okx1.2.2⟩) fun w18 S18 => ?_)
     obtain ⟨E19, x2, cE19, hx2, ex2⟩ : ∃ (zD : List AnsD) (zZ : AnsD), zD = D.set j zZ ∧ nth zD j = some zZ ∧ zZ = (⟨((kk : Nat) : Int), x1.n, x1.text⟩ : AnsD) := ⟨_, _, rfl, nth_setSelf hx1, rfl⟩
     have S20 : Mv _ _ [ow 59 3 encR okR (.slice a_a a_n a_c) E19] _ := Mv.cast (Mv.refl S18.at') (by rw [cE19, ex2] <;> rfl)
     have okx2 : okR x2 := by rw [ex2]; exact ⟨(show i64ok ((kk : Nat) : Int) from by first | assumption | exact ⟨by omega, by omega⟩), okx1.2.1, okx1.2.2⟩
     have F21 : Fr 35 [(16, .pointer (some ⟨B15, 0 + j * 3, none⟩)), (14, .int .i64 ((kk : Nat) : Int)), (5, .int .i64 ((j : Nat) : Int)), (0, .slice a_a a_n a_v), (1, .int .i64 ((kk : Nat) : Int))] _ := F17.cut rfl
     clear F10 F12 F13 F14 F16 F17
     have T22 : Mv _ _ [ow 59 3 encR okR (.slice a_a a_n a_c) E19] _ := S20
     refine s_end (x_normal (wp_seq (wp_region_lit (l_op (f_mv F21 rfl rfl rfl rfl rfl fun _ F23 => ?_)))))
     refine l_op (f_val F23 rfl rfl (r_add (z := ((kk + 1 : Nat) : Int)) rfl (F23.ev 17 rfl) rfl (by first | rfl | omega) ⟨by first | omega | (unfold i64ok at *; omega), by first | omega | (unfold i64ok at *; omega)⟩) rfl fun _ F24 => ?_)
     refine l_op (f_as F24 rfl rfl rfl rfl rfl fun _ F25 => ?_)
     have F26 : Fr 35 [(1, .int .i64 ((kk + 1 : Nat) : Int)), (5, .int .i64 ((j : Nat) : Int)), (0, .slice a_a a_n a_v)] _ := F25.cut rfl
     clear F21 F23 F24 F25
     refine s_end (x_normal (wp_seq (wp_region_lit (l_op (f_mv F26 rfl rfl rfl rfl rfl fun _ F27 => ?_)))))
     refine l_op (f_mv F27 rfl rfl rfl rfl rfl fun _ F28 => ?_)
     refine l_op (f_mv F28 rfl rfl rfl rfl rfl fun _ F29 => ?_)
     obtain ⟨B30, y30, ad30, hy30, oky30, cl30⟩ := At.ownAt T22.at' ET_32.hk 0 rfl j (by first | assumption | omega)
     obtain rfl := Option.some.inj (hx2.symm.trans hy30)
     clear hy30 oky30
     refine l_op (f_val F29 rfl rfl (r_indexAddr (i := j) ET_32 rfl ((F29.ev 19 rfl).trans (by rw [ad30])) (F29.ev 20 rfl) (by omega) (by first | assumption | omega)) rfl fun _ F31 => ?_)
     refine l_op (f_val F31 rfl rfl (r_field FI_59_1 rfl (F31.ev 22 rfl) rfl) rfl fun _ F32 => ?_)
     refine l_op (s_storeElF (off := 1) T22.at' 0 j x2 (⟨x2.code, ((kk + 1 : Nat) : Int), x2.text⟩ : AnsD) ET_32.hk ET_32.h1 TI_3 rfl ad30 rfl rfl rfl rfl (F32.ev 23 rfl) (F32.ev 21 rfl) rfl (by first | assumption | omega) hx2 rfl (by decide) (⟨okx2.1, (show i64ok ((kk + 1 : Nat) : Int) from by first | assumption | exact ⟨by omega, by omega⟩), okx2.2.2⟩) fun w33 S33 => ?_)
     obtain ⟨E34, x3, cE34, hx3, ex3⟩ : ∃ (zD : List AnsD) (zZ : AnsD), zD = D.set j zZ ∧ nth zD j = some zZ ∧ zZ = (⟨x2.code, ((kk + 1 : Nat) : Int), x2.text⟩ : AnsD) := ⟨_, _, rfl, nth_setSelf hx1, rfl⟩
     have S35 : Mv _ _ [ow 59 3 encR okR (.slice a_a a_n a_c) E34] _ := Mv.cast (Mv.refl S33.at') (by rw [cE34, ex3, cE19, List.set_set] <;> rfl)
     have okx3 : okR x3 := by rw [ex3]; exact ⟨okx2.1, (show i64ok ((kk + 1 : Nat) : Int) from by first | assumption | exact ⟨by omega, by omega⟩), okx2.2.2⟩
     have F36 : Fr 35 [(23, .pointer (some ⟨B30, 0 + j * 3 + 1, none⟩)), (21, .int .i64 ((kk + 1 : Nat) : Int)), (1, .int .i64 ((kk + 1 : Nat) : Int)), (5, .int .i64 ((j : Nat) : Int)), (0, .slice a_a a_n a_v)] _ := F32.cut rfl
     clear F26 F27 F28 F29 F31 F32
     have T37 : Mv _ _ [ow 59 3 encR okR (.slice a_a a_n a_c) E34] _ := S35
     refine s_end (x_normal (wp_seq (wp_region_lit (l_op (f_mv F36 rfl rfl rfl rfl rfl fun _ F38 => ?_)))))
     refine l_op (f_val F38 rfl rfl (r_add (z := (((kk + 1) + 1 : Nat) : Int)) rfl (F38.ev 24 rfl) rfl (by first | rfl | omega) ⟨by first | omega | (unfold i64ok at *; omega), by first | omega | (unfold i64ok at *; omega)⟩) rfl fun _ F39 => ?_)
     refine l_op (f_as F39 rfl rfl rfl rfl rfl fun _ F40 => ?_)
     have F41 : Fr 35 [(1, .int .i64 (((kk + 1) + 1 : Nat) : Int)), (5, .int .i64 ((j : Nat) : Int)), (0, .slice a_a a_n a_v)] _ := F40.cut rfl
     clear F36 F38 F39 F40
     refine s_end (x_normal (wp_seq (wp_region_lit (l_op (f_mv F41 rfl rfl rfl rfl rfl fun _ F42 => ?_)))))
     refine l_op (f_mv F42 rfl rfl rfl rfl rfl fun _ F43 => ?_)
     refine l_op (f_mv F43 rfl rfl rfl rfl rfl fun _ F44 => ?_)
     refine l_op (f_call F44 CF_53 rfl rfl rfl rfl (lc (F44.ev 28 rfl) rfl) (laws_markText_c (H := fun _ => True) (k := (kk + 1) + 1) ⟨by omega, by first | omega | (unfold i64ok at *; omega)⟩) ?_)
     rintro _ w45 ⟨rfl, m45, Q0⟩
     refine ⟨_, rfl, fun _ F46 => ?_⟩
     have S45 := At.frame0 T37.at' m45
     clear m45
     obtain ⟨B47, y47, ad47, hy47, oky47, cl47⟩ := At.ownAt S45.at' ET_32.hk 0 rfl j (by first | assumption | omega)
     obtain rfl := Option.some.inj (hx3.symm.trans hy47)
     clear hy47 oky47
     refine l_op (f_val F46 rfl rfl (r_indexAddr (i := j) ET_32 rfl ((F46.ev 26 rfl).trans (by rw [ad47])) (F46.ev 27 rfl) (by omega) (by first | assumption | omega)) rfl fun _ F48 => ?_)
     refine l_op (f_val F48 rfl rfl (r_field FI_59_2 rfl (F48.ev 30 rfl) rfl) rfl fun _ F49 => ?_)
     refine l_op (s_storeElF (off := 2) S45.at' 0 j x3 (⟨x3.code, x3.n, (markT ((kk + 1) + 1))⟩ : AnsD) ET_32.hk ET_32.h1 TI_9 rfl ad47 rfl rfl rfl rfl (F49.ev 31 rfl) (F49.ev 29 rfl) rfl (by first | assumption | omega) hx3 rfl (by decide) (⟨okx3.1, okx3.2.1, Q0⟩) fun w50 S50 => ?_)
     obtain ⟨E51, x4, cE51, hx4, ex4⟩ : ∃ (zD : List AnsD) (zZ : AnsD), zD = D.set j zZ ∧ nth zD j = some zZ ∧ zZ = (⟨x3.code, x3.n, (markT ((kk + 1) + 1))⟩ : AnsD) := ⟨_, _, rfl, nth_setSelf hx1, rfl⟩
     have S52 : Mv _ _ [ow 59 3 encR okR (.slice a_a a_n a_c) E51] _ := Mv.cast (Mv.refl S50.at') (by rw [cE51, ex4, cE34, List.set_set] <;> rfl)
     have okx4 : okR x4 := by rw [ex4]; exact ⟨okx3.1, okx3.2.1, Q0⟩
     have F53 : Fr 35 [(31, .pointer (some ⟨B47, 0 + j * 3 + 2, none⟩)), (29, .string (markT ((kk + 1) + 1))), (1, .int .i64 (((kk + 1) + 1 : Nat) : Int)), (5, .int .i64 ((j : Nat) : Int)), (0, .slice a_a a_n a_v)] _ := F49.cut rfl
     clear F41 F42 F43 F44 F46 F48 F49
     have T54 : Mv _ _ [ow 59 3 encR okR (.slice a_a a_n a_c) E51] _ := S52
     refine s_end (x_normal (wp_region_lit (l_op (f_mv F53 rfl rfl rfl rfl rfl fun _ F55 => ?_))))
     refine l_op (f_val F55 rfl rfl (r_add (z := ((((kk + 1) + 1) + 1 : Nat) : Int)) rfl (F55.ev 32 rfl) rfl (by first | rfl | omega) ⟨by first | omega | (unfold i64ok at *; omega), by first | omega | (unfold i64ok at *; omega)⟩) rfl fun _ F56 => ?_)
     refine l_op (f_as F56 rfl rfl rfl rfl rfl fun _ F57 => ?_)
     have F58 : Fr 35 [(1, .int .i64 ((((kk + 1) + 1) + 1 : Nat) : Int)), (5, .int .i64 ((j : Nat) : Int)), (0, .slice a_a a_n a_v)] _ := F57.cut rfl
     clear F53 F55 F56 F57
     refine s_end (x_block_normal (x_normal (wp_region_lit (l_op (f_mv F58 rfl rfl rfl rfl rfl fun _ F59 => ?_)))))
     refine l_op (f_val F59 rfl rfl (r_add (z := ((j + 1 : Nat) : Int)) rfl (F59.ev 10 rfl) rfl (by first | rfl | omega) ⟨by first | omega | (unfold i64ok at *; omega), by first | omega | (unfold i64ok at *; omega)⟩) rfl fun _ F60 => ?_)
     refine l_op (f_as F60 rfl rfl rfl rfl rfl fun _ F61 => ?_)
     have F62 : Fr 35 [(5, .int .i64 ((j + 1 : Nat) : Int)), (1, .int .i64 ((((kk + 1) + 1) + 1 : Nat) : Int)), (0, .slice a_a a_n a_v)] _ := F61.cut rfl
     clear F58 F59 F60 F61
     refine s_end ?_
     refine x_normal ⟨j + 1, by omega, ((kk + 1) + 1) + 1, E51, F62.cut rfl, ((S5.trans (S18.trans (T22.trans (S33.trans (T37.trans (S45.trans (S50.trans T54))))))).pick [0] rfl), by omega, by omega, upTo_stepD (by assumption) hj_2 (by omega) (by subst hj_1; subst_vars; rfl)⟩
   · skip
     refine wp_exit (x_then_exit (x_then_exit (x_block_here (x_normal (wp_seq (wp_region_lit (l_op (f_mv F10 rfl rfl rfl rfl rfl fun _ F63 => ?_))))))))
     refine l_op (f_as F63 rfl rfl rfl rfl rfl fun _ F64 => ?_)
     have F65 : Fr 35 [(4, .int .i64 ((kk : Nat) : Int))] _ := F64.cut rfl
     clear F10 F63 F64
     refine s_end (x_normal (wp_ret ?_))
     refine x_done (v := .int .i64 ((kk : Nat) : Int)) F65 (results_1 Try.results33 (.tmp (F65.ev 4 rfl))) ?_
     exact ⟨(by rw [(show ((kk : Nat) : Int) = ((k + 3 * a.length : Nat) : Int) from by first | omega | rw [hj_2, upTo_end (by omega) (by omega)])]), (Mv.cast (Mv.pick S5 [0] rfl) (by rw [(show D = (marksOf markR k a.length) from by first | omega | rw [hj_2, upTo_end (by omega) (by omega)])]; all_goals rfl))⟩
theorem laws_markIntS_c {w : World} {H : Nat → Prop} {a : List Int} {a_a : Option Addr} {a_n a_c : Nat} {a_v : Nat} {k : Nat} (h_k : i64ok (k : Int)) (p0 : k + 1 * a.length ≤ 4611686018427387904) (hA : At w [ow 3 1 encI okI (.slice a_a a_n a_c) a]) :
    Calls Try.prog 35 #[.slice a_a a_n a_v, .int .i64 ((k : Nat) : Int)] w fun e w' => e = .returned (.int .i64 ((k + a.length : Nat) : Int)) ∧ Mv [ow 3 1 encI okI (.slice a_a a_n a_c) a] w [ow 3 1 encI okI (.slice a_a a_n a_c) (marksOf markI k a.length)] w' := by
 have uU : True := (fun _ _ _ => trivial) H h_k p0
 clear uU
 obtain ⟨lo0, lp0, lq0⟩ := At.ownInv hA ET_27.hk 0 rfl
 refine calls_enter 19 Try.func35 rfl Try.ntmps35 (Nat.le_of_ble_eq_true rfl) (fun _ F0i => ?_)
 have F0 : Fr 19 [(0, .slice a_a a_n a_v), (1, .int .i64 ((k : Nat) : Int))] _ := F0i
 clear F0i
 refine wp_seq (wp_region_lit (l_op (f_val F0 rfl rfl (r_assign rfl rfl) rfl fun _ F1 => ?_)))
 have F2 : Fr 19 [(4, .int .i64 0), (0, .slice a_a a_n a_v), (1, .int .i64 ((k : Nat) : Int))] _ := F1.cut rfl
 clear F0 F1
 refine s_end (x_normal (wp_seq (wp_seq (wp_region_lit (l_op (f_val F2 rfl rfl (r_assign rfl rfl) rfl fun _ F3 => ?_))))))
 have F4 : Fr 19 [(5, .int .i64 0), (0, .slice a_a a_n a_v), (1, .int .i64 ((k : Nat) : Int))] _ := F3.cut rfl
 clear F2 F3
 refine s_end (x_normal (wp_block ?_))
 refine x_loop (fun (j : Nat) aZ wZ => ∃ (kk : Nat), ∃ (D : List Int), Fr 19 [(5, .int .i64 ((j : Nat) : Int)), (0, .slice a_a a_n a_v), (1, .int .i64 ((kk : Nat) : Int))] aZ ∧ Mv [ow 3 1 encI okI (.slice a_a a_n a_c) a] w [ow 3 1 encI okI (.slice a_a a_n a_c) D] wZ ∧ (j ≤ a_n) ∧ (kk = k + 1 * j) ∧ (D = upTo markI k j a)) (fun (j : Nat) => a_n - j) (0) ?_ ?_
 · exact ⟨k, a, F4.cut rfl, (Mv.refl hA), by omega, by omega, upTo_start ..⟩
 · rintro j a5 w5 ⟨kk, D, F5, S5, hj_0, hj_1, hj_2⟩
   refine wp_seq (wp_seq (wp_region_lit (l_op (f_mv F5 rfl rfl rfl rfl rfl fun _ F6 => ?_))))
   refine l_op (f_mv F6 rfl rfl rfl rfl rfl fun _ F7 => ?_)
   refine l_op (f_val F7 rfl rfl (r_len Try.underlying27 rfl (F7.ev 7 rfl)) rfl fun _ F8 => ?_)
   refine l_op (f_val F8 rfl rfl (r_cmp (b := decide (j < a_n)) (.inr (.inr (.inl rfl))) rfl (F8.ev 6 rfl) (F8.ev 8 rfl) (dec_of (by omega))) rfl fun _ F9 => ?_)
   have F10 : Fr 19 [(9, .bool (decide (j < a_n))), (5, .int .i64 ((j : Nat) : Int)), (0, .slice a_a a_n a_v), (1, .int .i64 ((kk : Nat) : Int))] _ := F9.cut rfl
   clear F5 F6 F7 F8 F9
   refine s_end (x_normal (x_cond (p := j < a_n) (F10.ev 9 rfl) (fun h11 => ?_) (fun h11 => ?_)))
   · skip
     refine wp_skip (x_normal (wp_seq (wp_block (wp_seq (wp_region_lit (l_op (f_mv F10 rfl rfl rfl rfl rfl fun _ F12 => ?_)))))))
     refine l_op (f_mv F12 rfl rfl rfl rfl rfl fun _ F13 => ?_)
     refine l_op (f_mv F13 rfl rfl rfl rfl rfl fun _ F14 => ?_)
     obtain ⟨B15, x1, ad15, hx1, okx1, cl15⟩ := At.ownAt S5.at' ET_27.hk 0 rfl j (by first | assumption | omega)
     refine l_op (f_val F14 rfl rfl (r_indexAddr (i := j) ET_27 rfl ((F14.ev 12 rfl).trans (by rw [ad15])) (F14.ev 13 rfl) (by omega) (by first | assumption | omega)) rfl fun _ F16 => ?_)
     refine l_op (s_storeEl S5.at' 0 j ((kk : Nat) : Int) ET_27.hk ET_27.h1 TI_3 rfl ad15 rfl rfl rfl rfl (F16.ev 15 rfl) (F16.ev 14 rfl) rfl (by first | assumption | omega) ⟨by omega, by omega⟩ fun w17 S17 => ?_)
     have F18 : Fr 19 [(15, .pointer (some ⟨B15, 0 + j * 1, none⟩)), (14, .int .i64 ((kk : Nat) : Int)), (5, .int .i64 ((j : Nat) : Int)), (0, .slice a_a a_n a_v), (1, .int .i64 ((kk : Nat) : Int))] _ := F16.cut rfl
     clear F10 F12 F13 F14 F16
     have T19 : Mv _ _ [ow 3 1 encI okI (.slice a_a a_n a_c) (D.set j ((kk : Nat) : Int))] _ := S17
     refine s_end (x_normal (wp_region_lit (l_op (f_mv F18 rfl rfl rfl rfl rfl fun _ F20 => ?_))))
     refine l_op (f_val F20 rfl rfl (r_add (z := ((kk + 1 : Nat) : Int)) rfl (F20.ev 16 rfl) rfl (by first | rfl | omega) ⟨by first | omega | (unfold i64ok at *; omega), by first | omega | (unfold i64ok at *; omega)⟩) rfl fun _ F21 => ?_)
     refine l_op (f_as F21 rfl rfl rfl rfl rfl fun _ F22 => ?_)
     have F23 : Fr 19 [(1, .int .i64 ((kk + 1 : Nat) : Int)), (5, .int .i64 ((j : Nat) : Int)), (0, .slice a_a a_n a_v)] _ := F22.cut rfl
     clear F18 F20 F21 F22
     refine s_end (x_block_normal (x_normal (wp_region_lit (l_op (f_mv F23 rfl rfl rfl rfl rfl fun _ F24 => ?_)))))
     refine l_op (f_val F24 rfl rfl (r_add (z := ((j + 1 : Nat) : Int)) rfl (F24.ev 10 rfl) rfl (by first | rfl | omega) ⟨by first | omega | (unfold i64ok at *; omega), by first | omega | (unfold i64ok at *; omega)⟩) rfl fun _ F25 => ?_)
     refine l_op (f_as F25 rfl rfl rfl rfl rfl fun _ F26 => ?_)
     have F27 : Fr 19 [(5, .int .i64 ((j + 1 : Nat) : Int)), (1, .int .i64 ((kk + 1 : Nat) : Int)), (0, .slice a_a a_n a_v)] _ := F26.cut rfl
     clear F23 F24 F25 F26
     refine s_end ?_
     refine x_normal ⟨j + 1, by omega, kk + 1, D.set j ((kk : Nat) : Int), F27.cut rfl, ((S5.trans T19).pick [0] rfl), by omega, by omega, by rw [hj_2]; refine upTo_step (by omega) ?_; subst hj_1; unfold markI; omega⟩
   · skip
     refine wp_exit (x_then_exit (x_then_exit (x_block_here (x_normal (wp_seq (wp_region_lit (l_op (f_mv F10 rfl rfl rfl rfl rfl fun _ F28 => ?_))))))))
     refine l_op (f_as F28 rfl rfl rfl rfl rfl fun _ F29 => ?_)
     have F30 : Fr 19 [(4, .int .i64 ((kk : Nat) : Int))] _ := F29.cut rfl
     clear F10 F28 F29
     refine s_end (x_normal (wp_ret ?_))
     refine x_done (v := .int .i64 ((kk : Nat) : Int)) F30 (results_1 Try.results35 (.tmp (F30.ev 4 rfl))) ?_
     exact ⟨(by rw [(show ((kk : Nat) : Int) = ((k + a.length : Nat) : Int) from by first | omega | rw [hj_2, upTo_end (by omega) (by omega)])]), (Mv.cast (Mv.pick S5 [0] rfl) (by rw [(show D = (marksOf markI k a.length) from by first | omega | rw [hj_2, upTo_end (by omega) (by omega)])]; all_goals rfl))⟩
theorem laws_heldCallS_c {w : World} {H : Nat → Prop} {a : List CallD} {a_a : Option Addr} {a_n a_c : Nat} {k : Nat} {n : Nat} (v_a : Rd 6 encK okK H w (.slice a_a a_n a_c) a) (h_k : i64ok (k : Int)) (p0 : a = marksOf markK k n) (p1 : k + 6 * n ≤ 4611686018427387904) :
    Calls Try.prog 36 #[.slice a_a a_n a_c, .int .i64 ((k : Nat) : Int)] w fun e w' => e = .returned (.int .i64 ((k + 6 * n : Nat) : Int)) ∧ Mv [] w [] w' := by
 have uU : True := (fun _ _ => trivial) h_k p1
 clear uU
 have V_v_a : Rd 6 encK okK (V H w []) w (.slice a_a a_n a_c) a := Rd.start v_a (fun _ _ => fps_nil _)
 obtain ⟨ln_a, le_a, mx_a, ni_a⟩ := Rd.inv v_a
 refine calls_enter 70 Try.func36 rfl Try.ntmps36 (Nat.le_of_ble_eq_true rfl) (fun _ F0i => ?_)
 have F0 : Fr 70 [(0, .slice a_a a_n a_c), (1, .int .i64 ((k : Nat) : Int))] _ := F0i
 clear F0i
 refine wp_seq ?_
 have hln : a_n = n := by rw [ln_a, p0, marksOf_length]
 refine wp_region_lit (l_op (f_val F0 rfl rfl (r_assign rfl rfl) rfl fun _ F1 => ?_))
 have F2 : Fr 70 [(4, .int .i64 0), (0, .slice a_a a_n a_c), (1, .int .i64 ((k : Nat) : Int))] _ := F1.cut rfl
 clear F0 F1
 refine s_end (x_normal (wp_seq (wp_seq (wp_region_lit (l_op (f_val F2 rfl rfl (r_assign rfl rfl) rfl fun _ F3 => ?_))))))
 have F4 : Fr 70 [(5, .int .i64 0), (0, .slice a_a a_n a_c), (1, .int .i64 ((k : Nat) : Int))] _ := F3.cut rfl
 clear F2 F3
 refine s_end (x_normal (wp_block ?_))
 refine x_loop (fun (j : Nat) aZ wZ => ∃ (kk : Nat), Fr 70 [(5, .int .i64 ((j : Nat) : Int)), (0, .slice a_a a_n a_c), (1, .int .i64 ((kk : Nat) : Int))] aZ ∧ Mv [] w [] wZ ∧ (j ≤ a_n) ∧ (kk = k + 6 * j)) (fun (j : Nat) => a_n - j) (0) ?_ ?_
 · exact ⟨k, F4.cut rfl, (Mv.refl (At.nil w)), by omega, by omega⟩
 · rintro j a5 w5 ⟨kk, F5, S5, hj_0, hj_1⟩
   refine wp_seq (wp_seq (wp_region_lit (l_op (f_mv F5 rfl rfl rfl rfl rfl fun _ F6 => ?_))))
   refine l_op (f_mv F6 rfl rfl rfl rfl rfl fun _ F7 => ?_)
   refine l_op (f_val F7 rfl rfl (r_len Try.underlying31 rfl (F7.ev 7 rfl)) rfl fun _ F8 => ?_)
   refine l_op (f_val F8 rfl rfl (r_cmp (b := decide (j < a_n)) (.inr (.inr (.inl rfl))) rfl (F8.ev 6 rfl) (F8.ev 8 rfl) (dec_of (by omega))) rfl fun _ F9 => ?_)
   have F10 : Fr 70 [(9, .bool (decide (j < a_n))), (5, .int .i64 ((j : Nat) : Int)), (0, .slice a_a a_n a_c), (1, .int .i64 ((kk : Nat) : Int))] _ := F9.cut rfl
   clear F5 F6 F7 F8 F9
   refine s_end (x_normal (x_cond (p := j < a_n) (F10.ev 9 rfl) (fun h11 => ?_) (fun h11 => ?_)))
   · skip
     refine wp_skip (x_normal (wp_seq (wp_block (wp_seq (wp_seq (wp_region_lit (l_op (f_mv F10 rfl rfl rfl rfl rfl fun _ F12 => ?_))))))))
     refine l_op (f_mv F12 rfl rfl rfl rfl rfl fun _ F13 => ?_)
     obtain ⟨B14, O14, x1, ad14, hx1, okx1, ln14, cl14⟩ := Rd.at (Rd.mv (Nat.succ_pos _) V_v_a S5) j (by first | assumption | omega)
     clear ln14
     refine l_op (f_val F13 rfl rfl (r_indexAddr (i := j) ET_31 rfl ((F13.ev 12 rfl).trans (by rw [ad14])) (F13.ev 13 rfl) (by omega) (by first | assumption | omega)) rfl fun _ F15 => ?_)
     refine l_op (f_val F15 rfl rfl (r_field FI_56_0 rfl (F15.ev 14 rfl) rfl) rfl fun _ F16 => ?_)
     refine l_op (f_val (v := .int .i64 x1.kind) F16 rfl rfl (r_load (cs := [.int .i64 x1.kind]) TI_3 rfl (F16.ev 15 rfl) rfl (fun _ => rfl) (elem_sub (f := 0) cl14 [.int .i64 x1.kind] rfl)) rfl fun _ F17 => ?_)
     refine l_op (f_mv F17 rfl rfl rfl rfl rfl fun _ F18 => ?_)
     refine l_op (f_val F18 rfl rfl (r_cmp (b := decide (x1.kind ≠ ((kk : Nat) : Int))) (.inr (.inl rfl)) rfl (F18.ev 16 rfl) (F18.ev 17 rfl) (dec_of (by omega))) rfl fun _ F19 => ?_)
     rw [show (decide (x1.kind ≠ ((kk : Nat) : Int))) = false from decide_eq_false (fun h => h (by rw [(marksOf_at p0 hx1).1, hj_1]; rfl))] at F19
     have F20 : Fr 70 [(18, .bool false), (5, .int .i64 ((j : Nat) : Int)), (0, .slice a_a a_n a_c), (1, .int .i64 ((kk : Nat) : Int))] _ := F19.cut rfl
     clear F10 F12 F13 F15 F16 F17 F18 F19
     refine s_end (x_normal (wp_cond_false (F20.ev 18 rfl) (wp_skip (x_normal (wp_seq (wp_region_lit (l_op (f_mv F20 rfl rfl rfl rfl rfl fun _ F21 => ?_))))))))
     refine l_op (f_val F21 rfl rfl (r_add (z := ((kk + 1 : Nat) : Int)) rfl (F21.ev 19 rfl) rfl (by first | rfl | omega) ⟨by first | omega | (unfold i64ok at *; omega), by first | omega | (unfold i64ok at *; omega)⟩) rfl fun _ F22 => ?_)
     refine l_op (f_as F22 rfl rfl rfl rfl rfl fun _ F23 => ?_)
     have F24 : Fr 70 [(1, .int .i64 ((kk + 1 : Nat) : Int)), (5, .int .i64 ((j : Nat) : Int)), (0, .slice a_a a_n a_c)] _ := F23.cut rfl
     clear F20 F21 F22 F23
     refine s_end (x_normal (wp_seq (wp_seq ?_)))
     refine x_draw (fun aZ wZ => Fr 70 [(0, .slice a_a a_n a_c), (1, .int .i64 ((kk + 1 : Nat) : Int)), (5, .int .i64 ((j : Nat) : Int)), (28, .bool false)] aZ ∧ Mv [] w5 [] wZ) [] mixed S5.at' (listed := #[false, false, false, false, false, false, false, false]) rfl (fun w26 S26 => ?_) [] rfl ?_
     · skip
       refine g_take F24 rfl (i := 0) (listed' := #[true, false, false, false, false, false, false, false]) rfl (by kernel_rfl) (by kernel_rfl) (by kernel_rfl) (fun _ _ _ h => h) (Sd.of (Mv.refl S26.at') [] rfl) rfl rfl rfl rfl (fun _ hz => (r_move rfl (F24.ev 0 rfl))) fun _ F27 => ?_
       refine g_take F27 rfl (i := 1) (listed' := #[true, true, false, false, false, false, false, false]) rfl (by kernel_rfl) (by kernel_rfl) (by kernel_rfl) (fun _ _ _ h => h) (Sd.of (Mv.refl S26.at') [] rfl) rfl rfl rfl rfl (fun _ hz => (r_move rfl (F27.ev 5 rfl))) fun _ F28 => ?_
       obtain ⟨B29, O29, y29, ad29, hy29, oky29, ln29, cl29⟩ := Rd.atK (Nat.succ_pos _) (Rd.mv (Nat.succ_pos _) V_v_a (S5.trans S26)) j (by first | assumption | omega)
       clear ln29
       obtain rfl := Option.some.inj (hx1.symm.trans hy29)
       clear hy29 oky29
       refine g_take F28 rfl (i := 2) (listed' := #[true, true, true, false, false, false, false, false]) rfl (by kernel_rfl) (by kernel_rfl) (by kernel_rfl) (fun _ _ _ h => h) (Sd.of (Mv.refl S26.at') [] rfl) rfl rfl rfl rfl (fun _ hz => (r_indexAddr (i := j) ET_31 rfl ((F28.ev 21 rfl).trans (by rw [ad29])) (F28.ev 22 rfl) (by omega) (by first | assumption | omega))) fun _ F30 => ?_
       refine g_take F30 rfl (i := 3) (listed' := #[true, true, true, true, false, false, false, false]) rfl (by kernel_rfl) (by kernel_rfl) (by kernel_rfl) (fun _ _ _ h => h) (Sd.of (Mv.refl S26.at') [] rfl) rfl rfl rfl rfl (fun _ hz => (r_field FI_56_1 rfl (F30.ev 23 rfl) rfl)) fun _ F31 => ?_
       refine g_take (v := .string x1.name) F31 rfl (i := 4) (listed' := #[true, true, true, true, true, false, false, false]) rfl (by kernel_rfl) (by kernel_rfl) (by kernel_rfl) (fun _ _ _ h => h) (Sd.of (Mv.refl S26.at') [] rfl) rfl rfl rfl rfl (fun _ hz => (r_load (cs := [.string x1.name]) TI_9 rfl (F31.ev 24 rfl) rfl (fun _ => rfl) (elem_sub (f := 1) (cl29 _ hz.kp) [.string x1.name] rfl))) fun _ F32 => ?_
       refine g_take F32 rfl (i := 5) (listed' := #[true, true, true, true, true, true, false, false]) rfl (by kernel_rfl) (by kernel_rfl) (by kernel_rfl) (fun _ _ _ h => h) (Sd.of (Mv.refl S26.at') [] rfl) rfl rfl rfl rfl (fun _ hz => (r_move rfl (F32.ev 1 rfl))) fun _ F33 => ?_
       refine d_one (i := 6) (listed' := #[true, true, true, true, true, true, true, false]) rfl (by kernel_rfl) rfl rfl ?_
       refine f_call F33 CF_53 rfl rfl rfl rfl (lc (F33.ev 26 rfl) rfl) (laws_markText_c (H := fun _ => True) (k := kk + 1) ⟨by omega, by first | omega | (unfold i64ok at *; omega)⟩) ?_
       rintro _ w34 ⟨rfl, m34, Q0⟩
       refine ⟨_, rfl, fun _ F35 => ?_⟩
       have S34 := At.frame0 S26.at' m34
       clear m34
       refine ⟨Sd.of S34 [] rfl, ?_⟩
       refine g_take F35 rfl (i := 7) (listed' := #[true, true, true, true, true, true, true, true]) rfl (by kernel_rfl) (by kernel_rfl) (by kernel_rfl) (fun _ _ _ h => h) (Sd.of S34 [] rfl) rfl rfl rfl rfl (fun _ hz => (r_cmps (b := (decide (x1.name ≠ (markT (kk + 1))))) (.inr (.inl rfl)) rfl (F35.ev 25 rfl) (F35.ev 27 rfl) rfl)) fun _ F36 => ?_
       rw [show (decide (x1.name ≠ (markT (kk + 1)))) = false from decide_eq_false (fun h => h (by rw [(marksOf_at p0 hx1).1, hj_1]; rfl))] at F36
       refine wpAnyH_done (by kernel_rfl) (x_normal ?_) _
       exact ⟨F36.cut rfl, ((S26.trans S34).pick [] rfl)⟩
     · rintro a37 w37 ⟨F37, S37⟩
       refine x_normal (wp_cond_false (F37.ev 28 rfl) (wp_skip (x_normal (wp_seq (wp_region_lit (l_op (f_mv F37 rfl rfl rfl rfl rfl fun _ F38 => ?_)))))))
       refine l_op (f_val F38 rfl rfl (r_add (z := (((kk + 1) + 1 : Nat) : Int)) rfl (F38.ev 29 rfl) rfl (by first | rfl | omega) ⟨by first | omega | (unfold i64ok at *; omega), by first | omega | (unfold i64ok at *; omega)⟩) rfl fun _ F39 => ?_)
       refine l_op (f_as F39 rfl rfl rfl rfl rfl fun _ F40 => ?_)
       have F41 : Fr 70 [(1, .int .i64 (((kk + 1) + 1 : Nat) : Int)), (0, .slice a_a a_n a_c), (5, .int .i64 ((j : Nat) : Int))] _ := F40.cut rfl
       clear F37 F38 F39 F40
       refine s_end (x_normal (wp_seq (wp_seq ?_)))
       refine x_draw (fun aZ wZ => Fr 70 [(0, .slice a_a a_n a_c), (1, .int .i64 (((kk + 1) + 1 : Nat) : Int)), (5, .int .i64 ((j : Nat) : Int)), (38, .bool false)] aZ ∧ Mv [] w37 [] wZ) [] mixed S37.at' (listed := #[false, false, false, false, false, false, false, false]) rfl (fun w43 S43 => ?_) [] rfl ?_
       · skip
         refine g_take F41 rfl (i := 0) (listed' := #[true, false, false, false, false, false, false, false]) rfl (by kernel_rfl) (by kernel_rfl) (by kernel_rfl) (fun _ _ _ h => h) (Sd.of (Mv.refl S43.at') [] rfl) rfl rfl rfl rfl (fun _ hz => (r_move rfl (F41.ev 0 rfl))) fun _ F44 => ?_
         refine g_take F44 rfl (i := 1) (listed' := #[true, true, false, false, false, false, false, false]) rfl (by kernel_rfl) (by kernel_rfl) (by kernel_rfl) (fun _ _ _ h => h) (Sd.of (Mv.refl S43.at') [] rfl) rfl rfl rfl rfl (fun _ hz => (r_move rfl (F44.ev 5 rfl))) fun _ F45 => ?_
         obtain ⟨B46, O46, y46, ad46, hy46, oky46, ln46, cl46⟩ := Rd.atK (Nat.succ_pos _) (Rd.mv (Nat.succ_pos _) V_v_a (S5.trans (S37.trans S43))) j (by first | assumption | omega)
         clear ln46
         obtain rfl := Option.some.inj (hx1.symm.trans hy46)
         clear hy46 oky46
         refine g_take F45 rfl (i := 2) (listed' := #[true, true, true, false, false, false, false, false]) rfl (by kernel_rfl) (by kernel_rfl) (by kernel_rfl) (fun _ _ _ h => h) (Sd.of (Mv.refl S43.at') [] rfl) rfl rfl rfl rfl (fun _ hz => (r_indexAddr (i := j) ET_31 rfl ((F45.ev 31 rfl).trans (by rw [ad46])) (F45.ev 32 rfl) (by omega) (by first | assumption | omega))) fun _ F47 => ?_
         refine g_take F47 rfl (i := 3) (listed' := #[true, true, true, true, false, false, false, false]) rfl (by kernel_rfl) (by kernel_rfl) (by kernel_rfl) (fun _ _ _ h => h) (Sd.of (Mv.refl S43.at') [] rfl) rfl rfl rfl rfl (fun _ hz => (r_field FI_56_2 rfl (F47.ev 33 rfl) rfl)) fun _ F48 => ?_
         refine g_take (v := .string x1.to_) F48 rfl (i := 4) (listed' := #[true, true, true, true, true, false, false, false]) rfl (by kernel_rfl) (by kernel_rfl) (by kernel_rfl) (fun _ _ _ h => h) (Sd.of (Mv.refl S43.at') [] rfl) rfl rfl rfl rfl (fun _ hz => (r_load (cs := [.string x1.to_]) TI_9 rfl (F48.ev 34 rfl) rfl (fun _ => rfl) (elem_sub (f := 2) (cl46 _ hz.kp) [.string x1.to_] rfl))) fun _ F49 => ?_
         refine g_take F49 rfl (i := 5) (listed' := #[true, true, true, true, true, true, false, false]) rfl (by kernel_rfl) (by kernel_rfl) (by kernel_rfl) (fun _ _ _ h => h) (Sd.of (Mv.refl S43.at') [] rfl) rfl rfl rfl rfl (fun _ hz => (r_move rfl (F49.ev 1 rfl))) fun _ F50 => ?_
         refine d_one (i := 6) (listed' := #[true, true, true, true, true, true, true, false]) rfl (by kernel_rfl) rfl rfl ?_
         refine f_call F50 CF_53 rfl rfl rfl rfl (lc (F50.ev 36 rfl) rfl) (laws_markText_c (H := fun _ => True) (k := (kk + 1) + 1) ⟨by omega, by first | omega | (unfold i64ok at *; omega)⟩) ?_
         rintro _ w51 ⟨rfl, m51, Q1⟩
         refine ⟨_, rfl, fun _ F52 => ?_⟩
         have S51 := At.frame0 S43.at' m51
         clear m51
         refine ⟨Sd.of S51 [] rfl, ?_⟩
         refine g_take F52 rfl (i := 7) (listed' := #[true, true, true, true, true, true, true, true]) rfl (by kernel_rfl) (by kernel_rfl) (by kernel_rfl) (fun _ _ _ h => h) (Sd.of S51 [] rfl) rfl rfl rfl rfl (fun _ hz => (r_cmps (b := (decide (x1.to_ ≠ (markT ((kk + 1) + 1))))) (.inr (.inl rfl)) rfl (F52.ev 35 rfl) (F52.ev 37 rfl) rfl)) fun _ F53 => ?_
         rw [show (decide (x1.to_ ≠ (markT ((kk + 1) + 1)))) = false from decide_eq_false (fun h => h (by rw [(marksOf_at p0 hx1).1, hj_1]; rfl))] at F53
         refine wpAnyH_done (by kernel_rfl) (x_normal ?_) _
         exact ⟨F53.cut rfl, ((S43.trans S51).pick [] rfl)⟩
       · rintro a54 w54 ⟨F54, S54⟩
         refine x_normal (wp_cond_false (F54.ev 38 rfl) (wp_skip (x_normal (wp_seq (wp_region_lit (l_op (f_mv F54 rfl rfl rfl rfl rfl fun _ F55 => ?_)))))))
         refine l_op (f_val F55 rfl rfl (r_add (z := ((((kk + 1) + 1) + 1 : Nat) : Int)) rfl (F55.ev 39 rfl) rfl (by first | rfl | omega) ⟨by first | omega | (unfold i64ok at *; omega), by first | omega | (unfold i64ok at *; omega)⟩) rfl fun _ F56 => ?_)
         refine l_op (f_as F56 rfl rfl rfl rfl rfl fun _ F57 => ?_)
         have F58 : Fr 70 [(1, .int .i64 ((((kk + 1) + 1) + 1 : Nat) : Int)), (0, .slice a_a a_n a_c), (5, .int .i64 ((j : Nat) : Int))] _ := F57.cut rfl
         clear F54 F55 F56 F57
         refine s_end (x_normal (wp_seq (wp_seq (wp_region_lit (l_op (f_mv F58 rfl rfl rfl rfl rfl fun _ F59 => ?_))))))
         refine l_op (f_mv F59 rfl rfl rfl rfl rfl fun _ F60 => ?_)
         obtain ⟨B61, O61, y61, ad61, hy61, oky61, ln61, cl61⟩ := Rd.at (Rd.mv (Nat.succ_pos _) V_v_a (S5.trans (S37.trans S54))) j (by first | assumption | omega)
         clear ln61
         obtain rfl := Option.some.inj (hx1.symm.trans hy61)
         clear hy61 oky61
         refine l_op (f_val F60 rfl rfl (r_indexAddr (i := j) ET_31 rfl ((F60.ev 41 rfl).trans (by rw [ad61])) (F60.ev 42 rfl) (by omega) (by first | assumption | omega)) rfl fun _ F62 => ?_)
         refine l_op (f_val F62 rfl rfl (r_field FI_56_3 rfl (F62.ev 43 rfl) rfl) rfl fun _ F63 => ?_)
         refine l_op (f_val (v := .int .i64 x1.a) F63 rfl rfl (r_load (cs := [.int .i64 x1.a]) TI_3 rfl (F63.ev 44 rfl) rfl (fun _ => rfl) (elem_sub (f := 3) cl61 [.int .i64 x1.a] rfl)) rfl fun _ F64 => ?_)
         refine l_op (f_mv F64 rfl rfl rfl rfl rfl fun _ F65 => ?_)
         refine l_op (f_val F65 rfl rfl (r_cmp (b := decide (x1.a ≠ ((((kk + 1) + 1) + 1 : Nat) : Int))) (.inr (.inl rfl)) rfl (F65.ev 45 rfl) (F65.ev 46 rfl) (dec_of (by omega))) rfl fun _ F66 => ?_)
         rw [show (decide (x1.a ≠ ((((kk + 1) + 1) + 1 : Nat) : Int))) = false from decide_eq_false (fun h => h (by rw [(marksOf_at p0 hx1).1, hj_1]; rfl))] at F66
         have F67 : Fr 70 [(47, .bool false), (1, .int .i64 ((((kk + 1) + 1) + 1 : Nat) : Int)), (0, .slice a_a a_n a_c), (5, .int .i64 ((j : Nat) : Int))] _ := F66.cut rfl
         clear F58 F59 F60 F62 F63 F64 F65 F66
         refine s_end (x_normal (wp_cond_false (F67.ev 47 rfl) (wp_skip (x_normal (wp_seq (wp_region_lit (l_op (f_mv F67 rfl rfl rfl rfl rfl fun _ F68 => ?_))))))))
         refine l_op (f_val F68 rfl rfl (r_add (z := (((((kk + 1) + 1) + 1) + 1 : Nat) : Int)) rfl (F68.ev 48 rfl) rfl (by first | rfl | omega) ⟨by first | omega | (unfold i64ok at *; omega), by first | omega | (unfold i64ok at *; omega)⟩) rfl fun _ F69 => ?_)
         refine l_op (f_as F69 rfl rfl rfl rfl rfl fun _ F70 => ?_)
         have F71 : Fr 70 [(1, .int .i64 (((((kk + 1) + 1) + 1) + 1 : Nat) : Int)), (0, .slice a_a a_n a_c), (5, .int .i64 ((j : Nat) : Int))] _ := F70.cut rfl
         clear F67 F68 F69 F70
         refine s_end (x_normal (wp_seq (wp_seq (wp_region_lit (l_op (f_mv F71 rfl rfl rfl rfl rfl fun _ F72 => ?_))))))
         refine l_op (f_mv F72 rfl rfl rfl rfl rfl fun _ F73 => ?_)
         obtain ⟨B74, O74, y74, ad74, hy74, oky74, ln74, cl74⟩ := Rd.at (Rd.mv (Nat.succ_pos _) V_v_a (S5.trans (S37.trans S54))) j (by first | assumption | omega)
         clear ln74
         obtain rfl := Option.some.inj (hx1.symm.trans hy74)
         clear hy74 oky74
         refine l_op (f_val F73 rfl rfl (r_indexAddr (i := j) ET_31 rfl ((F73.ev 50 rfl).trans (by rw [ad74])) (F73.ev 51 rfl) (by omega) (by first | assumption | omega)) rfl fun _ F75 => ?_)
         refine l_op (f_val F75 rfl rfl (r_field FI_56_4 rfl (F75.ev 52 rfl) rfl) rfl fun _ F76 => ?_)
         refine l_op (f_val (v := .int .i64 x1.b) F76 rfl rfl (r_load (cs := [.int .i64 x1.b]) TI_3 rfl (F76.ev 53 rfl) rfl (fun _ => rfl) (elem_sub (f := 4) cl74 [.int .i64 x1.b] rfl)) rfl fun _ F77 => ?_)
         refine l_op (f_mv F77 rfl rfl rfl rfl rfl fun _ F78 => ?_)
         refine l_op (f_val F78 rfl rfl (r_cmp (b := decide (x1.b ≠ (((((kk + 1) + 1) + 1) + 1 : Nat) : Int))) (.inr (.inl rfl)) rfl (F78.ev 54 rfl) (F78.ev 55 rfl) (dec_of (by omega))) rfl fun _ F79 => ?_)
         rw [show (decide (x1.b ≠ (((((kk + 1) + 1) + 1) + 1 : Nat) : Int))) = false from decide_eq_false (fun h => h (by rw [(marksOf_at p0 hx1).1, hj_1]; rfl))] at F79
         have F80 : Fr 70 [(56, .bool false), (1, .int .i64 (((((kk + 1) + 1) + 1) + 1 : Nat) : Int)), (0, .slice a_a a_n a_c), (5, .int .i64 ((j : Nat) : Int))] _ := F79.cut rfl
         clear F71 F72 F73 F75 F76 F77 F78 F79
         refine s_end (x_normal (wp_cond_false (F80.ev 56 rfl) (wp_skip (x_normal (wp_seq (wp_region_lit (l_op (f_mv F80 rfl rfl rfl rfl rfl fun _ F81 => ?_))))))))
         refine l_op (f_val F81 rfl rfl (r_add (z := ((((((kk + 1) + 1) + 1) + 1) + 1 : Nat) : Int)) rfl (F81.ev 57 rfl) rfl (by first | rfl | omega) ⟨by first | omega | (unfold i64ok at *; omega), by first | omega | (unfold i64ok at *; omega)⟩) rfl fun _ F82 => ?_)
         refine l_op (f_as F82 rfl rfl rfl rfl rfl fun _ F83 => ?_)
         have F84 : Fr 70 [(1, .int .i64 ((((((kk + 1) + 1) + 1) + 1) + 1 : Nat) : Int)), (0, .slice a_a a_n a_c), (5, .int .i64 ((j : Nat) : Int))] _ := F83.cut rfl
         clear F80 F81 F82 F83
         refine s_end (x_normal (wp_seq (wp_seq ?_)))
         refine x_draw (fun aZ wZ => Fr 70 [(0, .slice a_a a_n a_c), (1, .int .i64 ((((((kk + 1) + 1) + 1) + 1) + 1 : Nat) : Int)), (5, .int .i64 ((j : Nat) : Int)), (66, .bool false)] aZ ∧ Mv [] w54 [] wZ) [] mixed S54.at' (listed := #[false, false, false, false, false, false, false, false]) rfl (fun w86 S86 => ?_) [] rfl ?_
         · skip
           refine g_take F84 rfl (i := 0) (listed' := #[true, false, false, false, false, false, false, false]) rfl (by kernel_rfl) (by kernel_rfl) (by kernel_rfl) (fun _ _ _ h => h) (Sd.of (Mv.refl S86.at') [] rfl) rfl rfl rfl rfl (fun _ hz => (r_move rfl (F84.ev 0 rfl))) fun _ F87 => ?_
           refine g_take F87 rfl (i := 1) (listed' := #[true, true, false, false, false, false, false, false]) rfl (by kernel_rfl) (by kernel_rfl) (by kernel_rfl) (fun _ _ _ h => h) (Sd.of (Mv.refl S86.at') [] rfl) rfl rfl rfl rfl (fun _ hz => (r_move rfl (F87.ev 5 rfl))) fun _ F88 => ?_
           obtain ⟨B89, O89, y89, ad89, hy89, oky89, ln89, cl89⟩ := Rd.atK (Nat.succ_pos _) (Rd.mv (Nat.succ_pos _) V_v_a (S5.trans (S37.trans (S54.trans S86)))) j (by first | assumption | omega)
           clear ln89
           obtain rfl := Option.some.inj (hx1.symm.trans hy89)
           clear hy89 oky89
           refine g_take F88 rfl (i := 2) (listed' := #[true, true, true, false, false, false, false, false]) rfl (by kernel_rfl) (by kernel_rfl) (by kernel_rfl) (fun _ _ _ h => h) (Sd.of (Mv.refl S86.at') [] rfl) rfl rfl rfl rfl (fun _ hz => (r_indexAddr (i := j) ET_31 rfl ((F88.ev 59 rfl).trans (by rw [ad89])) (F88.ev 60 rfl) (by omega) (by first | assumption | omega))) fun _ F90 => ?_
           refine g_take F90 rfl (i := 3) (listed' := #[true, true, true, true, false, false, false, false]) rfl (by kernel_rfl) (by kernel_rfl) (by kernel_rfl) (fun _ _ _ h => h) (Sd.of (Mv.refl S86.at') [] rfl) rfl rfl rfl rfl (fun _ hz => (r_field FI_56_5 rfl (F90.ev 61 rfl) rfl)) fun _ F91 => ?_
           refine g_take (v := .string x1.text) F91 rfl (i := 4) (listed' := #[true, true, true, true, true, false, false, false]) rfl (by kernel_rfl) (by kernel_rfl) (by kernel_rfl) (fun _ _ _ h => h) (Sd.of (Mv.refl S86.at') [] rfl) rfl rfl rfl rfl (fun _ hz => (r_load (cs := [.string x1.text]) TI_9 rfl (F91.ev 62 rfl) rfl (fun _ => rfl) (elem_sub (f := 5) (cl89 _ hz.kp) [.string x1.text] rfl))) fun _ F92 => ?_
           refine g_take F92 rfl (i := 5) (listed' := #[true, true, true, true, true, true, false, false]) rfl (by kernel_rfl) (by kernel_rfl) (by kernel_rfl) (fun _ _ _ h => h) (Sd.of (Mv.refl S86.at') [] rfl) rfl rfl rfl rfl (fun _ hz => (r_move rfl (F92.ev 1 rfl))) fun _ F93 => ?_
           refine d_one (i := 6) (listed' := #[true, true, true, true, true, true, true, false]) rfl (by kernel_rfl) rfl rfl ?_
           refine f_call F93 CF_53 rfl rfl rfl rfl (lc (F93.ev 64 rfl) rfl) (laws_markText_c (H := fun _ => True) (k := ((((kk + 1) + 1) + 1) + 1) + 1) ⟨by omega, by first | omega | (unfold i64ok at *; omega)⟩) ?_
           rintro _ w94 ⟨rfl, m94, Q2⟩
           refine ⟨_, rfl, fun _ F95 => ?_⟩
           have S94 := At.frame0 S86.at' m94
           clear m94
           refine ⟨Sd.of S94 [] rfl, ?_⟩
           refine g_take F95 rfl (i := 7) (listed' := #[true, true, true, true, true, true, true, true]) rfl (by kernel_rfl) (by kernel_rfl) (by kernel_rfl) (fun _ _ _ h => h) (Sd.of S94 [] rfl) rfl rfl rfl rfl (fun _ hz => (r_cmps (b := (decide (x1.text ≠ (markT (((((kk + 1) + 1) + 1) + 1) + 1))))) (.inr (.inl rfl)) rfl (F95.ev 63 rfl) (F95.ev 65 rfl) rfl)) fun _ F96 => ?_
           rw [show (decide (x1.text ≠ (markT (((((kk + 1) + 1) + 1) + 1) + 1)))) = false from decide_eq_false (fun h => h (by rw [(marksOf_at p0 hx1).1, hj_1]; rfl))] at F96
           refine wpAnyH_done (by kernel_rfl) (x_normal ?_) _
           exact ⟨F96.cut rfl, ((S86.trans S94).pick [] rfl)⟩
         · rintro a97 w97 ⟨F97, S97⟩
           refine x_normal (wp_cond_false (F97.ev 66 rfl) (wp_skip (x_normal (wp_region_lit (l_op (f_mv F97 rfl rfl rfl rfl rfl fun _ F98 => ?_))))))
           refine l_op (f_val F98 rfl rfl (r_add (z := (((((((kk + 1) + 1) + 1) + 1) + 1) + 1 : Nat) : Int)) rfl (F98.ev 67 rfl) rfl (by first | rfl | omega) ⟨by first | omega | (unfold i64ok at *; omega), by first | omega | (unfold i64ok at *; omega)⟩) rfl fun _ F99 => ?_)
           refine l_op (f_as F99 rfl rfl rfl rfl rfl fun _ F100 => ?_)
           have F101 : Fr 70 [(1, .int .i64 (((((((kk + 1) + 1) + 1) + 1) + 1) + 1 : Nat) : Int)), (0, .slice a_a a_n a_c), (5, .int .i64 ((j : Nat) : Int))] _ := F100.cut rfl
           clear F97 F98 F99 F100
           refine s_end (x_block_normal (x_normal (wp_region_lit (l_op (f_mv F101 rfl rfl rfl rfl rfl fun _ F102 => ?_)))))
           refine l_op (f_val F102 rfl rfl (r_add (z := ((j + 1 : Nat) : Int)) rfl (F102.ev 10 rfl) rfl (by first | rfl | omega) ⟨by first | omega | (unfold i64ok at *; omega), by first | omega | (unfold i64ok at *; omega)⟩) rfl fun _ F103 => ?_)
           refine l_op (f_as F103 rfl rfl rfl rfl rfl fun _ F104 => ?_)
           have F105 : Fr 70 [(5, .int .i64 ((j + 1 : Nat) : Int)), (1, .int .i64 (((((((kk + 1) + 1) + 1) + 1) + 1) + 1 : Nat) : Int)), (0, .slice a_a a_n a_c)] _ := F104.cut rfl
           clear F101 F102 F103 F104
           refine s_end ?_
           refine x_normal ⟨j + 1, by omega, (((((kk + 1) + 1) + 1) + 1) + 1) + 1, F105.cut rfl, ((S5.trans (S37.trans (S54.trans S97))).pick [] rfl), by omega, by omega⟩
   · skip
     refine wp_exit (x_then_exit (x_then_exit (x_block_here (x_normal (wp_seq (wp_region_lit (l_op (f_mv F10 rfl rfl rfl rfl rfl fun _ F106 => ?_))))))))
     refine l_op (f_as F106 rfl rfl rfl rfl rfl fun _ F107 => ?_)
     have F108 : Fr 70 [(4, .int .i64 ((kk : Nat) : Int))] _ := F107.cut rfl
     clear F10 F106 F107
     refine s_end (x_normal (wp_ret ?_))
     refine x_done (v := .int .i64 ((kk : Nat) : Int)) F108 (results_1 Try.results36 (.tmp (F108.ev 4 rfl))) ?_
     exact ⟨(by rw [(show ((kk : Nat) : Int) = ((k + 6 * n : Nat) : Int) from by omega)]), (Mv.pick S5 [] rfl)⟩
theorem laws_heldAnswerS_c {w : World} {H : Nat → Prop} {a : List AnsD} {a_a : Option Addr} {a_n a_c : Nat} {k : Nat} {n : Nat} (v_a : Rd 3 encR okR H w (.slice a_a a_n a_c) a) (h_k : i64ok (k : Int)) (p0 : a = marksOf markR k n) (p1 : k + 3 * n ≤ 4611686018427387904) :
    Calls Try.prog 37 #[.slice a_a a_n a_c, .int .i64 ((k : Nat) : Int)] w fun e w' => e = .returned (.int .i64 ((k + 3 * n : Nat) : Int)) ∧ Mv [] w [] w' := by
 have uU : True := (fun _ _ => trivial) h_k p1
 clear uU
 have V_v_a : Rd 3 encR okR (V H w []) w (.slice a_a a_n a_c) a := Rd.start v_a (fun _ _ => fps_nil _)
 obtain ⟨ln_a, le_a, mx_a, ni_a⟩ := Rd.inv v_a
 refine calls_enter 41 Try.func37 rfl Try.ntmps37 (Nat.le_of_ble_eq_true rfl) (fun _ F0i => ?_)
 have F0 : Fr 41 [(0, .slice a_a a_n a_c), (1, .int .i64 ((k : Nat) : Int))] _ := F0i
 clear F0i
 refine wp_seq ?_
 have hln : a_n = n := by rw [ln_a, p0, marksOf_length]
 refine wp_region_lit (l_op (f_val F0 rfl rfl (r_assign rfl rfl) rfl fun _ F1 => ?_))
 have F2 : Fr 41 [(4, .int .i64 0), (0, .slice a_a a_n a_c), (1, .int .i64 ((k : Nat) : Int))] _ := F1.cut rfl
 clear F0 F1
 refine s_end (x_normal (wp_seq (wp_seq (wp_region_lit (l_op (f_val F2 rfl rfl (r_assign rfl rfl) rfl fun _ F3 => ?_))))))
 have F4 : Fr 41 [(5, .int .i64 0), (0, .slice a_a a_n a_c), (1, .int .i64 ((k : Nat) : Int))] _ := F3.cut rfl
 clear F2 F3
 refine s_end (x_normal (wp_block ?_))
 refine x_loop (fun (j : Nat) aZ wZ => ∃ (kk : Nat), Fr 41 [(5, .int .i64 ((j : Nat) : Int)), (0, .slice a_a a_n a_c), (1, .int .i64 ((kk : Nat) : Int))] aZ ∧ Mv [] w [] wZ ∧ (j ≤ a_n) ∧ (kk = k + 3 * j)) (fun (j : Nat) => a_n - j) (0) ?_ ?_
 · exact ⟨k, F4.cut rfl, (Mv.refl (At.nil w)), by omega, by omega⟩
 · rintro j a5 w5 ⟨kk, F5, S5, hj_0, hj_1⟩
   refine wp_seq (wp_seq (wp_region_lit (l_op (f_mv F5 rfl rfl rfl rfl rfl fun _ F6 => ?_))))
   refine l_op (f_mv F6 rfl rfl rfl rfl rfl fun _ F7 => ?_)
   refine l_op (f_val F7 rfl rfl (r_len Try.underlying32 rfl (F7.ev 7 rfl)) rfl fun _ F8 => ?_)
   refine l_op (f_val F8 rfl rfl (r_cmp (b := decide (j < a_n)) (.inr (.inr (.inl rfl))) rfl (F8.ev 6 rfl) (F8.ev 8 rfl) (dec_of (by omega))) rfl fun _ F9 => ?_)
   have F10 : Fr 41 [(9, .bool (decide (j < a_n))), (5, .int .i64 ((j : Nat) : Int)), (0, .slice a_a a_n a_c), (1, .int .i64 ((kk : Nat) : Int))] _ := F9.cut rfl
   clear F5 F6 F7 F8 F9
   refine s_end (x_normal (x_cond (p := j < a_n) (F10.ev 9 rfl) (fun h11 => ?_) (fun h11 => ?_)))
   · skip
     refine wp_skip (x_normal (wp_seq (wp_block (wp_seq (wp_seq (wp_region_lit (l_op (f_mv F10 rfl rfl rfl rfl rfl fun _ F12 => ?_))))))))
     refine l_op (f_mv F12 rfl rfl rfl rfl rfl fun _ F13 => ?_)
     obtain ⟨B14, O14, x1, ad14, hx1, okx1, ln14, cl14⟩ := Rd.at (Rd.mv (Nat.succ_pos _) V_v_a S5) j (by first | assumption | omega)
     clear ln14
     refine l_op (f_val F13 rfl rfl (r_indexAddr (i := j) ET_32 rfl ((F13.ev 12 rfl).trans (by rw [ad14])) (F13.ev 13 rfl) (by omega) (by first | assumption | omega)) rfl fun _ F15 => ?_)
     refine l_op (f_val F15 rfl rfl (r_field FI_59_0 rfl (F15.ev 14 rfl) rfl) rfl fun _ F16 => ?_)
     refine l_op (f_val (v := .int .i64 x1.code) F16 rfl rfl (r_load (cs := [.int .i64 x1.code]) TI_3 rfl (F16.ev 15 rfl) rfl (fun _ => rfl) (elem_sub (f := 0) cl14 [.int .i64 x1.code] rfl)) rfl fun _ F17 => ?_)
     refine l_op (f_mv F17 rfl rfl rfl rfl rfl fun _ F18 => ?_)
     refine l_op (f_val F18 rfl rfl (r_cmp (b := decide (x1.code ≠ ((kk : Nat) : Int))) (.inr (.inl rfl)) rfl (F18.ev 16 rfl) (F18.ev 17 rfl) (dec_of (by omega))) rfl fun _ F19 => ?_)
     rw [show (decide (x1.code ≠ ((kk : Nat) : Int))) = false from decide_eq_false (fun h => h (by rw [(marksOf_at p0 hx1).1, hj_1]; rfl))] at F19
     have F20 : Fr 41 [(18, .bool false), (5, .int .i64 ((j : Nat) : Int)), (0, .slice a_a a_n a_c), (1, .int .i64 ((kk : Nat) : Int))] _ := F19.cut rfl
     clear F10 F12 F13 F15 F16 F17 F18 F19
     refine s_end (x_normal (wp_cond_false (F20.ev 18 rfl) (wp_skip (x_normal (wp_seq (wp_region_lit (l_op (f_mv F20 rfl rfl rfl rfl rfl fun _ F21 => ?_))))))))
     refine l_op (f_val F21 rfl rfl (r_add (z := ((kk + 1 : Nat) : Int)) rfl (F21.ev 19 rfl) rfl (by first | rfl | omega) ⟨by first | omega | (unfold i64ok at *; omega), by first | omega | (unfold i64ok at *; omega)⟩) rfl fun _ F22 => ?_)
     refine l_op (f_as F22 rfl rfl rfl rfl rfl fun _ F23 => ?_)
     have F24 : Fr 41 [(1, .int .i64 ((kk + 1 : Nat) : Int)), (5, .int .i64 ((j : Nat) : Int)), (0, .slice a_a a_n a_c)] _ := F23.cut rfl
     clear F20 F21 F22 F23
     refine s_end (x_normal (wp_seq (wp_seq (wp_region_lit (l_op (f_mv F24 rfl rfl rfl rfl rfl fun _ F25 => ?_))))))
     refine l_op (f_mv F25 rfl rfl rfl rfl rfl fun _ F26 => ?_)
     obtain ⟨B27, O27, y27, ad27, hy27, oky27, ln27, cl27⟩ := Rd.at (Rd.mv (Nat.succ_pos _) V_v_a S5) j (by first | assumption | omega)
     clear ln27
     obtain rfl := Option.some.inj (hx1.symm.trans hy27)
     clear hy27 oky27
     refine l_op (f_val F26 rfl rfl (r_indexAddr (i := j) ET_32 rfl ((F26.ev 21 rfl).trans (by rw [ad27])) (F26.ev 22 rfl) (by omega) (by first | assumption | omega)) rfl fun _ F28 => ?_)
     refine l_op (f_val F28 rfl rfl (r_field FI_59_1 rfl (F28.ev 23 rfl) rfl) rfl fun _ F29 => ?_)
     refine l_op (f_val (v := .int .i64 x1.n) F29 rfl rfl (r_load (cs := [.int .i64 x1.n]) TI_3 rfl (F29.ev 24 rfl) rfl (fun _ => rfl) (elem_sub (f := 1) cl27 [.int .i64 x1.n] rfl)) rfl fun _ F30 => ?_)
     refine l_op (f_mv F30 rfl rfl rfl rfl rfl fun _ F31 => ?_)
     refine l_op (f_val F31 rfl rfl (r_cmp (b := decide (x1.n ≠ ((kk + 1 : Nat) : Int))) (.inr (.inl rfl)) rfl (F31.ev 25 rfl) (F31.ev 26 rfl) (dec_of (by omega))) rfl fun _ F32 => ?_)
     rw [show (decide (x1.n ≠ ((kk + 1 : Nat) : Int))) = false from decide_eq_false (fun h => h (by rw [(marksOf_at p0 hx1).1, hj_1]; rfl))] at F32
     have F33 : Fr 41 [(27, .bool false), (1, .int .i64 ((kk + 1 : Nat) : Int)), (5, .int .i64 ((j : Nat) : Int)), (0, .slice a_a a_n a_c)] _ := F32.cut rfl
     clear F24 F25 F26 F28 F29 F30 F31 F32
     refine s_end (x_normal (wp_cond_false (F33.ev 27 rfl) (wp_skip (x_normal (wp_seq (wp_region_lit (l_op (f_mv F33 rfl rfl rfl rfl rfl fun _ F34 => ?_))))))))
     refine l_op (f_val F34 rfl rfl (r_add (z := (((kk + 1) + 1 : Nat) : Int)) rfl (F34.ev 28 rfl) rfl (by first | rfl | omega) ⟨by first | omega | (unfold i64ok at *; omega), by first | omega | (unfold i64ok at *; omega)⟩) rfl fun _ F35 => ?_)
     refine l_op (f_as F35 rfl rfl rfl rfl rfl fun _ F36 => ?_)
     have F37 : Fr 41 [(1, .int .i64 (((kk + 1) + 1 : Nat) : Int)), (5, .int .i64 ((j : Nat) : Int)), (0, .slice a_a a_n a_c)] _ := F36.cut rfl
     clear F33 F34 F35 F36
     refine s_end (x_normal (wp_seq (wp_seq ?_)))
     refine x_draw (fun aZ wZ => Fr 41 [(0, .slice a_a a_n a_c), (1, .int .i64 (((kk + 1) + 1 : Nat) : Int)), (5, .int .i64 ((j : Nat) : Int)), (37, .bool false)] aZ ∧ Mv [] w5 [] wZ) [] mixed S5.at' (listed := #[false, false, false, false, false, false, false, false]) rfl (fun w39 S39 => ?_) [] rfl ?_
     · skip
       refine g_take F37 rfl (i := 0) (listed' := #[true, false, false, false, false, false, false, false]) rfl (by kernel_rfl) (by kernel_rfl) (by kernel_rfl) (fun _ _ _ h => h) (Sd.of (Mv.refl S39.at') [] rfl) rfl rfl rfl rfl (fun _ hz => (r_move rfl (F37.ev 0 rfl))) fun _ F40 => ?_
       refine g_take F40 rfl (i := 1) (listed' := #[true, true, false, false, false, false, false, false]) rfl (by kernel_rfl) (by kernel_rfl) (by kernel_rfl) (fun _ _ _ h => h) (Sd.of (Mv.refl S39.at') [] rfl) rfl rfl rfl rfl (fun _ hz => (r_move rfl (F40.ev 5 rfl))) fun _ F41 => ?_
       obtain ⟨B42, O42, y42, ad42, hy42, oky42, ln42, cl42⟩ := Rd.atK (Nat.succ_pos _) (Rd.mv (Nat.succ_pos _) V_v_a (S5.trans S39)) j (by first | assumption | omega)
       clear ln42
       obtain rfl := Option.some.inj (hx1.symm.trans hy42)
       clear hy42 oky42
       refine g_take F41 rfl (i := 2) (listed' := #[true, true, true, false, false, false, false, false]) rfl (by kernel_rfl) (by kernel_rfl) (by kernel_rfl) (fun _ _ _ h => h) (Sd.of (Mv.refl S39.at') [] rfl) rfl rfl rfl rfl (fun _ hz => (r_indexAddr (i := j) ET_32 rfl ((F41.ev 30 rfl).trans (by rw [ad42])) (F41.ev 31 rfl) (by omega) (by first | assumption | omega))) fun _ F43 => ?_
       refine g_take F43 rfl (i := 3) (listed' := #[true, true, true, true, false, false, false, false]) rfl (by kernel_rfl) (by kernel_rfl) (by kernel_rfl) (fun _ _ _ h => h) (Sd.of (Mv.refl S39.at') [] rfl) rfl rfl rfl rfl (fun _ hz => (r_field FI_59_2 rfl (F43.ev 32 rfl) rfl)) fun _ F44 => ?_
       refine g_take (v := .string x1.text) F44 rfl (i := 4) (listed' := #[true, true, true, true, true, false, false, false]) rfl (by kernel_rfl) (by kernel_rfl) (by kernel_rfl) (fun _ _ _ h => h) (Sd.of (Mv.refl S39.at') [] rfl) rfl rfl rfl rfl (fun _ hz => (r_load (cs := [.string x1.text]) TI_9 rfl (F44.ev 33 rfl) rfl (fun _ => rfl) (elem_sub (f := 2) (cl42 _ hz.kp) [.string x1.text] rfl))) fun _ F45 => ?_
       refine g_take F45 rfl (i := 5) (listed' := #[true, true, true, true, true, true, false, false]) rfl (by kernel_rfl) (by kernel_rfl) (by kernel_rfl) (fun _ _ _ h => h) (Sd.of (Mv.refl S39.at') [] rfl) rfl rfl rfl rfl (fun _ hz => (r_move rfl (F45.ev 1 rfl))) fun _ F46 => ?_
       refine d_one (i := 6) (listed' := #[true, true, true, true, true, true, true, false]) rfl (by kernel_rfl) rfl rfl ?_
       refine f_call F46 CF_53 rfl rfl rfl rfl (lc (F46.ev 35 rfl) rfl) (laws_markText_c (H := fun _ => True) (k := (kk + 1) + 1) ⟨by omega, by first | omega | (unfold i64ok at *; omega)⟩) ?_
       rintro _ w47 ⟨rfl, m47, Q0⟩
       refine ⟨_, rfl, fun _ F48 => ?_⟩
       have S47 := At.frame0 S39.at' m47
       clear m47
       refine ⟨Sd.of S47 [] rfl, ?_⟩
       refine g_take F48 rfl (i := 7) (listed' := #[true, true, true, true, true, true, true, true]) rfl (by kernel_rfl) (by kernel_rfl) (by kernel_rfl) (fun _ _ _ h => h) (Sd.of S47 [] rfl) rfl rfl rfl rfl (fun _ hz => (r_cmps (b := (decide (x1.text ≠ (markT ((kk + 1) + 1))))) (.inr (.inl rfl)) rfl (F48.ev 34 rfl) (F48.ev 36 rfl) rfl)) fun _ F49 => ?_
       rw [show (decide (x1.text ≠ (markT ((kk + 1) + 1)))) = false from decide_eq_false (fun h => h (by rw [(marksOf_at p0 hx1).1, hj_1]; rfl))] at F49
       refine wpAnyH_done (by kernel_rfl) (x_normal ?_) _
       exact ⟨F49.cut rfl, ((S39.trans S47).pick [] rfl)⟩
     · rintro a50 w50 ⟨F50, S50⟩
       refine x_normal (wp_cond_false (F50.ev 37 rfl) (wp_skip (x_normal (wp_region_lit (l_op (f_mv F50 rfl rfl rfl rfl rfl fun _ F51 => ?_))))))
       refine l_op (f_val F51 rfl rfl (r_add (z := ((((kk + 1) + 1) + 1 : Nat) : Int)) rfl (F51.ev 38 rfl) rfl (by first | rfl | omega) ⟨by first | omega | (unfold i64ok at *; omega), by first | omega | (unfold i64ok at *; omega)⟩) rfl fun _ F52 => ?_)
       refine l_op (f_as F52 rfl rfl rfl rfl rfl fun _ F53 => ?_)
       have F54 : Fr 41 [(1, .int .i64 ((((kk + 1) + 1) + 1 : Nat) : Int)), (0, .slice a_a a_n a_c), (5, .int .i64 ((j : Nat) : Int))] _ := F53.cut rfl
       clear F50 F51 F52 F53
       refine s_end (x_block_normal (x_normal (wp_region_lit (l_op (f_mv F54 rfl rfl rfl rfl rfl fun _ F55 => ?_)))))
       refine l_op (f_val F55 rfl rfl (r_add (z := ((j + 1 : Nat) : Int)) rfl (F55.ev 10 rfl) rfl (by first | rfl | omega) ⟨by first | omega | (unfold i64ok at *; omega), by first | omega | (unfold i64ok at *; omega)⟩) rfl fun _ F56 => ?_)
       refine l_op (f_as F56 rfl rfl rfl rfl rfl fun _ F57 => ?_)
       have F58 : Fr 41 [(5, .int .i64 ((j + 1 : Nat) : Int)), (1, .int .i64 ((((kk + 1) + 1) + 1 : Nat) : Int)), (0, .slice a_a a_n a_c)] _ := F57.cut rfl
       clear F54 F55 F56 F57
       refine s_end ?_
       refine x_normal ⟨j + 1, by omega, ((kk + 1) + 1) + 1, F58.cut rfl, ((S5.trans S50).pick [] rfl), by omega, by omega⟩
   · skip
     refine wp_exit (x_then_exit (x_then_exit (x_block_here (x_normal (wp_seq (wp_region_lit (l_op (f_mv F10 rfl rfl rfl rfl rfl fun _ F59 => ?_))))))))
     refine l_op (f_as F59 rfl rfl rfl rfl rfl fun _ F60 => ?_)
     have F61 : Fr 41 [(4, .int .i64 ((kk : Nat) : Int))] _ := F60.cut rfl
     clear F10 F59 F60
     refine s_end (x_normal (wp_ret ?_))
     refine x_done (v := .int .i64 ((kk : Nat) : Int)) F61 (results_1 Try.results37 (.tmp (F61.ev 4 rfl))) ?_
     exact ⟨(by rw [(show ((kk : Nat) : Int) = ((k + 3 * n : Nat) : Int) from by omega)]), (Mv.pick S5 [] rfl)⟩
theorem laws_heldIntS_c {w : World} {H : Nat → Prop} {a : List Int} {a_a : Option Addr} {a_n a_c : Nat} {k : Nat} {n : Nat} (v_a : Rd 1 encI okI H w (.slice a_a a_n a_c) a) (h_k : i64ok (k : Int)) (p0 : a = marksOf markI k n) (p1 : k + 1 * n ≤ 4611686018427387904) :
    Calls Try.prog 39 #[.slice a_a a_n a_c, .int .i64 ((k : Nat) : Int)] w fun e w' => e = .returned (.int .i64 ((k + n : Nat) : Int)) ∧ Mv [] w [] w' := by
 have uU : True := (fun _ _ => trivial) h_k p1
 clear uU
 have V_v_a : Rd 1 encI okI (V H w []) w (.slice a_a a_n a_c) a := Rd.start v_a (fun _ _ => fps_nil _)
 obtain ⟨ln_a, le_a, mx_a, ni_a⟩ := Rd.inv v_a
 refine calls_enter 21 Try.func39 rfl Try.ntmps39 (Nat.le_of_ble_eq_true rfl) (fun _ F0i => ?_)
 have F0 : Fr 21 [(0, .slice a_a a_n a_c), (1, .int .i64 ((k : Nat) : Int))] _ := F0i
 clear F0i
 refine wp_seq ?_
 have hln : a_n = n := by rw [ln_a, p0, marksOf_length]
 refine wp_region_lit (l_op (f_val F0 rfl rfl (r_assign rfl rfl) rfl fun _ F1 => ?_))
 have F2 : Fr 21 [(4, .int .i64 0), (0, .slice a_a a_n a_c), (1, .int .i64 ((k : Nat) : Int))] _ := F1.cut rfl
 clear F0 F1
 refine s_end (x_normal (wp_seq (wp_seq (wp_region_lit (l_op (f_val F2 rfl rfl (r_assign rfl rfl) rfl fun _ F3 => ?_))))))
 have F4 : Fr 21 [(5, .int .i64 0), (0, .slice a_a a_n a_c), (1, .int .i64 ((k : Nat) : Int))] _ := F3.cut rfl
 clear F2 F3
 refine s_end (x_normal (wp_block ?_))
 refine x_loop (fun (j : Nat) aZ wZ => ∃ (kk : Nat), Fr 21 [(5, .int .i64 ((j : Nat) : Int)), (0, .slice a_a a_n a_c), (1, .int .i64 ((kk : Nat) : Int))] aZ ∧ Mv [] w [] wZ ∧ (j ≤ a_n) ∧ (kk = k + 1 * j)) (fun (j : Nat) => a_n - j) (0) ?_ ?_
 · exact ⟨k, F4.cut rfl, (Mv.refl (At.nil w)), by omega, by omega⟩
 · rintro j a5 w5 ⟨kk, F5, S5, hj_0, hj_1⟩
   refine wp_seq (wp_seq (wp_region_lit (l_op (f_mv F5 rfl rfl rfl rfl rfl fun _ F6 => ?_))))
   refine l_op (f_mv F6 rfl rfl rfl rfl rfl fun _ F7 => ?_)
   refine l_op (f_val F7 rfl rfl (r_len Try.underlying27 rfl (F7.ev 7 rfl)) rfl fun _ F8 => ?_)
   refine l_op (f_val F8 rfl rfl (r_cmp (b := decide (j < a_n)) (.inr (.inr (.inl rfl))) rfl (F8.ev 6 rfl) (F8.ev 8 rfl) (dec_of (by omega))) rfl fun _ F9 => ?_)
   have F10 : Fr 21 [(9, .bool (decide (j < a_n))), (5, .int .i64 ((j : Nat) : Int)), (0, .slice a_a a_n a_c), (1, .int .i64 ((kk : Nat) : Int))] _ := F9.cut rfl
   clear F5 F6 F7 F8 F9
   refine s_end (x_normal (x_cond (p := j < a_n) (F10.ev 9 rfl) (fun h11 => ?_) (fun h11 => ?_)))
   · skip
     refine wp_skip (x_normal (wp_seq (wp_block (wp_seq (wp_seq (wp_region_lit (l_op (f_mv F10 rfl rfl rfl rfl rfl fun _ F12 => ?_))))))))
     refine l_op (f_mv F12 rfl rfl rfl rfl rfl fun _ F13 => ?_)
     obtain ⟨B14, O14, x1, ad14, hx1, okx1, ln14, cl14⟩ := Rd.at (Rd.mv (Nat.succ_pos _) V_v_a S5) j (by first | assumption | omega)
     clear ln14
     refine l_op (f_val F13 rfl rfl (r_indexAddr (i := j) ET_27 rfl ((F13.ev 12 rfl).trans (by rw [ad14])) (F13.ev 13 rfl) (by omega) (by first | assumption | omega)) rfl fun _ F15 => ?_)
     refine l_op (f_val (v := .int .i64 x1) F15 rfl rfl (r_load (cs := [.int .i64 x1]) TI_3 rfl (F15.ev 14 rfl) rfl (fun _ => rfl) (elem_sub (f := 0) cl14 [.int .i64 x1] rfl)) rfl fun _ F16 => ?_)
     refine l_op (f_mv F16 rfl rfl rfl rfl rfl fun _ F17 => ?_)
     refine l_op (f_val F17 rfl rfl (r_cmp (b := decide (x1 ≠ ((kk : Nat) : Int))) (.inr (.inl rfl)) rfl (F17.ev 15 rfl) (F17.ev 16 rfl) (dec_of (by omega))) rfl fun _ F18 => ?_)
     rw [show (decide (x1 ≠ ((kk : Nat) : Int))) = false from decide_eq_false (fun h => h (by rw [(marksOf_at p0 hx1).1, hj_1]; unfold markI; omega))] at F18
     have F19 : Fr 21 [(17, .bool false), (5, .int .i64 ((j : Nat) : Int)), (0, .slice a_a a_n a_c), (1, .int .i64 ((kk : Nat) : Int))] _ := F18.cut rfl
     clear F10 F12 F13 F15 F16 F17 F18
     refine s_end (x_normal (wp_cond_false (F19.ev 17 rfl) (wp_skip (x_normal (wp_region_lit (l_op (f_mv F19 rfl rfl rfl rfl rfl fun _ F20 => ?_)))))))
     refine l_op (f_val F20 rfl rfl (r_add (z := ((kk + 1 : Nat) : Int)) rfl (F20.ev 18 rfl) rfl (by first | rfl | omega) ⟨by first | omega | (unfold i64ok at *; omega), by first | omega | (unfold i64ok at *; omega)⟩) rfl fun _ F21 => ?_)
     refine l_op (f_as F21 rfl rfl rfl rfl rfl fun _ F22 => ?_)
     have F23 : Fr 21 [(1, .int .i64 ((kk + 1 : Nat) : Int)), (5, .int .i64 ((j : Nat) : Int)), (0, .slice a_a a_n a_c)] _ := F22.cut rfl
     clear F19 F20 F21 F22
     refine s_end (x_block_normal (x_normal (wp_region_lit (l_op (f_mv F23 rfl rfl rfl rfl rfl fun _ F24 => ?_)))))
     refine l_op (f_val F24 rfl rfl (r_add (z := ((j + 1 : Nat) : Int)) rfl (F24.ev 10 rfl) rfl (by first | rfl | omega) ⟨by first | omega | (unfold i64ok at *; omega), by first | omega | (unfold i64ok at *; omega)⟩) rfl fun _ F25 => ?_)
     refine l_op (f_as F25 rfl rfl rfl rfl rfl fun _ F26 => ?_)
     have F27 : Fr 21 [(5, .int .i64 ((j + 1 : Nat) : Int)), (1, .int .i64 ((kk + 1 : Nat) : Int)), (0, .slice a_a a_n a_c)] _ := F26.cut rfl
     clear F23 F24 F25 F26
     refine s_end ?_
     refine x_normal ⟨j + 1, by omega, kk + 1, F27.cut rfl, (S5.pick [] rfl), by omega, by omega⟩
   · skip
     refine wp_exit (x_then_exit (x_then_exit (x_block_here (x_normal (wp_seq (wp_region_lit (l_op (f_mv F10 rfl rfl rfl rfl rfl fun _ F28 => ?_))))))))
     refine l_op (f_as F28 rfl rfl rfl rfl rfl fun _ F29 => ?_)
     have F30 : Fr 21 [(4, .int .i64 ((kk : Nat) : Int))] _ := F29.cut rfl
     clear F10 F28 F29
     refine s_end (x_normal (wp_ret ?_))
     refine x_done (v := .int .i64 ((kk : Nat) : Int)) F30 (results_1 Try.results39 (.tmp (F30.ev 4 rfl))) ?_
     exact ⟨(by rw [(show ((kk : Nat) : Int) = ((k + n : Nat) : Int) from by omega)]), (Mv.pick S5 [] rfl)⟩
theorem slices_Clone_Simpl_Call_impl_Call_c {w : World} {H : Nat → Prop} {s : List CallD} {s_a : Option Addr} {s_n s_c : Nat} (v_s : Rd 6 encK okK H w (.slice s_a s_n s_c) s) (p0 : s_n ≤ 1099511627776) :
    Calls Try.prog 46 #[.slice s_a s_n s_c] w fun e w' => ∃ (r0_a : Option Addr), ∃ (r0_n : Nat), ∃ (r0_c : Nat), e = .returned (.slice r0_a r0_n r0_c) ∧ Mv [] w [ow 56 6 encK okK (.slice r0_a r0_n r0_c) s] w' := by
 have uU : True := (fun _ => trivial) p0
 clear uU
 have Q0 : Rd 6 encK okK (V H w []) w (.slice s_a s_n s_c) s := Rd.start v_s (fun _ _ => fps_nil _)
 obtain ⟨ln_s, le_s, mx_s, ni_s⟩ := Rd.inv v_s
 refine calls_enter 8 Try.func46 rfl Try.ntmps46 (Nat.le_of_ble_eq_true rfl) (fun _ F0i => ?_)
 have F0 : Fr 8 [(0, .slice s_a s_n s_c)] _ := F0i
 clear F0i
 refine wp_seq (wp_region_lit (l_op (f_val F0 rfl rfl (r_assign rfl rfl) rfl fun _ F1 => ?_)))
 have F2 : Fr 8 [(2, .slice none 0 0), (0, .slice s_a s_n s_c)] _ := F1.cut rfl
 clear F0 F1
 refine s_end (x_normal (wp_seq (wp_seq (wp_region_lit (l_op (f_mv F2 rfl rfl rfl rfl rfl fun _ F3 => ?_))))))
 refine l_op (f_val F3 rfl rfl (r_slNil Try.underlying31 rfl (F3.ev 3 rfl) rfl) rfl fun _ F4 => ?_)
 have F5 : Fr 8 [(4, .bool s_a.isNone), (0, .slice s_a s_n s_c)] _ := F4.cut rfl
 clear F2 F3 F4
 refine s_end (x_normal (x_condb (b := s_a.isNone) (F5.ev 4 rfl) (fun h6 => ?_) (fun h6 => ?_)))
 · skip
   refine wp_seq (wp_region_lit (l_op (f_val F5 rfl rfl (r_assign rfl rfl) rfl fun _ F7 => ?_)))
   have F8 : Fr 8 [(2, .slice none 0 0)] _ := F7.cut rfl
   clear F5 F7
   refine s_end (x_normal (wp_ret (x_then_ret ?_)))
   have S9 : Mv [] w [ow 56 6 encK okK (.slice none 0 0) ([] : List CallD)] w := mv_nil (At.nil w)
   refine x_done (v := .slice none 0 0) F8 (results_1 Try.results46 (.tmp (F8.ev 2 rfl))) ?_
   exact ⟨none, 0, 0, rfl, (Mv.cast (Mv.pick S9 [0] rfl) (by rw [(show ([] : List CallD) = s from by first | exact nil_of ni_s (by assumption) | exact List.nil_append _ | simp)]; all_goals rfl))⟩
 · skip
   refine wp_skip (x_normal (wp_seq (wp_region_lit (l_op (f_buildSl (ok := okK) (vs := []) F5 (At.nil w) (([] : List CallD)) ET_31 rfl rfl rfl rfl rfl rfl rfl rfl rfl (by simp) fun b10 _ w10 F11 S10 => ?_)))))
   refine l_op (f_mv F11 rfl rfl rfl rfl rfl fun _ F12 => ?_)
   refine l_op (f_app (news := s) F12 S10.at' 0 ET_31 rfl rfl rfl rfl rfl rfl (F12.ev 5 rfl) (F12.ev 6 rfl) ((Rd.mv (Nat.succ_pos _) Q0 S10)).1 (by ((repeat (first | rw [List.length_append] | rw [List.length_cons] | rw [List.length_nil] | rw [List.length_take] | rw [List.length_drop])) <;> omega)) fun A13 N13 C13 _ w13 F14 S13 l13 => ?_)
   refine l_op (f_as F14 rfl rfl rfl rfl rfl fun _ F15 => ?_)
   have F16 : Fr 8 [(2, .slice A13 N13 C13)] _ := F15.cut rfl
   clear F5 F11 F12 F14 F15
   have T17 : Mv _ _ [ow 56 6 encK okK (.slice A13 N13 C13) (([] : List CallD) ++ s)] _ := S13
   refine s_end (x_normal (wp_ret ?_))
   refine x_done (v := .slice A13 N13 C13) F16 (results_1 Try.results46 (.tmp (F16.ev 2 rfl))) ?_
   exact ⟨A13, N13, C13, rfl, (Mv.cast (Mv.pick (S10.trans T17) [0] rfl) (by rw [(show (([] : List CallD) ++ s) = s from by first | exact nil_of ni_s (by assumption) | exact List.nil_append _ | simp)]; all_goals rfl))⟩
theorem slices_Clone_Simpl_Answer_impl_Answer_c {w : World} {H : Nat → Prop} {s : List AnsD} {s_a : Option Addr} {s_n s_c : Nat} (v_s : Rd 3 encR okR H w (.slice s_a s_n s_c) s) (p0 : s_n ≤ 1099511627776) :
    Calls Try.prog 47 #[.slice s_a s_n s_c] w fun e w' => ∃ (r0_a : Option Addr), ∃ (r0_n : Nat), ∃ (r0_c : Nat), e = .returned (.slice r0_a r0_n r0_c) ∧ Mv [] w [ow 59 3 encR okR (.slice r0_a r0_n r0_c) s] w' := by
 have uU : True := (fun _ => trivial) p0
 clear uU
 have Q0 : Rd 3 encR okR (V H w []) w (.slice s_a s_n s_c) s := Rd.start v_s (fun _ _ => fps_nil _)
 obtain ⟨ln_s, le_s, mx_s, ni_s⟩ := Rd.inv v_s
 refine calls_enter 8 Try.func47 rfl Try.ntmps47 (Nat.le_of_ble_eq_true rfl) (fun _ F0i => ?_)
 have F0 : Fr 8 [(0, .slice s_a s_n s_c)] _ := F0i
 clear F0i
 refine wp_seq (wp_region_lit (l_op (f_val F0 rfl rfl (r_assign rfl rfl) rfl fun _ F1 => ?_)))
 have F2 : Fr 8 [(2, .slice none 0 0), (0, .slice s_a s_n s_c)] _ := F1.cut rfl
 clear F0 F1
 refine s_end (x_normal (wp_seq (wp_seq (wp_region_lit (l_op (f_mv F2 rfl rfl rfl rfl rfl fun _ F3 => ?_))))))
 refine l_op (f_val F3 rfl rfl (r_slNil Try.underlying32 rfl (F3.ev 3 rfl) rfl) rfl fun _ F4 => ?_)
 have F5 : Fr 8 [(4, .bool s_a.isNone), (0, .slice s_a s_n s_c)] _ := F4.cut rfl
 clear F2 F3 F4
 refine s_end (x_normal (x_condb (b := s_a.isNone) (F5.ev 4 rfl) (fun h6 => ?_) (fun h6 => ?_)))
 · skip
   refine wp_seq (wp_region_lit (l_op (f_val F5 rfl rfl (r_assign rfl rfl) rfl fun _ F7 => ?_)))
   have F8 : Fr 8 [(2, .slice none 0 0)] _ := F7.cut rfl
   clear F5 F7
   refine s_end (x_normal (wp_ret (x_then_ret ?_)))
   have S9 : Mv [] w [ow 59 3 encR okR (.slice none 0 0) ([] : List AnsD)] w := mv_nil (At.nil w)
   refine x_done (v := .slice none 0 0) F8 (results_1 Try.results47 (.tmp (F8.ev 2 rfl))) ?_
   exact ⟨none, 0, 0, rfl, (Mv.cast (Mv.pick S9 [0] rfl) (by rw [(show ([] : List AnsD) = s from by first | exact nil_of ni_s (by assumption) | exact List.nil_append _ | simp)]; all_goals rfl))⟩
 · skip
   refine wp_skip (x_normal (wp_seq (wp_region_lit (l_op (f_buildSl (ok := okR) (vs := []) F5 (At.nil w) (([] : List AnsD)) ET_32 rfl rfl rfl rfl rfl rfl rfl rfl rfl (by simp) fun b10 _ w10 F11 S10 => ?_)))))
   refine l_op (f_mv F11 rfl rfl rfl rfl rfl fun _ F12 => ?_)
   refine l_op (f_app (news := s) F12 S10.at' 0 ET_32 rfl rfl rfl rfl rfl rfl (F12.ev 5 rfl) (F12.ev 6 rfl) ((Rd.mv (Nat.succ_pos _) Q0 S10)).1 (by ((repeat (first | rw [List.length_append] | rw [List.length_cons] | rw [List.length_nil] | rw [List.length_take] | rw [List.length_drop])) <;> omega)) fun A13 N13 C13 _ w13 F14 S13 l13 => ?_)
   refine l_op (f_as F14 rfl rfl rfl rfl rfl fun _ F15 => ?_)
   have F16 : Fr 8 [(2, .slice A13 N13 C13)] _ := F15.cut rfl
   clear F5 F11 F12 F14 F15
   have T17 : Mv _ _ [ow 59 3 encR okR (.slice A13 N13 C13) (([] : List AnsD) ++ s)] _ := S13
   refine s_end (x_normal (wp_ret ?_))
   refine x_done (v := .slice A13 N13 C13) F16 (results_1 Try.results47 (.tmp (F16.ev 2 rfl))) ?_
   exact ⟨A13, N13, C13, rfl, (Mv.cast (Mv.pick (S10.trans T17) [0] rfl) (by rw [(show (([] : List AnsD) ++ s) = s from by first | exact nil_of ni_s (by assumption) | exact List.nil_append _ | simp)]; all_goals rfl))⟩
theorem slices_Clone_Sint_int_c {w : World} {H : Nat → Prop} {s : List Int} {s_a : Option Addr} {s_n s_c : Nat} (v_s : Rd 1 encI okI H w (.slice s_a s_n s_c) s) (p0 : s_n ≤ 1099511627776) :
    Calls Try.prog 48 #[.slice s_a s_n s_c] w fun e w' => ∃ (r0_a : Option Addr), ∃ (r0_n : Nat), ∃ (r0_c : Nat), e = .returned (.slice r0_a r0_n r0_c) ∧ Mv [] w [ow 3 1 encI okI (.slice r0_a r0_n r0_c) s] w' := by
 have uU : True := (fun _ => trivial) p0
 clear uU
 have Q0 : Rd 1 encI okI (V H w []) w (.slice s_a s_n s_c) s := Rd.start v_s (fun _ _ => fps_nil _)
 obtain ⟨ln_s, le_s, mx_s, ni_s⟩ := Rd.inv v_s
 refine calls_enter 8 Try.func48 rfl Try.ntmps48 (Nat.le_of_ble_eq_true rfl) (fun _ F0i => ?_)
 have F0 : Fr 8 [(0, .slice s_a s_n s_c)] _ := F0i
 clear F0i
 refine wp_seq (wp_region_lit (l_op (f_val F0 rfl rfl (r_assign rfl rfl) rfl fun _ F1 => ?_)))
 have F2 : Fr 8 [(2, .slice none 0 0), (0, .slice s_a s_n s_c)] _ := F1.cut rfl
 clear F0 F1
 refine s_end (x_normal (wp_seq (wp_seq (wp_region_lit (l_op (f_mv F2 rfl rfl rfl rfl rfl fun _ F3 => ?_))))))
 refine l_op (f_val F3 rfl rfl (r_slNil Try.underlying27 rfl (F3.ev 3 rfl) rfl) rfl fun _ F4 => ?_)
 have F5 : Fr 8 [(4, .bool s_a.isNone), (0, .slice s_a s_n s_c)] _ := F4.cut rfl
 clear F2 F3 F4
 refine s_end (x_normal (x_condb (b := s_a.isNone) (F5.ev 4 rfl) (fun h6 => ?_) (fun h6 => ?_)))
 · skip
   refine wp_seq (wp_region_lit (l_op (f_val F5 rfl rfl (r_assign rfl rfl) rfl fun _ F7 => ?_)))
   have F8 : Fr 8 [(2, .slice none 0 0)] _ := F7.cut rfl
   clear F5 F7
   refine s_end (x_normal (wp_ret (x_then_ret ?_)))
   have S9 : Mv [] w [ow 3 1 encI okI (.slice none 0 0) ([] : List Int)] w := mv_nil (At.nil w)
   refine x_done (v := .slice none 0 0) F8 (results_1 Try.results48 (.tmp (F8.ev 2 rfl))) ?_
   exact ⟨none, 0, 0, rfl, (Mv.cast (Mv.pick S9 [0] rfl) (by rw [(show ([] : List Int) = s from by first | exact nil_of ni_s (by assumption) | exact List.nil_append _ | simp)]; all_goals rfl))⟩
 · skip
   refine wp_skip (x_normal (wp_seq (wp_region_lit (l_op (f_buildSl (ok := okI) (vs := []) F5 (At.nil w) (([] : List Int)) ET_27 rfl rfl rfl rfl rfl rfl rfl rfl rfl (by simp) fun b10 _ w10 F11 S10 => ?_)))))
   refine l_op (f_mv F11 rfl rfl rfl rfl rfl fun _ F12 => ?_)
   refine l_op (f_app (news := s) F12 S10.at' 0 ET_27 rfl rfl rfl rfl rfl rfl (F12.ev 5 rfl) (F12.ev 6 rfl) ((Rd.mv (Nat.succ_pos _) Q0 S10)).1 (by ((repeat (first | rw [List.length_append] | rw [List.length_cons] | rw [List.length_nil] | rw [List.length_take] | rw [List.length_drop])) <;> omega)) fun A13 N13 C13 _ w13 F14 S13 l13 => ?_)
   refine l_op (f_as F14 rfl rfl rfl rfl rfl fun _ F15 => ?_)
   have F16 : Fr 8 [(2, .slice A13 N13 C13)] _ := F15.cut rfl
   clear F5 F11 F12 F14 F15
   have T17 : Mv _ _ [ow 3 1 encI okI (.slice A13 N13 C13) (([] : List Int) ++ s)] _ := S13
   refine s_end (x_normal (wp_ret ?_))
   refine x_done (v := .slice A13 N13 C13) F16 (results_1 Try.results48 (.tmp (F16.ev 2 rfl))) ?_
   exact ⟨A13, N13, C13, rfl, (Mv.cast (Mv.pick (S10.trans T17) [0] rfl) (by rw [(show (([] : List Int) ++ s) = s from by first | exact nil_of ni_s (by assumption) | exact List.nil_append _ | simp)]; all_goals rfl))⟩
end Go.Proofs.Ytkebmooffbkpgaa
