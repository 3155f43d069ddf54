/-
  Walks: lists of transactions, disks in the laws' hands.
-/
import Derived.Test.YtipdbeklopjbmaaGreatDoorP06

namespace Go.Proofs.YtipdbeklopjbmaaGreatDoor
open Go.ChangeShapes Go.WideShapes Go.ChangeAt Go.RowKit
set_option maxRecDepth 100000
set_option maxHeartbeats 1000000
theorem laws_szSlot_c {w : World} {H : Nat → Prop} {a : SlotD} {Q0 : Option Addr} {Q2 Q1 : Nat} {left : Int} (Q5 : i64ok a.seq) (Q3 : RdA 2 encC okC H w (.slice Q0 Q2 Q1) a.cells) (Q6 : i64ok left) (p0 : 0 ≤ left) (p1 : left ≤ 1048576) :
    Calls Tryz.prog 86 #[.agg #[.int .i64 a.seq, .slice Q0 Q2 Q1, .bool a.whole], .int .i64 left] w fun e w' => e = .returned (.int .i64 (subOr left (szCells a.cells))) ∧ Mv [] w [] w' ∧ i64ok (subOr left (szCells a.cells)) := by
 have uU : True := (fun _ => trivial) Q5
 clear uU
 have Q4 : RdA 2 encC okC (V H w []) w (.slice Q0 Q2 Q1) a.cells := RdA.start Q3 (fun _ _ => fps_nil _)
 obtain ⟨Q8, Q7, Q9, Q10⟩ := RdA.inv Q3
 refine calls_enter 12 Tryz.func86 rfl Tryz.ntmps86 (Nat.le_of_ble_eq_true rfl) (fun _ F0i => ?_)
 have F0 : Fr 12 [(0, .agg #[.int .i64 a.seq, .slice Q0 Q2 Q1, .bool a.whole]), (1, .int .i64 left)] _ := F0i
 clear F0i
 refine wp_seq (wp_region_lit (l_op (f_box F0 (At.nil w) rfl rfl rfl (F0.ev 0 rfl) rfl rfl fun b1 _ w1 F2 S1 => ?_)))
 refine l_op (f_val F2 rfl rfl (r_assign rfl rfl) rfl fun _ F3 => ?_)
 refine s_end (x_normal (wp_seq (wp_region_lit (l_op (f_val F3 rfl rfl (r_field FI_126_1 rfl (F3.ev 2 rfl) rfl) rfl fun _ F4 => ?_)))))
 refine l_op (f_val (v := .slice Q0 Q2 Q1) F4 rfl rfl (r_loadB S1.at' 0 TI_41 rfl rfl (F4.ev 5 rfl) rfl rfl (fun _ => rfl) rfl) rfl fun _ F5 => ?_)
 refine l_op (f_mv F5 rfl rfl rfl rfl rfl fun _ F6 => ?_)
 refine l_op (f_call F6 CF_15 rfl rfl rfl rfl (lc (F6.ev 6 rfl) (lc (F6.ev 7 rfl) rfl)) (laws_szCellS_c (a := a.cells) (left := left) (RdA.mv (Nat.succ_pos _) Q4 S1) Q6 (by first | assumption | omega | (simp <;> omega)) (by first | assumption | omega | (simp <;> omega))) ?_)
 rintro _ w7 ⟨rfl, m7, q7_0⟩
 refine ⟨_, rfl, fun _ F8 => ?_⟩
 have S7 := At.frame0 S1.at' m7
 clear m7
 refine l_op (f_as F8 rfl rfl rfl rfl rfl fun _ F9 => ?_)
 refine s_end (x_normal (wp_seq (wp_seq (wp_region_lit (l_op (f_mv F9 rfl rfl rfl rfl rfl fun _ F10 => ?_))))))
 refine l_op (f_val F10 rfl rfl (r_cmp (b := decide ((subOr left (szCells a.cells)) < 0)) (.inr (.inr (.inl rfl))) rfl (F10.ev 9 rfl) rfl (dec_of (by omega))) rfl fun _ F11 => ?_)
 refine s_end (x_normal (x_cond (p := (subOr left (szCells a.cells)) < 0) (F11.ev 10 rfl) (fun h12 => ?_) (fun h12 => ?_)))
 · skip
   refine wp_seq (wp_region_lit (l_op (f_val F11 rfl rfl (r_assign rfl rfl) rfl fun _ F13 => ?_)))
   refine s_end (x_normal (wp_ret (x_then_ret ?_)))
   refine x_done (v := .int .i64 (-1)) F13 (results_1 Tryz.results86 (.tmp (F13.ev 4 rfl))) ?_
   exact ⟨(by rw [(show (-1) = (subOr left (szCells a.cells)) from by first | rfl | exact subOr_neg1 ‹_›)]), (Mv.pick (S1.trans S7) [] rfl), subOr_i64 p0 p1⟩
 · skip
   refine wp_skip (x_normal (wp_seq (wp_region_lit (l_op (f_mv F11 rfl rfl rfl rfl rfl fun _ F14 => ?_)))))
   refine l_op (f_as F14 rfl rfl rfl rfl rfl fun _ F15 => ?_)
   refine s_end (x_normal (wp_ret ?_))
   refine x_done (v := .int .i64 (subOr left (szCells a.cells))) F15 (results_1 Tryz.results86 (.tmp (F15.ev 4 rfl))) ?_
   exact ⟨rfl, (Mv.pick (S1.trans S7) [] rfl), subOr_i64 p0 p1⟩
theorem laws_toSlot_c {w : World} {H : Nat → Prop} {a : SlotD} {Q3 : Option Addr} {Q5 Q4 : Nat} (Q11 : i64ok a.seq) (Q9 : RdA 2 encC okC H w (.slice Q3 Q5 Q4) a.cells) (p0 : a.cells.length ≤ 1048576) :
    Calls Tryz.prog 92 #[.agg #[.int .i64 a.seq, .slice Q3 Q5 Q4, .bool a.whole]] w fun e w' => ∃ (Q6 : Option Addr), ∃ (Q8 : Nat), ∃ (Q7 : Nat), e = .returned (.agg #[.int .i64 a.seq, .slice Q6 Q8 Q7, .bool a.whole]) ∧ Mv [] w [ow 91 2 encC okC (.slice Q6 Q8 Q7) a.cells] w' := by
 have uU : True := (fun _ _ => trivial) Q11 p0
 clear uU
 have Q10 : RdA 2 encC okC (V H w []) w (.slice Q3 Q5 Q4) a.cells := RdA.start Q9 (fun _ _ => fps_nil _)
 obtain ⟨Q13, Q12, Q17, Q18⟩ := RdA.inv Q9
 refine calls_enter 15 Tryz.func92 rfl Tryz.ntmps92 (Nat.le_of_ble_eq_true rfl) (fun _ F0i => ?_)
 have F0 : Fr 15 [(0, .agg #[.int .i64 a.seq, .slice Q3 Q5 Q4, .bool a.whole])] _ := F0i
 clear F0i
 refine wp_seq (wp_region_lit (l_op (f_box F0 (At.nil w) rfl rfl rfl (F0.ev 0 rfl) rfl rfl fun b1 _ w1 F2 S1 => ?_)))
 refine l_op (f_alloc F2 S1.at' ZI_81 rfl rfl rfl rfl rfl fun b3 _ w3 F4 S3 => ?_)
 refine s_end (x_normal (wp_seq (wp_region_lit (l_op (f_alloc F4 S3.at' ZI_81 rfl rfl rfl rfl rfl fun b5 _ w5 F6 S5 => ?_)))))
 refine s_end (x_normal (wp_seq (wp_region_lit (l_op (f_val F6 rfl rfl (r_field FI_126_0 rfl (F6.ev 1 rfl) rfl) rfl fun _ F7 => ?_)))))
 refine l_op (f_val (v := .int .i64 a.seq) F7 rfl rfl (r_loadB S5.at' 2 TI_3 rfl rfl (F7.ev 4 rfl) rfl rfl (fun _ => rfl) rfl) rfl fun _ F8 => ?_)
 refine l_op (f_val F8 rfl rfl (r_field FI_81_0 rfl (F8.ev 3 rfl) rfl) rfl fun _ F9 => ?_)
 refine l_op (s_store S5.at' 0 TI_3 rfl rfl rfl rfl rfl (F9.ev 6 rfl) (F9.ev 5 rfl) rfl rfl rfl rfl rfl fun w10 S10 => ?_)
 have T11 : Mv _ _ [bx b5 [.int .i64 a.seq, .slice none 0 0, .bool false] 81, bx b3 [.int .i64 0, .slice none 0 0, .bool false] 81, bx b1 [.int .i64 a.seq, .slice Q3 Q5 Q4, .bool a.whole] 126] _ := S10
 refine s_end (x_normal (wp_seq (wp_region_lit (l_op (f_val F9 rfl rfl (r_field FI_126_1 rfl (F9.ev 1 rfl) rfl) rfl fun _ F12 => ?_)))))
 refine l_op (f_val (v := .slice Q3 Q5 Q4) F12 rfl rfl (r_loadB T11.at' 2 TI_41 rfl rfl (F12.ev 7 rfl) rfl rfl (fun _ => rfl) rfl) rfl fun _ F13 => ?_)
 refine l_op (f_call F13 CF_18 rfl rfl rfl rfl (lc (F13.ev 8 rfl) rfl) (laws_toCellS_c (a := a.cells) (RdA.mv (Nat.succ_pos _) Q10 (S1.trans (S3.trans (S5.trans T11)))) (by first | assumption | omega | (simp <;> omega))) ?_)
 rintro _ w14 ⟨Q0, Q2, Q1, rfl, m14⟩
 refine ⟨_, rfl, fun _ F15 => ?_⟩
 have S14 : Mv _ _ [ow 91 2 encC okC (.slice Q0 Q2 Q1) a.cells, bx b5 [.int .i64 a.seq, .slice none 0 0, .bool false] 81, bx b3 [.int .i64 0, .slice none 0 0, .bool false] 81, bx b1 [.int .i64 a.seq, .slice Q3 Q5 Q4, .bool a.whole] 126] _ := At.frame T11.at' [] rfl m14
 obtain ⟨Q14, Q15, Q16⟩ := At.ownInv S14.at' ET_28.hk 0 rfl
 clear m14
 refine l_op (f_val F15 rfl rfl (r_field FI_81_1 rfl (F15.ev 3 rfl) rfl) rfl fun _ F16 => ?_)
 refine l_op (s_store S14.at' 1 TI_28 rfl rfl rfl rfl rfl (F16.ev 10 rfl) (F16.ev 9 rfl) rfl rfl rfl rfl rfl fun w17 S17 => ?_)
 refine s_end (x_normal (wp_seq (wp_region_lit (l_op (f_val F16 rfl rfl (r_field FI_126_2 rfl (F16.ev 1 rfl) rfl) rfl fun _ F18 => ?_)))))
 refine l_op (f_val (v := .bool a.whole) F18 rfl rfl (r_loadB S17.at' 3 TI_4 rfl rfl (F18.ev 11 rfl) rfl rfl (fun _ => rfl) rfl) rfl fun _ F19 => ?_)
 refine l_op (f_val F19 rfl rfl (r_field FI_81_2 rfl (F19.ev 3 rfl) rfl) rfl fun _ F20 => ?_)
 refine l_op (s_store S17.at' 0 TI_4 rfl rfl rfl rfl rfl (F20.ev 13 rfl) (F20.ev 12 rfl) rfl rfl rfl rfl rfl fun w21 S21 => ?_)
 refine s_end (x_normal (wp_seq (wp_region_lit (l_op (f_val (v := .agg #[.int .i64 a.seq, .slice Q0 Q2 Q1, .bool a.whole]) F20 rfl rfl (r_loadB S21.at' 0 TI_81 rfl rfl (F20.ev 3 rfl) rfl rfl (fun h => nomatch h) rfl) rfl fun _ F22 => ?_)))))
 refine l_op (s_store S21.at' 2 TI_81 rfl rfl rfl rfl rfl (F22.ev 2 rfl) (F22.ev 14 rfl) rfl rfl rfl rfl rfl fun w23 S23 => ?_)
 have T24 : Mv _ _ [bx b3 [.int .i64 a.seq, .slice Q0 Q2 Q1, .bool a.whole] 81, bx b5 [.int .i64 a.seq, .slice Q0 Q2 Q1, .bool a.whole] 81, ow 91 2 encC okC (.slice Q0 Q2 Q1) a.cells, bx b1 [.int .i64 a.seq, .slice Q3 Q5 Q4, .bool a.whole] 126] _ := S23
 refine s_end (x_normal (wp_ret ?_))
 refine x_done (v := .agg #[.int .i64 a.seq, .slice Q0 Q2 Q1, .bool a.whole]) F22 (results_1 Tryz.results92 (.cell (F22.ev 2 rfl) (run_loadVar' TI_81 _ [.int .i64 a.seq, .slice Q0 Q2 Q1, .bool a.whole] rfl (fun h => nomatch h) (At.cells T24.at' 0 rfl 0 [.int .i64 a.seq, .slice Q0 Q2 Q1, .bool a.whole] rfl)))) ?_
 exact ⟨Q0, Q2, Q1, rfl, (Mv.pick (S1.trans (S3.trans (S5.trans (T11.trans (S14.trans (S17.trans (S21.trans T24))))))) [2] rfl)⟩
theorem laws_eqSlot_c {w : World} {H : Nat → Prop} {a : SlotD} {Q0 : Option Addr} {Q2 Q1 : Nat} {b : SlotD} {Q3 : Option Addr} {Q5 Q4 : Nat} (Q10 : i64ok a.seq) (Q6 : Rd 2 encC okC H w (.slice Q0 Q2 Q1) a.cells) (Q11 : i64ok b.seq) (Q7 : Rd 2 encC okC H w (.slice Q3 Q5 Q4) b.cells) (p0 : a = b) :
    Calls Tryz.prog 103 #[.agg #[.int .i64 a.seq, .slice Q0 Q2 Q1, .bool a.whole], .agg #[.int .i64 b.seq, .slice Q3 Q5 Q4, .bool b.whole]] w fun e w' => e = .returned (.bool true) ∧ Mv [] w [] w' := by
 have uU : True := (fun _ _ => trivial) Q10 Q11
 clear uU
 have Q8 : Rd 2 encC okC (V H w []) w (.slice Q0 Q2 Q1) a.cells := Rd.start Q6 (fun _ _ => fps_nil _)
 obtain ⟨Q14, Q12, Q16, Q18⟩ := Rd.inv Q6
 have Q9 : Rd 2 encC okC (V H w []) w (.slice Q3 Q5 Q4) b.cells := Rd.start Q7 (fun _ _ => fps_nil _)
 obtain ⟨Q15, Q13, Q17, Q19⟩ := Rd.inv Q7
 refine calls_enter 21 Tryz.func103 rfl Tryz.ntmps103 (Nat.le_of_ble_eq_true rfl) (fun _ F0i => ?_)
 have F0 : Fr 21 [(0, .agg #[.int .i64 a.seq, .slice Q0 Q2 Q1, .bool a.whole]), (1, .agg #[.int .i64 b.seq, .slice Q3 Q5 Q4, .bool b.whole])] _ := F0i
 clear F0i
 refine wp_seq (wp_region_lit (l_op (f_box F0 (At.nil w) rfl rfl rfl (F0.ev 0 rfl) rfl rfl fun b1 _ w1 F2 S1 => ?_)))
 refine l_op (f_box F2 S1.at' rfl rfl rfl (F2.ev 1 rfl) rfl rfl fun b3 _ w3 F4 S3 => ?_)
 refine l_op (f_val F4 rfl rfl (r_assign rfl rfl) rfl fun _ F5 => ?_)
 refine s_end (x_normal (wp_seq (wp_seq (wp_region_lit (l_op (f_val F5 rfl rfl (r_field FI_81_0 rfl (F5.ev 2 rfl) rfl) rfl fun _ F6 => ?_))))))
 refine l_op (f_val (v := .int .i64 a.seq) F6 rfl rfl (r_loadB S3.at' 1 TI_3 rfl rfl (F6.ev 5 rfl) rfl rfl (fun _ => rfl) rfl) rfl fun _ F7 => ?_)
 refine l_op (f_val F7 rfl rfl (r_field FI_81_0 rfl (F7.ev 3 rfl) rfl) rfl fun _ F8 => ?_)
 refine l_op (f_val (v := .int .i64 b.seq) F8 rfl rfl (r_loadB S3.at' 0 TI_3 rfl rfl (F8.ev 7 rfl) rfl rfl (fun _ => rfl) rfl) rfl fun _ F9 => ?_)
 refine l_op (f_val F9 rfl rfl (r_cmp (b := decide (a.seq ≠ b.seq)) (.inr (.inl rfl)) rfl (F9.ev 6 rfl) (F9.ev 8 rfl) (dec_of (by omega))) rfl fun _ F10 => ?_)
 rw [show (decide (a.seq ≠ b.seq)) = false from decide_eq_false (fun h => h (by rw [p0]))] at F10
 refine s_end (x_normal (wp_cond_false (F10.ev 9 rfl) (wp_skip (x_normal (wp_seq (wp_seq (wp_region_lit (l_op (f_val F10 rfl rfl (r_field FI_81_1 rfl (F10.ev 2 rfl) rfl) rfl fun _ F11 => ?_)))))))))
 refine l_op (f_val (v := .slice Q0 Q2 Q1) F11 rfl rfl (r_loadB S3.at' 1 TI_28 rfl rfl (F11.ev 10 rfl) rfl rfl (fun _ => rfl) rfl) rfl fun _ F12 => ?_)
 refine l_op (f_val F12 rfl rfl (r_field FI_81_1 rfl (F12.ev 3 rfl) rfl) rfl fun _ F13 => ?_)
 refine l_op (f_val (v := .slice Q3 Q5 Q4) F13 rfl rfl (r_loadB S3.at' 0 TI_28 rfl rfl (F13.ev 12 rfl) rfl rfl (fun _ => rfl) rfl) rfl fun _ F14 => ?_)
 refine l_op (f_call F14 CF_10 rfl rfl rfl rfl (lc (F14.ev 11 rfl) (lc (F14.ev 13 rfl) rfl)) (laws_eqCellS_c (a := a.cells) (b := b.cells) (Rd.mq Q8 (S1.trans S3)) (Rd.mq Q9 (S1.trans S3)) (by rw [p0])) ?_)
 rintro _ w15 ⟨rfl, m15⟩
 refine ⟨_, rfl, fun _ F16 => ?_⟩
 have S15 := At.frame0 S3.at' m15
 clear m15
 refine l_op (f_val F16 rfl rfl (r_not rfl (F16.ev 14 rfl)) rfl fun _ F17 => ?_)
 refine s_end (x_normal (wp_cond_false (F17.ev 15 rfl) (wp_skip (x_normal (wp_seq (wp_seq (wp_region_lit (l_op (f_val F17 rfl rfl (r_field FI_81_2 rfl (F17.ev 2 rfl) rfl) rfl fun _ F18 => ?_)))))))))
 refine l_op (f_val (v := .bool a.whole) F18 rfl rfl (r_loadB S15.at' 1 TI_4 rfl rfl (F18.ev 16 rfl) rfl rfl (fun _ => rfl) rfl) rfl fun _ F19 => ?_)
 refine l_op (f_val F19 rfl rfl (r_field FI_81_2 rfl (F19.ev 3 rfl) rfl) rfl fun _ F20 => ?_)
 refine l_op (f_val (v := .bool b.whole) F20 rfl rfl (r_loadB S15.at' 0 TI_4 rfl rfl (F20.ev 18 rfl) rfl rfl (fun _ => rfl) rfl) rfl fun _ F21 => ?_)
 refine l_op (f_val F21 rfl rfl (r_cmpb (b := (a.whole != b.whole)) Tryz.underlying4 (.inr rfl) rfl (F21.ev 17 rfl) (F21.ev 19 rfl) rfl) rfl fun _ F22 => ?_)
 rw [show (a.whole != b.whole) = false from by rw [p0]; exact bne_self_eq_false _] at F22
 refine s_end (x_normal (wp_cond_false (F22.ev 20 rfl) (wp_skip (x_normal (wp_seq (wp_region_lit (l_op (f_val F22 rfl rfl (r_assign rfl rfl) rfl fun _ F23 => ?_))))))))
 refine s_end (x_normal (wp_ret ?_))
 refine x_done (v := .bool true) F23 (results_1 Tryz.results103 (.tmp (F23.ev 4 rfl))) ?_
 exact ⟨rfl, (Mv.pick (S1.trans (S3.trans S15)) [] rfl)⟩
theorem laws_szSlotS_c {w : World} {H : Nat → Prop} {a : List SlotH} {a_a : Option Addr} {a_n a_c : Nat} {left : Int} (v_a : RdA 3 encSlot okSlot H w (.slice a_a a_n a_c) a) (u_a : NRa inSlot H w a) (Q0 : i64ok left) (p0 : 0 ≤ left) (p1 : left ≤ 1048576) :
    Calls Tryz.prog 35 #[.slice a_a a_n a_c, .int .i64 left] w fun e w' => e = .returned (.int .i64 (subOr left (szSlotsH a))) ∧ Mv [] w [] w' ∧ i64ok (subOr left (szSlotsH a)) := by
 have uU : True := (fun _ => trivial) Q0
 clear uU
 have V_v_a : RdA 3 encSlot okSlot (V H w []) w (.slice a_a a_n a_c) a := RdA.start v_a (fun _ _ => fps_nil _)
 obtain ⟨ln_a, le_a, mx_a, ni_a⟩ := RdA.inv v_a
 have V_u_a : NRa inSlot (V H w []) w a := NRa.start u_a (fun _ _ => fps_nil _)
 refine calls_enter 27 Tryz.func35 rfl Tryz.ntmps35 (Nat.le_of_ble_eq_true rfl) (fun _ F0i => ?_)
 have F0 : Fr 27 [(0, .slice a_a a_n a_c), (1, .int .i64 left)] _ := F0i
 clear F0i
 refine wp_seq (wp_region_lit (l_op (f_val F0 rfl rfl (r_assign rfl rfl) rfl fun _ F1 => ?_)))
 refine s_end (x_normal (wp_seq (wp_region_lit (l_op (f_mv F1 rfl rfl rfl rfl rfl fun _ F2 => ?_)))))
 refine l_op (f_mv F2 rfl rfl rfl rfl rfl fun _ F3 => ?_)
 refine l_op (f_val F3 rfl rfl (r_len Tryz.underlying22 rfl (F3.ev 7 rfl)) rfl fun _ F4 => ?_)
 refine l_op (f_val F4 rfl rfl (r_sub (z := (left - ((a_n : Nat) : Int))) rfl (F4.ev 6 rfl) (F4.ev 8 rfl) (by first | rfl | omega) ⟨by first | omega | (unfold i64ok at *; omega), by first | omega | (unfold i64ok at *; omega)⟩) rfl fun _ F5 => ?_)
 refine l_op (f_as F5 rfl rfl rfl rfl rfl fun _ F6 => ?_)
 refine s_end (x_normal (wp_seq (wp_seq (wp_region_lit (l_op (f_mv F6 rfl rfl rfl rfl rfl fun _ F7 => ?_))))))
 refine l_op (f_val F7 rfl rfl (r_cmp (b := decide ((left - ((a_n : Nat) : Int)) < 0)) (.inr (.inr (.inl rfl))) rfl (F7.ev 10 rfl) rfl (dec_of (by omega))) rfl fun _ F8 => ?_)
 refine s_end (x_normal (x_cond (p := (left - ((a_n : Nat) : Int)) < 0) (F8.ev 11 rfl) (fun h9 => ?_) (fun h9 => ?_)))
 · skip
   refine wp_seq (wp_region_lit (l_op (f_val F8 rfl rfl (r_assign rfl rfl) rfl fun _ F10 => ?_)))
   refine s_end (x_normal (wp_ret (x_then_ret ?_)))
   refine x_done (v := .int .i64 (-1)) F10 (results_1 Tryz.results35 (.tmp (F10.ev 4 rfl))) ?_
   exact ⟨(by rw [(show (-1) = (subOr left (szSlotsH a)) from by unfold szSlotsH; rw [← ln_a]; exact sz_neg ‹_›)]), (Mv.pick (Mv.refl (At.nil w)) [] rfl), subOr_i64 p0 p1⟩
 · skip
   refine wp_skip (x_normal (wp_seq (wp_seq (wp_region_lit (l_op (f_val F8 rfl rfl (r_assign rfl rfl) rfl fun _ F11 => ?_))))))
   refine s_end (x_normal (wp_block ?_))
   refine x_loop (fun (k : Nat) aZ wZ => ∃ (lv : Int), Fr 27 [(5, .int .i64 ((k : Nat) : Int)), (1, .int .i64 lv), (0, .slice a_a a_n a_c)] aZ ∧ Mv [] w [] wZ ∧ (k ≤ a_n) ∧ (lv = left - ((a.length + sumOf szSlotH (a.take k) : Nat) : Int)) ∧ (0 ≤ lv)) (fun (k : Nat) => a_n - k) (0) ?_ ?_
   · exact ⟨(left - ((a_n : Nat) : Int)), F11.cut rfl, (Mv.refl (At.nil w)), by omega, by have e : sumOf szSlotH (a.take 0) = 0 := rfl; rw [e]; omega, by omega⟩
   · rintro k a12 w12 ⟨lv, F12, S12, hk_0, hk_1, hk_2⟩
     refine wp_seq (wp_seq (wp_region_lit (l_op (f_mv F12 rfl rfl rfl rfl rfl fun _ F13 => ?_))))
     refine l_op (f_mv F13 rfl rfl rfl rfl rfl fun _ F14 => ?_)
     refine l_op (f_val F14 rfl rfl (r_len Tryz.underlying22 rfl (F14.ev 13 rfl)) rfl fun _ F15 => ?_)
     refine l_op (f_val F15 rfl rfl (r_cmp (b := decide (k < a_n)) (.inr (.inr (.inl rfl))) rfl (F15.ev 12 rfl) (F15.ev 14 rfl) (dec_of (by omega))) rfl fun _ F16 => ?_)
     refine s_end (x_normal (x_cond (p := k < a_n) (F16.ev 15 rfl) (fun h17 => ?_) (fun h17 => ?_)))
     · skip
       refine wp_skip (x_normal (wp_seq (wp_block (wp_seq (wp_region_lit (l_op (f_mv F16 rfl rfl rfl rfl rfl fun _ F18 => ?_)))))))
       refine l_op (f_mv F18 rfl rfl rfl rfl rfl fun _ F19 => ?_)
       obtain ⟨B20, O20, x1, ad20, hx1, okx1, ln20, cl20⟩ := RdA.at (RdA.mv (Nat.succ_pos _) V_v_a S12) k (by first | assumption | omega)
       clear ln20
       have oj21 := okx1
       unfold okSlot at oj21
       have VI22 : RdA 2 encC okC (V H w []) w12 (.slice x1.a0 x1.n0 x1.c0) x1.d.cells := NRa.get (NRa.mv V_u_a S12) hx1 (j := 0) rfl
       obtain ⟨ln22, le22, mx22, ni22⟩ := RdA.inv VI22
       refine l_op (f_val F19 rfl rfl (r_indexAddr (i := k) ET_22 rfl ((F19.ev 18 rfl).trans (by rw [ad20])) (F19.ev 19 rfl) (by omega) (by first | assumption | omega)) rfl fun _ F23 => ?_)
       refine l_op (f_val (v := .agg #[.int .i64 x1.d.seq, .slice x1.a0 x1.n0 x1.c0, .bool x1.d.whole]) F23 rfl rfl (r_load (cs := [.int .i64 x1.d.seq, .slice x1.a0 x1.n0 x1.c0, .bool x1.d.whole]) TI_126 rfl (F23.ev 20 rfl) rfl (fun h => nomatch h) (elem_sub (f := 0) cl20 [.int .i64 x1.d.seq, .slice x1.a0 x1.n0 x1.c0, .bool x1.d.whole] rfl)) rfl fun _ F24 => ?_)
       refine l_op (f_mv F24 rfl rfl rfl rfl rfl fun _ F25 => ?_)
       refine l_op (f_call F25 CF_86 rfl rfl rfl rfl (lc (F25.ev 21 rfl) (lc (F25.ev 22 rfl) rfl)) (laws_szSlot_c (a := x1.d) (left := lv) okx1 VI22 (by first | assumption | exact ⟨by omega, by omega⟩ | (unfold i64ok at *; omega)) (by first | assumption | omega | (simp <;> omega)) (by first | assumption | omega | (simp <;> omega))) ?_)
       rintro _ w26 ⟨rfl, m26, q26_0⟩
       refine ⟨_, rfl, fun _ F27 => ?_⟩
       have S26 := At.frame0 S12.at' m26
       clear m26
       refine l_op (f_as F27 rfl rfl rfl rfl rfl fun _ F28 => ?_)
       refine s_end (x_normal (wp_seq (wp_region_lit (l_op (f_mv F28 rfl rfl rfl rfl rfl fun _ F29 => ?_)))))
       refine l_op (f_val F29 rfl rfl (r_cmp (b := decide ((subOr lv (szCells x1.d.cells)) < 0)) (.inr (.inr (.inl rfl))) rfl (F29.ev 24 rfl) rfl (dec_of (by omega))) rfl fun _ F30 => ?_)
       refine s_end (x_normal (x_cond (p := (subOr lv (szCells x1.d.cells)) < 0) (F30.ev 25 rfl) (fun h31 => ?_) (fun h31 => ?_)))
       · skip
         refine wp_seq (wp_region_lit (l_op (f_val F30 rfl rfl (r_assign rfl rfl) rfl fun _ F32 => ?_)))
         refine s_end (x_normal (wp_ret (x_block_ret (x_then_ret (x_then_ret (x_block_ret (x_then_ret ?_)))))))
         refine x_done (v := .int .i64 (-1)) F32 (results_1 Tryz.results35 (.tmp (F32.ev 4 rfl))) ?_
         exact ⟨(by rw [(show (-1) = (subOr left (szSlotsH a)) from by unfold szSlotsH; exact sz_stop (f := szSlotH) hx1 hk_1 ‹_›)]), (Mv.pick (S12.trans S26) [] rfl), subOr_i64 p0 p1⟩
       · skip
         refine wp_skip (x_block_normal (x_normal (wp_region_lit (l_op (f_mv F30 rfl rfl rfl rfl rfl fun _ F33 => ?_)))))
         refine l_op (f_val F33 rfl rfl (r_add (z := ((k + 1 : Nat) : Int)) rfl (F33.ev 16 rfl) rfl (by first | rfl | omega) ⟨by first | omega | (unfold i64ok at *; omega), by first | omega | (unfold i64ok at *; omega)⟩) rfl fun _ F34 => ?_)
         refine l_op (f_as F34 rfl rfl rfl rfl rfl fun _ F35 => ?_)
         refine s_end ?_
         refine x_normal ⟨k + 1, by omega, (subOr lv (szCells x1.d.cells)), F35.cut rfl, ((S12.trans S26).pick [] rfl), by omega, (sz_next (f := szSlotH) hx1 hk_1 ‹_›).1, (sz_next (f := szSlotH) hx1 hk_1 ‹_›).2⟩
     · skip
       refine wp_exit (x_then_exit (x_then_exit (x_block_here (x_normal (wp_seq (wp_region_lit (l_op (f_mv F16 rfl rfl rfl rfl rfl fun _ F36 => ?_))))))))
       refine l_op (f_as F36 rfl rfl rfl rfl rfl fun _ F37 => ?_)
       refine s_end (x_normal (wp_ret ?_))
       refine x_done (v := .int .i64 lv) F37 (results_1 Tryz.results35 (.tmp (F37.ev 4 rfl))) ?_
       exact ⟨(by rw [(show lv = (subOr left (szSlotsH a)) from by unfold szSlotsH; exact sz_done (by omega) hk_1 hk_2)]), (Mv.pick S12 [] rfl), subOr_i64 p0 p1⟩
theorem laws_toSlotS_c {w : World} {H : Nat → Prop} {a : List SlotH} {a_a : Option Addr} {a_n a_c : Nat} (v_a : RdA 3 encSlot okSlot H w (.slice a_a a_n a_c) a) (u_a : NRa inSlot H w a) (p0 : a.length ≤ 1048576) (p1 : slotsFit 1048576 (a.map SlotH.d)) :
    Calls Tryz.prog 41 #[.slice a_a a_n a_c] w fun e w' => ∃ (D : List SlotH), ∃ (r0_a : Option Addr), ∃ (r0_n : Nat), ∃ (r0_c : Nat), e = .returned (.slice r0_a r0_n r0_c) ∧ Mv [] w [ow 81 3 encSlot okSlot (.slice r0_a r0_n r0_c) D, gr inSlot D] w' ∧ D.map SlotH.d = a.map SlotH.d ∧ D.length = a.length := by
 have uU : True := (fun _ => trivial) p0
 clear uU
 have V_v_a : RdA 3 encSlot okSlot (V H w []) w (.slice a_a a_n a_c) a := RdA.start v_a (fun _ _ => fps_nil _)
 obtain ⟨ln_a, le_a, mx_a, ni_a⟩ := RdA.inv v_a
 have V_u_a : NRa inSlot (V H w []) w a := NRa.start u_a (fun _ _ => fps_nil _)
 refine calls_enter 23 Tryz.func41 rfl Tryz.ntmps41 (Nat.le_of_ble_eq_true rfl) (fun _ F0i => ?_)
 have F0 : Fr 23 [(0, .slice a_a a_n a_c)] _ := F0i
 clear F0i
 refine wp_seq (wp_region_lit (l_op (f_val F0 rfl rfl (r_assign rfl rfl) rfl fun _ F1 => ?_)))
 refine s_end (x_normal (wp_seq (wp_region_lit (l_op (f_mv F1 rfl rfl rfl rfl rfl fun _ F2 => ?_)))))
 refine l_op (f_val F2 rfl rfl (r_len Tryz.underlying22 rfl (F2.ev 5 rfl)) rfl fun _ F3 => ?_)
 refine l_op (f_mk (ok := okSlot) zSlot F3 (At.nil w) ET_31 rfl rfl rfl rfl (F3.ev 6 rfl) (F3.ev 6 rfl) rfl (show i64ok 0 from by first | assumption | exact ⟨by omega, by omega⟩) (by omega) fun b4 _ w4 F5 S4 => ?_)
 have S6 : Mv [ow 81 3 encSlot okSlot (.slice (some ⟨b4, 0, none⟩) a_n a_n) (List.replicate a_n zSlot)] w4 [gr inSlot (List.replicate a_n zSlot), ow 81 3 encSlot okSlot (.slice (some ⟨b4, 0, none⟩) a_n a_n) (List.replicate a_n zSlot)] w4 := gr_new S4.at' _ (zSlot_all _)
 refine l_op (f_as F5 rfl rfl rfl rfl rfl fun _ F7 => ?_)
 refine s_end (x_normal (wp_seq (wp_seq (wp_region_lit (l_op (f_val F7 rfl rfl (r_assign rfl rfl) rfl fun _ F8 => ?_))))))
 refine s_end (x_normal (wp_block ?_))
 refine x_loop (fun (k : Nat) aZ wZ => ∃ (D : List SlotH), ∃ (oa : Option Addr), ∃ (on : Nat), ∃ (oc : Nat), Fr 23 [(4, .int .i64 ((k : Nat) : Int)), (3, .slice oa on oc), (0, .slice a_a a_n a_c)] aZ ∧ Mv [gr inSlot (List.replicate a_n zSlot), ow 81 3 encSlot okSlot (.slice (some ⟨b4, 0, none⟩) a_n a_n) (List.replicate a_n zSlot)] w4 [gr inSlot D, ow 81 3 encSlot okSlot (.slice oa on oc) D] wZ ∧ (k ≤ a_n) ∧ (D.map SlotH.d = copyTo zSlot.d k (a.map SlotH.d)) ∧ (on = a_n)) (fun (k : Nat) => a_n - k) (0) ?_ ?_
 · exact ⟨List.replicate a_n zSlot, (some ⟨b4, 0, none⟩), a_n, a_n, F8.cut rfl, (Mv.refl S6.at'), by omega, copyM_start ln_a, rfl⟩
 · rintro k a9 w9 ⟨D, oa, on, oc, F9, S9, hk_0, hk_1, hk_2⟩
   refine wp_seq (wp_seq (wp_region_lit (l_op (f_mv F9 rfl rfl rfl rfl rfl fun _ F10 => ?_))))
   refine l_op (f_mv F10 rfl rfl rfl rfl rfl fun _ F11 => ?_)
   refine l_op (f_val F11 rfl rfl (r_len Tryz.underlying22 rfl (F11.ev 9 rfl)) rfl fun _ F12 => ?_)
   refine l_op (f_val F12 rfl rfl (r_cmp (b := decide (k < a_n)) (.inr (.inr (.inl rfl))) rfl (F12.ev 8 rfl) (F12.ev 10 rfl) (dec_of (by omega))) rfl fun _ F13 => ?_)
   refine s_end (x_normal (x_cond (p := k < a_n) (F13.ev 11 rfl) (fun h14 => ?_) (fun h14 => ?_)))
   · skip
     refine wp_skip (x_normal (wp_seq (wp_block (wp_region_lit (l_op (f_mv F13 rfl rfl rfl rfl rfl fun _ F15 => ?_))))))
     refine l_op (f_mv F15 rfl rfl rfl rfl rfl fun _ F16 => ?_)
     refine l_op (f_mv F16 rfl rfl rfl rfl rfl fun _ F17 => ?_)
     refine l_op (f_mv F17 rfl rfl rfl rfl rfl fun _ F18 => ?_)
     obtain ⟨B19, O19, x1, ad19, hx1, okx1, ln19, cl19⟩ := RdA.at (RdA.mv (Nat.succ_pos _) V_v_a (S4.trans (S6.trans S9))) k (by first | assumption | omega)
     clear ln19
     have oj20 := okx1
     unfold okSlot at oj20
     have VI21 : RdA 2 encC okC (V H w [gr inSlot D, ow 81 3 encSlot okSlot (.slice oa on oc) D]) w9 (.slice x1.a0 x1.n0 x1.c0) x1.d.cells := NRa.get (NRa.mv V_u_a (S4.trans (S6.trans S9))) hx1 (j := 0) rfl
     obtain ⟨ln21, le21, mx21, ni21⟩ := RdA.inv VI21
     refine l_op (f_val F18 rfl rfl (r_indexAddr (i := k) ET_22 rfl ((F18.ev 16 rfl).trans (by rw [ad19])) (F18.ev 17 rfl) (by omega) (by first | assumption | omega)) rfl fun _ F22 => ?_)
     refine l_op (f_val (v := .agg #[.int .i64 x1.d.seq, .slice x1.a0 x1.n0 x1.c0, .bool x1.d.whole]) F22 rfl rfl (r_load (cs := [.int .i64 x1.d.seq, .slice x1.a0 x1.n0 x1.c0, .bool x1.d.whole]) TI_126 rfl (F22.ev 18 rfl) rfl (fun h => nomatch h) (elem_sub (f := 0) cl19 [.int .i64 x1.d.seq, .slice x1.a0 x1.n0 x1.c0, .bool x1.d.whole] rfl)) rfl fun _ F23 => ?_)
     refine l_op (f_call F23 CF_92 rfl rfl rfl rfl (lc (F23.ev 19 rfl) rfl) (laws_toSlot_c (a := x1.d) okx1 VI21 (by have hb := p1.at hx1; omega)) ?_)
     rintro _ w24 ⟨Q0, Q2, Q1, rfl, m24⟩
     refine ⟨_, rfl, fun _ F25 => ?_⟩
     have S24 : Mv _ _ [ow 91 2 encC okC (.slice Q0 Q2 Q1) x1.d.cells, gr inSlot D, ow 81 3 encSlot okSlot (.slice oa on oc) D] _ := At.frame S9.at' [] rfl m24
     obtain ⟨Q3, Q4, Q5⟩ := At.ownInv S24.at' ET_28.hk 0 rfl
     clear m24
     obtain ⟨B26, x2, ad26, hx2, okx2, cl26⟩ := At.ownAt S24.at' ET_31.hk 2 rfl k  (by first | assumption | omega)
     have oj27 := okx2
     unfold okSlot at oj27
     obtain ⟨ln28, le28, mx28, ni28⟩ := Rd.inv (show Rd 2 encC okC (fun _ => True) w24 (.slice x2.a0 x2.n0 x2.c0) x2.d.cells from NRd.get (At.nrd S24.at' 1 rfl) hx2 (j := 0) rfl)
     refine l_op (f_val F25 rfl rfl (r_indexAddr (i := k) ET_31 rfl ((F25.ev 14 rfl).trans (by rw [ad26])) (F25.ev 15 rfl) (by omega) (by first | assumption | omega)) rfl fun _ F29 => ?_)
     refine l_op (s_storeEl S24.at' 2 k (⟨x1.d, Q0, Q2, Q1⟩ : SlotH) ET_31.hk ET_31.h1 TI_81 rfl ad26 rfl rfl rfl rfl (F29.ev 21 rfl) (F29.ev 20 rfl) rfl (by first | assumption | omega) (show i64ok x1.d.seq from by first | assumption | exact ⟨by omega, by omega⟩) fun w30 S30 => ?_)
     have S31 : Mv [ow 81 3 encSlot okSlot (.slice oa on oc) (D.set k (⟨x1.d, Q0, Q2, Q1⟩ : SlotH)), ow 91 2 encC okC (.slice Q0 Q2 Q1) x1.d.cells, gr inSlot D] w30 [gr inSlot (D.set k (⟨x1.d, Q0, Q2, Q1⟩ : SlotH)), ow 81 3 encSlot okSlot (.slice oa on oc) (D.set k (⟨x1.d, Q0, Q2, Q1⟩ : SlotH))] w30 := gr_set S30.at' [1, 2] (⟨x1.d, Q0, Q2, Q1⟩ : SlotH) k rfl rfl
     have T32 : Mv _ _ [gr inSlot (D.set k (⟨x1.d, Q0, Q2, Q1⟩ : SlotH)), ow 81 3 encSlot okSlot (.slice oa on oc) (D.set k (⟨x1.d, Q0, Q2, Q1⟩ : SlotH))] _ := S31
     refine s_end (x_block_normal (x_normal (wp_region_lit (l_op (f_mv F29 rfl rfl rfl rfl rfl fun _ F33 => ?_)))))
     refine l_op (f_val F33 rfl rfl (r_add (z := ((k + 1 : Nat) : Int)) rfl (F33.ev 12 rfl) rfl (by first | rfl | omega) ⟨by first | omega | (unfold i64ok at *; omega), by first | omega | (unfold i64ok at *; omega)⟩) rfl fun _ F34 => ?_)
     refine l_op (f_as F34 rfl rfl rfl rfl rfl fun _ F35 => ?_)
     refine s_end ?_
     refine x_normal ⟨k + 1, by omega, D.set k (⟨x1.d, Q0, Q2, Q1⟩ : SlotH), oa, on, oc, F35.cut rfl, ((S9.trans (S24.trans (S30.trans T32))).pick [0, 1] rfl), by omega, copyM_step hk_1 hx1 rfl, by assumption⟩
   · skip
     refine wp_exit (x_then_exit (x_then_exit (x_block_here (x_normal (wp_seq (wp_region_lit (l_op (f_mv F13 rfl rfl rfl rfl rfl fun _ F36 => ?_))))))))
     refine l_op (f_as F36 rfl rfl rfl rfl rfl fun _ F37 => ?_)
     refine s_end (x_normal (wp_ret ?_))
     refine x_done (v := .slice oa on oc) F37 (results_1 Tryz.results41 (.tmp (F37.ev 2 rfl))) ?_
     exact ⟨D, oa, on, oc, rfl, (Mv.pick (S4.trans (S6.trans S9)) [1, 0] rfl), copyM_end hk_1 (by omega), by have := congrArg List.length (copyM_end hk_1 (by omega)); simpa using this⟩
theorem laws_eqSlotS_c {w : World} {H : Nat → Prop} {a : List SlotH} {a_a : Option Addr} {a_n a_c : Nat} {b : List SlotH} {b_a : Option Addr} {b_n b_c : Nat} (v_a : Rd 3 encSlot okSlot H w (.slice a_a a_n a_c) a) (u_a : NRd inSlot H w a) (v_b : Rd 3 encSlot okSlot H w (.slice b_a b_n b_c) b) (u_b : NRd inSlot H w b) (p0 : a.map SlotH.d = b.map SlotH.d) :
    Calls Tryz.prog 49 #[.slice a_a a_n a_c, .slice b_a b_n b_c] w fun e w' => e = .returned (.bool true) ∧ Mv [] w [] w' := by
 have V_v_a : Rd 3 encSlot okSlot (V H w []) w (.slice a_a a_n a_c) a := Rd.start v_a (fun _ _ => fps_nil _)
 obtain ⟨ln_a, le_a, mx_a, ni_a⟩ := Rd.inv v_a
 have Q0 : Rd 3 encSlot okSlot (V H w []) w (.slice b_a b_n b_c) b := Rd.start v_b (fun _ _ => fps_nil _)
 obtain ⟨ln_b, le_b, mx_b, ni_b⟩ := Rd.inv v_b
 have V_u_a : NRd inSlot (V H w []) w a := NRd.start u_a (fun _ _ => fps_nil _)
 have Q1 : NRd inSlot (V H w []) w b := NRd.start u_b (fun _ _ => fps_nil _)
 refine calls_enter 27 Tryz.func49 rfl Tryz.ntmps49 (Nat.le_of_ble_eq_true rfl) (fun _ F0i => ?_)
 have F0 : Fr 27 [(0, .slice a_a a_n a_c), (1, .slice b_a b_n b_c)] _ := F0i
 clear F0i
 refine wp_seq ?_
 have hab : a_n = b_n := by rw [ln_a, ln_b, lenM p0]
 refine wp_region_lit (l_op (f_val F0 rfl rfl (r_assign rfl rfl) rfl fun _ F1 => ?_))
 refine s_end (x_normal (wp_seq (wp_seq (wp_region_lit (l_op (f_mv F1 rfl rfl rfl rfl rfl fun _ F2 => ?_))))))
 refine l_op (f_val F2 rfl rfl (r_len Tryz.underlying31 rfl (F2.ev 6 rfl)) rfl fun _ F3 => ?_)
 refine l_op (f_mv F3 rfl rfl rfl rfl rfl fun _ F4 => ?_)
 refine l_op (f_val F4 rfl rfl (r_len Tryz.underlying31 rfl (F4.ev 8 rfl)) rfl fun _ F5 => ?_)
 refine l_op (f_val F5 rfl rfl (r_cmp (b := decide (a_n ≠ b_n)) (.inr (.inl rfl)) rfl (F5.ev 7 rfl) (F5.ev 9 rfl) (dec_of (by omega))) rfl fun _ F6 => ?_)
 rw [show (decide (a_n ≠ b_n)) = false from decide_eq_false (fun h => h hab)] at F6
 refine s_end (x_normal (wp_cond_false (F6.ev 10 rfl) (wp_skip (x_normal (wp_seq (wp_seq (wp_region_lit (l_op (f_val F6 rfl rfl (r_assign rfl rfl) rfl fun _ F7 => ?_)))))))))
 refine s_end (x_normal (wp_block ?_))
 refine x_loop (fun (k : Nat) aZ wZ => Fr 27 [(5, .int .i64 ((k : Nat) : Int)), (0, .slice a_a a_n a_c), (1, .slice b_a b_n b_c)] aZ ∧ Mv [] w [] wZ ∧ (k ≤ a_n)) (fun (k : Nat) => a_n - k) (0) ?_ ?_
 · exact ⟨F7.cut rfl, (Mv.refl (At.nil w)), by omega⟩
 · rintro k a8 w8 ⟨F8, S8, hk_0⟩
   refine wp_seq (wp_seq (wp_region_lit (l_op (f_mv F8 rfl rfl rfl rfl rfl fun _ F9 => ?_))))
   refine l_op (f_mv F9 rfl rfl rfl rfl rfl fun _ F10 => ?_)
   refine l_op (f_val F10 rfl rfl (r_len Tryz.underlying31 rfl (F10.ev 12 rfl)) rfl fun _ F11 => ?_)
   refine l_op (f_val F11 rfl rfl (r_cmp (b := decide (k < a_n)) (.inr (.inr (.inl rfl))) rfl (F11.ev 11 rfl) (F11.ev 13 rfl) (dec_of (by omega))) rfl fun _ F12 => ?_)
   refine s_end (x_normal (x_cond (p := k < a_n) (F12.ev 14 rfl) (fun h13 => ?_) (fun h13 => ?_)))
   · skip
     refine wp_skip (x_normal (wp_seq (wp_block (wp_seq ?_))))
     obtain ⟨x1, hx1, okx1⟩ := Rd.elem (Rd.mq V_v_a S8) k (by first | assumption | omega)
     have oj15 := okx1
     unfold okSlot at oj15
     have VI16 : Rd 2 encC okC (V H w []) w8 (.slice x1.a0 x1.n0 x1.c0) x1.d.cells := NRd.get (NRd.mv V_u_a S8) hx1 (j := 0) rfl
     obtain ⟨ln16, le16, mx16, ni16⟩ := Rd.inv VI16
     obtain ⟨x2, hx2, okx2⟩ := Rd.elem (Rd.mq Q0 S8) k (by first | assumption | omega)
     have oj17 := okx2
     unfold okSlot at oj17
     have VI18 : Rd 2 encC okC (V H w []) w8 (.slice x2.a0 x2.n0 x2.c0) x2.d.cells := NRd.get (NRd.mv Q1 S8) hx2 (j := 0) rfl
     obtain ⟨ln18, le18, mx18, ni18⟩ := Rd.inv VI18
     refine x_draw (fun aZ wZ => Fr 27 [(0, .slice a_a a_n a_c), (1, .slice b_a b_n b_c), (5, .int .i64 ((k : Nat) : Int)), (26, .bool false)] aZ ∧ Mv [] w8 [] wZ) [] mixed S8.at' (listed := #[false, false, false, false, false, false, false, false, false, false]) rfl (fun w19 S19 => ?_) [] rfl ?_
     · skip
       refine g_take F12 rfl (i := 0) (listed' := #[true, false, false, false, false, false, false, false, false, false]) rfl (by kernel_rfl) (by kernel_rfl) (by kernel_rfl) (fun _ _ _ h => h) (Sd.of (Mv.refl S19.at') [] rfl) rfl rfl rfl rfl (fun _ hz => (r_move rfl (F12.ev 0 rfl))) fun _ F20 => ?_
       refine g_take F20 rfl (i := 1) (listed' := #[true, true, false, false, false, false, false, false, false, false]) rfl (by kernel_rfl) (by kernel_rfl) (by kernel_rfl) (fun _ _ _ h => h) (Sd.of (Mv.refl S19.at') [] rfl) rfl rfl rfl rfl (fun _ hz => (r_move rfl (F20.ev 5 rfl))) fun _ F21 => ?_
       obtain ⟨B22, O22, y22, ad22, hy22, oky22, ln22, cl22⟩ := Rd.atK (Nat.succ_pos _) (Rd.mq V_v_a (S8.trans S19)) k (by first | assumption | omega)
       clear ln22
       obtain rfl := Option.some.inj (hx1.symm.trans hy22)
       clear hy22 oky22
       refine g_take F21 rfl (i := 2) (listed' := #[true, true, true, false, false, false, false, false, false, false]) rfl (by kernel_rfl) (by kernel_rfl) (by kernel_rfl) (fun _ _ _ h => h) (Sd.of (Mv.refl S19.at') [] rfl) rfl rfl rfl rfl (fun _ hz => (r_indexAddr (i := k) ET_31 rfl ((F21.ev 17 rfl).trans (by rw [ad22])) (F21.ev 18 rfl) (by omega) (by first | assumption | omega))) fun _ F23 => ?_
       refine g_take (v := .agg #[.int .i64 x1.d.seq, .slice x1.a0 x1.n0 x1.c0, .bool x1.d.whole]) F23 rfl (i := 3) (listed' := #[true, true, true, true, false, false, false, false, false, false]) rfl (by kernel_rfl) (by kernel_rfl) (by kernel_rfl) (fun _ _ _ h => h) (Sd.of (Mv.refl S19.at') [] rfl) rfl rfl rfl rfl (fun _ hz => (r_load (cs := [.int .i64 x1.d.seq, .slice x1.a0 x1.n0 x1.c0, .bool x1.d.whole]) TI_81 rfl (F23.ev 19 rfl) rfl (fun h => nomatch h) (elem_sub (f := 0) (cl22 _ hz.kp) [.int .i64 x1.d.seq, .slice x1.a0 x1.n0 x1.c0, .bool x1.d.whole] rfl))) fun _ F24 => ?_
       refine g_take F24 rfl (i := 4) (listed' := #[true, true, true, true, true, false, false, false, false, false]) rfl (by kernel_rfl) (by kernel_rfl) (by kernel_rfl) (fun _ _ _ h => h) (Sd.of (Mv.refl S19.at') [] rfl) rfl rfl rfl rfl (fun _ hz => (r_move rfl (F24.ev 1 rfl))) fun _ F25 => ?_
       refine g_take F25 rfl (i := 5) (listed' := #[true, true, true, true, true, true, false, false, false, false]) rfl (by kernel_rfl) (by kernel_rfl) (by kernel_rfl) (fun _ _ _ h => h) (Sd.of (Mv.refl S19.at') [] rfl) rfl rfl rfl rfl (fun _ hz => (r_move rfl (F25.ev 5 rfl))) fun _ F26 => ?_
       obtain ⟨B27, O27, y27, ad27, hy27, oky27, ln27, cl27⟩ := Rd.atK (Nat.succ_pos _) (Rd.mq Q0 (S8.trans S19)) k (by first | assumption | omega)
       clear ln27
       obtain rfl := Option.some.inj (hx2.symm.trans hy27)
       clear hy27 oky27
       refine g_take F26 rfl (i := 6) (listed' := #[true, true, true, true, true, true, true, false, false, false]) rfl (by kernel_rfl) (by kernel_rfl) (by kernel_rfl) (fun _ _ _ h => h) (Sd.of (Mv.refl S19.at') [] rfl) rfl rfl rfl rfl (fun _ hz => (r_indexAddr (i := k) ET_31 rfl ((F26.ev 21 rfl).trans (by rw [ad27])) (F26.ev 22 rfl) (by omega) (by first | assumption | omega))) fun _ F28 => ?_
       refine g_take (v := .agg #[.int .i64 x2.d.seq, .slice x2.a0 x2.n0 x2.c0, .bool x2.d.whole]) F28 rfl (i := 7) (listed' := #[true, true, true, true, true, true, true, true, false, false]) rfl (by kernel_rfl) (by kernel_rfl) (by kernel_rfl) (fun _ _ _ h => h) (Sd.of (Mv.refl S19.at') [] rfl) rfl rfl rfl rfl (fun _ hz => (r_load (cs := [.int .i64 x2.d.seq, .slice x2.a0 x2.n0 x2.c0, .bool x2.d.whole]) TI_81 rfl (F28.ev 23 rfl) rfl (fun h => nomatch h) (elem_sub (f := 0) (cl27 _ hz.kp) [.int .i64 x2.d.seq, .slice x2.a0 x2.n0 x2.c0, .bool x2.d.whole] rfl))) fun _ F29 => ?_
       refine d_one (i := 8) (listed' := #[true, true, true, true, true, true, true, true, true, false]) rfl (by kernel_rfl) rfl rfl ?_
       refine f_call F29 CF_103 rfl rfl rfl rfl (lc (F29.ev 20 rfl) (lc (F29.ev 24 rfl) rfl)) (laws_eqSlot_c (a := x1.d) (b := x2.d) okx1 (Rd.mq VI16 S19) okx2 (Rd.mq VI18 S19) (by exact elM p0 hx1 hx2)) ?_
       rintro _ w30 ⟨rfl, m30⟩
       refine ⟨_, rfl, fun _ F31 => ?_⟩
       have S30 := At.frame0 S19.at' m30
       clear m30
       refine ⟨Sd.of S30 [] rfl, ?_⟩
       refine g_take F31 rfl (i := 9) (listed' := #[true, true, true, true, true, true, true, true, true, true]) rfl (by kernel_rfl) (by kernel_rfl) (by kernel_rfl) (fun _ _ _ h => h) (Sd.of S30 [] rfl) rfl rfl rfl rfl (fun _ hz => (r_not rfl (F31.ev 25 rfl))) fun _ F32 => ?_
       refine wpAnyH_done (by kernel_rfl) (x_normal ?_) _
       exact ⟨F32.cut rfl, ((S19.trans S30).pick [] rfl)⟩
     · rintro a33 w33 ⟨F33, S33⟩
       refine x_normal (wp_cond_false (F33.ev 26 rfl) (wp_skip (x_block_normal (x_normal (wp_region_lit (l_op (f_mv F33 rfl rfl rfl rfl rfl fun _ F34 => ?_)))))))
       refine l_op (f_val F34 rfl rfl (r_add (z := ((k + 1 : Nat) : Int)) rfl (F34.ev 15 rfl) rfl (by first | rfl | omega) ⟨by first | omega | (unfold i64ok at *; omega), by first | omega | (unfold i64ok at *; omega)⟩) rfl fun _ F35 => ?_)
       refine l_op (f_as F35 rfl rfl rfl rfl rfl fun _ F36 => ?_)
       refine s_end ?_
       refine x_normal ⟨k + 1, by omega, F36.cut rfl, ((S8.trans S33).pick [] rfl), by omega⟩
   · skip
     refine wp_exit (x_then_exit (x_then_exit (x_block_here (x_normal (wp_seq (wp_region_lit (l_op (f_val F12 rfl rfl (r_assign rfl rfl) rfl fun _ F37 => ?_))))))))
     refine s_end (x_normal (wp_ret ?_))
     refine x_done (v := .bool true) F37 (results_1 Tryz.results49 (.tmp (F37.ev 4 rfl))) ?_
     exact ⟨rfl, (Mv.pick S8 [] rfl)⟩
theorem laws_szJournal_c {w : World} {H : Nat → Prop} {a : JouD} {left : Int} (Q1 : okS a.text) (Q0 : i64ok a.sure) (Q2 : i64ok left) (p0 : 0 ≤ left) (p1 : left ≤ 1048576) :
    Calls Tryz.prog 36 #[.agg #[.string a.text, .int .i64 a.sure], .int .i64 left] w fun e w' => e = .returned (.int .i64 (subOr left a.text.size)) ∧ Mv [] w [] w' ∧ i64ok (subOr left a.text.size) := by
 have uU : True := (fun _ _ _ => trivial) H Q0 Q2
 clear uU
 have hz1 := Q1
 unfold okS at hz1
 refine calls_enter 13 Tryz.func36 rfl Tryz.ntmps36 (Nat.le_of_ble_eq_true rfl) (fun _ F0i => ?_)
 have F0 : Fr 13 [(0, .agg #[.string a.text, .int .i64 a.sure]), (1, .int .i64 left)] _ := F0i
 clear F0i
 refine wp_seq (wp_region_lit (l_op (f_box F0 (At.nil w) rfl rfl rfl (F0.ev 0 rfl) rfl rfl fun b1 _ w1 F2 S1 => ?_)))
 refine l_op (f_val F2 rfl rfl (r_assign rfl rfl) rfl fun _ F3 => ?_)
 refine s_end (x_normal (wp_seq (wp_region_lit (l_op (f_mv F3 rfl rfl rfl rfl rfl fun _ F4 => ?_)))))
 refine l_op (f_val F4 rfl rfl (r_field FI_24_0 rfl (F4.ev 2 rfl) rfl) rfl fun _ F5 => ?_)
 refine l_op (f_val (v := .string a.text) F5 rfl rfl (r_loadB S1.at' 0 TI_9 rfl rfl (F5.ev 6 rfl) rfl rfl (fun _ => rfl) rfl) rfl fun _ F6 => ?_)
 refine l_op (f_val F6 rfl rfl (r_lenS (fun t ht => by cases ht; exact Tryz.underlying9) rfl rfl (F6.ev 7 rfl)) rfl fun _ F7 => ?_)
 refine l_op (f_val F7 rfl rfl (r_sub (z := (left - ((a.text.size : Nat) : Int))) rfl (F7.ev 5 rfl) (F7.ev 8 rfl) (by first | rfl | omega) ⟨by first | omega | (unfold i64ok at *; omega), by first | omega | (unfold i64ok at *; omega)⟩) rfl fun _ F8 => ?_)
 refine l_op (f_as F8 rfl rfl rfl rfl rfl fun _ F9 => ?_)
 refine s_end (x_normal (wp_seq (wp_seq (wp_region_lit (l_op (f_mv F9 rfl rfl rfl rfl rfl fun _ F10 => ?_))))))
 refine l_op (f_val F10 rfl rfl (r_cmp (b := decide ((left - ((a.text.size : Nat) : Int)) < 0)) (.inr (.inr (.inl rfl))) rfl (F10.ev 10 rfl) rfl (dec_of (by omega))) rfl fun _ F11 => ?_)
 refine s_end (x_normal (x_cond (p := (left - ((a.text.size : Nat) : Int)) < 0) (F11.ev 11 rfl) (fun h12 => ?_) (fun h12 => ?_)))
 · skip
   refine wp_seq (wp_region_lit (l_op (f_val F11 rfl rfl (r_assign rfl rfl) rfl fun _ F13 => ?_)))
   refine s_end (x_normal (wp_ret (x_then_ret ?_)))
   refine x_done (v := .int .i64 (-1)) F13 (results_1 Tryz.results36 (.tmp (F13.ev 4 rfl))) ?_
   exact ⟨(by rw [(show (-1) = (subOr left a.text.size) from by first | exact sz1_a ‹_› | exact sz1_b ‹_›)]), (Mv.pick S1 [] rfl), subOr_i64 p0 p1⟩
 · skip
   refine wp_skip (x_normal (wp_seq (wp_region_lit (l_op (f_mv F11 rfl rfl rfl rfl rfl fun _ F14 => ?_)))))
   refine l_op (f_as F14 rfl rfl rfl rfl rfl fun _ F15 => ?_)
   refine s_end (x_normal (wp_ret ?_))
   refine x_done (v := .int .i64 (left - ((a.text.size : Nat) : Int))) F15 (results_1 Tryz.results36 (.tmp (F15.ev 4 rfl))) ?_
   exact ⟨(by rw [(show (left - ((a.text.size : Nat) : Int)) = (subOr left a.text.size) from by first | exact sz1_a ‹_› | exact sz1_b ‹_›)]), (Mv.pick S1 [] rfl), subOr_i64 p0 p1⟩
theorem laws_toJournal_c {w : World} {H : Nat → Prop} {a : JouD} (Q1 : okS a.text) (Q0 : i64ok a.sure) :
    Calls Tryz.prog 42 #[.agg #[.string a.text, .int .i64 a.sure]] w fun e w' => e = .returned (.agg #[.string a.text, .int .i64 a.sure]) ∧ Mv [] w [] w' ∧ okS a.text ∧ i64ok a.sure := by
 have uU : True := (fun _ _ => trivial) H Q0
 clear uU
 refine calls_enter 11 Tryz.func42 rfl Tryz.ntmps42 (Nat.le_of_ble_eq_true rfl) (fun _ F0i => ?_)
 have F0 : Fr 11 [(0, .agg #[.string a.text, .int .i64 a.sure])] _ := F0i
 clear F0i
 refine wp_seq (wp_region_lit (l_op (f_box F0 (At.nil w) rfl rfl rfl (F0.ev 0 rfl) rfl rfl fun b1 _ w1 F2 S1 => ?_)))
 refine l_op (f_alloc F2 S1.at' ZI_32 rfl rfl rfl rfl rfl fun b3 _ w3 F4 S3 => ?_)
 refine s_end (x_normal (wp_seq (wp_region_lit (l_op (f_alloc F4 S3.at' ZI_32 rfl rfl rfl rfl rfl fun b5 _ w5 F6 S5 => ?_)))))
 refine s_end (x_normal (wp_seq (wp_region_lit (l_op (f_val F6 rfl rfl (r_field FI_24_0 rfl (F6.ev 1 rfl) rfl) rfl fun _ F7 => ?_)))))
 refine l_op (f_val (v := .string a.text) F7 rfl rfl (r_loadB S5.at' 2 TI_9 rfl rfl (F7.ev 4 rfl) rfl rfl (fun _ => rfl) rfl) rfl fun _ F8 => ?_)
 refine l_op (f_val F8 rfl rfl (r_field FI_32_0 rfl (F8.ev 3 rfl) rfl) rfl fun _ F9 => ?_)
 refine l_op (s_store S5.at' 0 TI_9 rfl rfl rfl rfl rfl (F9.ev 6 rfl) (F9.ev 5 rfl) rfl rfl rfl rfl rfl fun w10 S10 => ?_)
 have T11 : Mv _ _ [bx b5 [.string a.text, .int .i64 0] 32, bx b3 [.string bE_, .int .i64 0] 32, bx b1 [.string a.text, .int .i64 a.sure] 24] _ := S10
 refine s_end (x_normal (wp_seq (wp_region_lit (l_op (f_val F9 rfl rfl (r_field FI_24_1 rfl (F9.ev 1 rfl) rfl) rfl fun _ F12 => ?_)))))
 refine l_op (f_val (v := .int .i64 a.sure) F12 rfl rfl (r_loadB T11.at' 2 TI_3 rfl rfl (F12.ev 7 rfl) rfl rfl (fun _ => rfl) rfl) rfl fun _ F13 => ?_)
 refine l_op (f_val F13 rfl rfl (r_field FI_32_1 rfl (F13.ev 3 rfl) rfl) rfl fun _ F14 => ?_)
 refine l_op (s_store T11.at' 0 TI_3 rfl rfl rfl rfl rfl (F14.ev 9 rfl) (F14.ev 8 rfl) rfl rfl rfl rfl rfl fun w15 S15 => ?_)
 refine s_end (x_normal (wp_seq (wp_region_lit (l_op (f_val (v := .agg #[.string a.text, .int .i64 a.sure]) F14 rfl rfl (r_loadB S15.at' 0 TI_32 rfl rfl (F14.ev 3 rfl) rfl rfl (fun h => nomatch h) rfl) rfl fun _ F16 => ?_)))))
 refine l_op (s_store S15.at' 1 TI_32 rfl rfl rfl rfl rfl (F16.ev 2 rfl) (F16.ev 10 rfl) rfl rfl rfl rfl rfl fun w17 S17 => ?_)
 refine s_end (x_normal (wp_ret ?_))
 refine x_done (v := .agg #[.string a.text, .int .i64 a.sure]) F16 (results_1 Tryz.results42 (.cell (F16.ev 2 rfl) (run_loadVar' TI_32 _ [.string a.text, .int .i64 a.sure] rfl (fun h => nomatch h) (At.cells S17.at' 0 rfl 0 [.string a.text, .int .i64 a.sure] rfl)))) ?_
 exact ⟨rfl, (Mv.pick (S1.trans (S3.trans (S5.trans (T11.trans (S15.trans S17))))) [] rfl), Q1, by first | assumption | omega⟩
theorem laws_eqJournal_c {w : World} {H : Nat → Prop} {a : JouD} {b : JouD} (Q1 : okS a.text) (Q0 : i64ok a.sure) (Q3 : okS b.text) (Q2 : i64ok b.sure) (p0 : a = b) :
    Calls Tryz.prog 50 #[.agg #[.string a.text, .int .i64 a.sure], .agg #[.string b.text, .int .i64 b.sure]] w fun e w' => e = .returned (.bool true) ∧ Mv [] w [] w' := by
 have uU : True := (fun _ _ _ _ _ => trivial) H Q1 Q0 Q3 Q2
 clear uU
 refine calls_enter 15 Tryz.func50 rfl Tryz.ntmps50 (Nat.le_of_ble_eq_true rfl) (fun _ F0i => ?_)
 have F0 : Fr 15 [(0, .agg #[.string a.text, .int .i64 a.sure]), (1, .agg #[.string b.text, .int .i64 b.sure])] _ := F0i
 clear F0i
 refine wp_seq (wp_region_lit (l_op (f_box F0 (At.nil w) rfl rfl rfl (F0.ev 0 rfl) rfl rfl fun b1 _ w1 F2 S1 => ?_)))
 refine l_op (f_box F2 S1.at' rfl rfl rfl (F2.ev 1 rfl) rfl rfl fun b3 _ w3 F4 S3 => ?_)
 refine l_op (f_val F4 rfl rfl (r_assign rfl rfl) rfl fun _ F5 => ?_)
 refine s_end (x_normal (wp_seq (wp_seq (wp_region_lit (l_op (f_val F5 rfl rfl (r_field FI_32_0 rfl (F5.ev 2 rfl) rfl) rfl fun _ F6 => ?_))))))
 refine l_op (f_val (v := .string a.text) F6 rfl rfl (r_loadB S3.at' 1 TI_9 rfl rfl (F6.ev 5 rfl) rfl rfl (fun _ => rfl) rfl) rfl fun _ F7 => ?_)
 refine l_op (f_val F7 rfl rfl (r_field FI_32_0 rfl (F7.ev 3 rfl) rfl) rfl fun _ F8 => ?_)
 refine l_op (f_val (v := .string b.text) F8 rfl rfl (r_loadB S3.at' 0 TI_9 rfl rfl (F8.ev 7 rfl) rfl rfl (fun _ => rfl) rfl) rfl fun _ F9 => ?_)
 refine l_op (f_val F9 rfl rfl (r_cmps (b := (decide (a.text ≠ b.text))) (.inr (.inl rfl)) rfl (F9.ev 6 rfl) (F9.ev 8 rfl) rfl) rfl fun _ F10 => ?_)
 rw [show (decide (a.text ≠ b.text)) = false from decide_eq_false (fun h => h (by rw [p0]))] at F10
 refine s_end (x_normal (wp_cond_false (F10.ev 9 rfl) (wp_skip (x_normal (wp_seq (wp_seq (wp_region_lit (l_op (f_val F10 rfl rfl (r_field FI_32_1 rfl (F10.ev 2 rfl) rfl) rfl fun _ F11 => ?_)))))))))
 refine l_op (f_val (v := .int .i64 a.sure) F11 rfl rfl (r_loadB S3.at' 1 TI_3 rfl rfl (F11.ev 10 rfl) rfl rfl (fun _ => rfl) rfl) rfl fun _ F12 => ?_)
 refine l_op (f_val F12 rfl rfl (r_field FI_32_1 rfl (F12.ev 3 rfl) rfl) rfl fun _ F13 => ?_)
 refine l_op (f_val (v := .int .i64 b.sure) F13 rfl rfl (r_loadB S3.at' 0 TI_3 rfl rfl (F13.ev 12 rfl) rfl rfl (fun _ => rfl) rfl) rfl fun _ F14 => ?_)
 refine l_op (f_val F14 rfl rfl (r_cmp (b := decide (a.sure ≠ b.sure)) (.inr (.inl rfl)) rfl (F14.ev 11 rfl) (F14.ev 13 rfl) (dec_of (by omega))) rfl fun _ F15 => ?_)
 rw [show (decide (a.sure ≠ b.sure)) = false from decide_eq_false (fun h => h (by rw [p0]))] at F15
 refine s_end (x_normal (wp_cond_false (F15.ev 14 rfl) (wp_skip (x_normal (wp_seq (wp_region_lit (l_op (f_val F15 rfl rfl (r_assign rfl rfl) rfl fun _ F16 => ?_))))))))
 refine s_end (x_normal (wp_ret ?_))
 refine x_done (v := .bool true) F16 (results_1 Tryz.results50 (.tmp (F16.ev 4 rfl))) ?_
 exact ⟨rfl, (Mv.pick (S1.trans S3) [] rfl)⟩
theorem laws_szDisk_c {w : World} {H : Nat → Prop} {a : DiskH} {Q0 : Option Addr} {Q2 Q1 : Nat} {left : Int} (Q3 : RdA 3 encSlot okSlot H w (.slice Q0 Q2 Q1) a.slots) (Q9 : NRa inSlot H w a.slots) (Q7 : okS a.journal.text) (Q6 : i64ok a.journal.sure) (Q8 : i64ok left) (p0 : 0 ≤ left) (p1 : left ≤ 1048576) :
    Calls Tryz.prog 6 #[.agg #[.slice Q0 Q2 Q1, .string a.journal.text, .int .i64 a.journal.sure], .int .i64 left] w fun e w' => e = .returned (.int .i64 (subOr left (szDiskH a))) ∧ Mv [] w [] w' ∧ i64ok (subOr left (szDiskH a)) := by
 have uU : True := (fun _ => trivial) Q6
 clear uU
 have Q5 : RdA 3 encSlot okSlot (V H w []) w (.slice Q0 Q2 Q1) a.slots := RdA.start Q3 (fun _ _ => fps_nil _)
 obtain ⟨Q11, Q10, Q12, Q13⟩ := RdA.inv Q3
 have Q4 : NRa inSlot (V H w []) w a.slots := NRa.start Q9 (fun _ _ => fps_nil _)
 refine calls_enter 18 Tryz.func6 rfl Tryz.ntmps6 (Nat.le_of_ble_eq_true rfl) (fun _ F0i => ?_)
 have F0 : Fr 18 [(0, .agg #[.slice Q0 Q2 Q1, .string a.journal.text, .int .i64 a.journal.sure]), (1, .int .i64 left)] _ := F0i
 clear F0i
 refine wp_seq (wp_region_lit (l_op (f_box F0 (At.nil w) rfl rfl rfl (F0.ev 0 rfl) rfl rfl fun b1 _ w1 F2 S1 => ?_)))
 refine l_op (f_val F2 rfl rfl (r_assign rfl rfl) rfl fun _ F3 => ?_)
 refine s_end (x_normal (wp_seq (wp_region_lit (l_op (f_val F3 rfl rfl (r_field FI_26_0 rfl (F3.ev 2 rfl) rfl) rfl fun _ F4 => ?_)))))
 refine l_op (f_val (v := .slice Q0 Q2 Q1) F4 rfl rfl (r_loadB S1.at' 0 TI_22 rfl rfl (F4.ev 5 rfl) rfl rfl (fun _ => rfl) rfl) rfl fun _ F5 => ?_)
 refine l_op (f_mv F5 rfl rfl rfl rfl rfl fun _ F6 => ?_)
 refine l_op (f_call F6 CF_35 rfl rfl rfl rfl (lc (F6.ev 6 rfl) (lc (F6.ev 7 rfl) rfl)) (laws_szSlotS_c (a := a.slots) (left := left) (RdA.mv (Nat.succ_pos _) Q5 S1) (NRa.mv Q4 S1) Q8 (by first | assumption | omega | (simp <;> omega)) (by first | assumption | omega | (simp <;> omega))) ?_)
 rintro _ w7 ⟨rfl, m7, q7_0⟩
 refine ⟨_, rfl, fun _ F8 => ?_⟩
 have S7 := At.frame0 S1.at' m7
 clear m7
 refine l_op (f_as F8 rfl rfl rfl rfl rfl fun _ F9 => ?_)
 refine s_end (x_normal (wp_seq (wp_seq (wp_region_lit (l_op (f_mv F9 rfl rfl rfl rfl rfl fun _ F10 => ?_))))))
 refine l_op (f_val F10 rfl rfl (r_cmp (b := decide ((subOr left (szSlotsH a.slots)) < 0)) (.inr (.inr (.inl rfl))) rfl (F10.ev 9 rfl) rfl (dec_of (by omega))) rfl fun _ F11 => ?_)
 refine s_end (x_normal (x_cond (p := (subOr left (szSlotsH a.slots)) < 0) (F11.ev 10 rfl) (fun h12 => ?_) (fun h12 => ?_)))
 · skip
   refine wp_seq (wp_region_lit (l_op (f_val F11 rfl rfl (r_assign rfl rfl) rfl fun _ F13 => ?_)))
   refine s_end (x_normal (wp_ret (x_then_ret ?_)))
   refine x_done (v := .int .i64 (-1)) F13 (results_1 Tryz.results6 (.tmp (F13.ev 4 rfl))) ?_
   exact ⟨(by rw [(show (-1) = (subOr left (szDiskH a)) from by unfold szDiskH; first | exact sz2_a ‹_› | exact sz2_b ‹_› | (rw [← sz2_b ‹_›]; exact subOr_neg1 ‹_›))]), (Mv.pick (S1.trans S7) [] rfl), subOr_i64 p0 p1⟩
 · skip
   refine wp_skip (x_normal (wp_seq (wp_region_lit (l_op (f_val F11 rfl rfl (r_field FI_26_1 rfl (F11.ev 2 rfl) rfl) rfl fun _ F14 => ?_)))))
   refine l_op (f_val (v := .agg #[.string a.journal.text, .int .i64 a.journal.sure]) F14 rfl rfl (r_loadB S7.at' 0 TI_24 rfl rfl (F14.ev 11 rfl) rfl rfl (fun h => nomatch h) rfl) rfl fun _ F15 => ?_)
   refine l_op (f_mv F15 rfl rfl rfl rfl rfl fun _ F16 => ?_)
   refine l_op (f_call F16 CF_36 rfl rfl rfl rfl (lc (F16.ev 12 rfl) (lc (F16.ev 13 rfl) rfl)) (laws_szJournal_c (H := fun _ => True) (a := a.journal) (left := (subOr left (szSlotsH a.slots))) Q7 (by first | assumption | exact ⟨by omega, by omega⟩ | (unfold i64ok at *; omega) | (simp only [i64ok]; omega)) (by first | assumption | exact ⟨by omega, by omega⟩ | (unfold i64ok at *; omega)) (by first | assumption | omega | (simp <;> omega)) (by have q1 := subOr_bd left (szSlotsH a.slots) p0; omega)) ?_)
   rintro _ w17 ⟨rfl, m17, q17_0⟩
   refine ⟨_, rfl, fun _ F18 => ?_⟩
   have S17 := At.frame0 S7.at' m17
   clear m17
   refine l_op (f_as F18 rfl rfl rfl rfl rfl fun _ F19 => ?_)
   refine s_end (x_normal (wp_seq (wp_seq (wp_region_lit (l_op (f_mv F19 rfl rfl rfl rfl rfl fun _ F20 => ?_))))))
   refine l_op (f_val F20 rfl rfl (r_cmp (b := decide ((subOr (subOr left (szSlotsH a.slots)) a.journal.text.size) < 0)) (.inr (.inr (.inl rfl))) rfl (F20.ev 15 rfl) rfl (dec_of (by omega))) rfl fun _ F21 => ?_)
   refine s_end (x_normal (x_cond (p := (subOr (subOr left (szSlotsH a.slots)) a.journal.text.size) < 0) (F21.ev 16 rfl) (fun h22 => ?_) (fun h22 => ?_)))
   · skip
     refine wp_seq (wp_region_lit (l_op (f_val F21 rfl rfl (r_assign rfl rfl) rfl fun _ F23 => ?_)))
     refine s_end (x_normal (wp_ret (x_then_ret ?_)))
     refine x_done (v := .int .i64 (-1)) F23 (results_1 Tryz.results6 (.tmp (F23.ev 4 rfl))) ?_
     exact ⟨(by rw [(show (-1) = (subOr left (szDiskH a)) from by unfold szDiskH; first | exact sz2_a ‹_› | exact sz2_b ‹_› | (rw [← sz2_b ‹_›]; exact subOr_neg1 ‹_›))]), (Mv.pick (S1.trans (S7.trans S17)) [] rfl), subOr_i64 p0 p1⟩
   · skip
     refine wp_skip (x_normal (wp_seq (wp_region_lit (l_op (f_mv F21 rfl rfl rfl rfl rfl fun _ F24 => ?_)))))
     refine l_op (f_as F24 rfl rfl rfl rfl rfl fun _ F25 => ?_)
     refine s_end (x_normal (wp_ret ?_))
     refine x_done (v := .int .i64 (subOr (subOr left (szSlotsH a.slots)) a.journal.text.size)) F25 (results_1 Tryz.results6 (.tmp (F25.ev 4 rfl))) ?_
     exact ⟨(by rw [(show (subOr (subOr left (szSlotsH a.slots)) a.journal.text.size) = (subOr left (szDiskH a)) from by unfold szDiskH; first | exact sz2_a ‹_› | exact sz2_b ‹_› | (rw [← sz2_b ‹_›]; exact subOr_neg1 ‹_›))]), (Mv.pick (S1.trans (S7.trans S17)) [] rfl), subOr_i64 p0 p1⟩
theorem laws_toDisk_c {w : World} {H : Nat → Prop} {a : DiskH} {Q3 : Option Addr} {Q5 Q4 : Nat} (Q9 : RdA 3 encSlot okSlot H w (.slice Q3 Q5 Q4) a.slots) (Q15 : NRa inSlot H w a.slots) (Q13 : okS a.journal.text) (Q12 : i64ok a.journal.sure) (p0 : slotsFit 1048576 (a.slots.map SlotH.d)) :
    Calls Tryz.prog 8 #[.agg #[.slice Q3 Q5 Q4, .string a.journal.text, .int .i64 a.journal.sure]] w fun e w' => ∃ (D : List SlotH), ∃ (Q6 : Option Addr), ∃ (Q8 : Nat), ∃ (Q7 : Nat), e = .returned (.agg #[.slice Q6 Q8 Q7, .string a.journal.text, .int .i64 a.journal.sure]) ∧ Mv [] w [ow 81 3 encSlot okSlot (.slice Q6 Q8 Q7) D, gr inSlot D] w' ∧ okS a.journal.text ∧ D.map SlotH.d = a.slots.map SlotH.d ∧ D.length = a.slots.length ∧ i64ok a.journal.sure := by
 have uU : True := (fun _ => trivial) Q12
 clear uU
 have Q11 : RdA 3 encSlot okSlot (V H w []) w (.slice Q3 Q5 Q4) a.slots := RdA.start Q9 (fun _ _ => fps_nil _)
 obtain ⟨Q17, Q16, Q21, Q22⟩ := RdA.inv Q9
 have Q10 : NRa inSlot (V H w []) w a.slots := NRa.start Q15 (fun _ _ => fps_nil _)
 refine calls_enter 13 Tryz.func8 rfl Tryz.ntmps8 (Nat.le_of_ble_eq_true rfl) (fun _ F0i => ?_)
 have F0 : Fr 13 [(0, .agg #[.slice Q3 Q5 Q4, .string a.journal.text, .int .i64 a.journal.sure])] _ := F0i
 clear F0i
 refine wp_seq (wp_region_lit (l_op (f_box F0 (At.nil w) rfl rfl rfl (F0.ev 0 rfl) rfl rfl fun b1 _ w1 F2 S1 => ?_)))
 refine l_op (f_alloc F2 S1.at' ZI_34 rfl rfl rfl rfl rfl fun b3 _ w3 F4 S3 => ?_)
 refine s_end (x_normal (wp_seq (wp_region_lit (l_op (f_alloc F4 S3.at' ZI_34 rfl rfl rfl rfl rfl fun b5 _ w5 F6 S5 => ?_)))))
 refine s_end (x_normal (wp_seq (wp_region_lit (l_op (f_val F6 rfl rfl (r_field FI_26_0 rfl (F6.ev 1 rfl) rfl) rfl fun _ F7 => ?_)))))
 refine l_op (f_val (v := .slice Q3 Q5 Q4) F7 rfl rfl (r_loadB S5.at' 2 TI_22 rfl rfl (F7.ev 4 rfl) rfl rfl (fun _ => rfl) rfl) rfl fun _ F8 => ?_)
 refine l_op (f_call F8 CF_41 rfl rfl rfl rfl (lc (F8.ev 5 rfl) rfl) (laws_toSlotS_c (a := a.slots) (RdA.mv (Nat.succ_pos _) Q11 (S1.trans (S3.trans S5))) (NRa.mv Q10 (S1.trans (S3.trans S5))) (by exact p0.len) (by first | assumption | omega | (simp <;> omega))) ?_)
 rintro _ w9 ⟨D_9, Q0, Q2, Q1, rfl, m9, q9_0, q9_1⟩
 refine ⟨_, rfl, fun _ F10 => ?_⟩
 have S9 : Mv _ _ [ow 81 3 encSlot okSlot (.slice Q0 Q2 Q1) D_9, gr inSlot D_9, bx b5 [.slice none 0 0, .string bE_, .int .i64 0] 34, bx b3 [.slice none 0 0, .string bE_, .int .i64 0] 34, bx b1 [.slice Q3 Q5 Q4, .string a.journal.text, .int .i64 a.journal.sure] 26] _ := At.frame S5.at' [] rfl m9
 obtain ⟨Q18, Q19, Q20⟩ := At.ownInv S9.at' ET_31.hk 0 rfl
 clear m9
 refine l_op (f_val F10 rfl rfl (r_field FI_34_0 rfl (F10.ev 3 rfl) rfl) rfl fun _ F11 => ?_)
 refine l_op (s_store S9.at' 2 TI_31 rfl rfl rfl rfl rfl (F11.ev 7 rfl) (F11.ev 6 rfl) rfl rfl rfl rfl rfl fun w12 S12 => ?_)
 have T13 : Mv _ _ [bx b5 [.slice Q0 Q2 Q1, .string bE_, .int .i64 0] 34, ow 81 3 encSlot okSlot (.slice Q0 Q2 Q1) D_9, gr inSlot D_9, bx b3 [.slice none 0 0, .string bE_, .int .i64 0] 34, bx b1 [.slice Q3 Q5 Q4, .string a.journal.text, .int .i64 a.journal.sure] 26] _ := S12
 refine s_end (x_normal (wp_seq (wp_region_lit (l_op (f_val F11 rfl rfl (r_field FI_26_1 rfl (F11.ev 1 rfl) rfl) rfl fun _ F14 => ?_)))))
 refine l_op (f_val (v := .agg #[.string a.journal.text, .int .i64 a.journal.sure]) F14 rfl rfl (r_loadB T13.at' 4 TI_24 rfl rfl (F14.ev 8 rfl) rfl rfl (fun h => nomatch h) rfl) rfl fun _ F15 => ?_)
 refine l_op (f_call F15 CF_42 rfl rfl rfl rfl (lc (F15.ev 9 rfl) rfl) (laws_toJournal_c (H := fun _ => True) (a := a.journal) Q13 (by first | assumption | exact ⟨by omega, by omega⟩ | (unfold i64ok at *; omega) | (simp only [i64ok]; omega))) ?_)
 rintro _ w16 ⟨rfl, m16, Q14, q16_0⟩
 refine ⟨_, rfl, fun _ F17 => ?_⟩
 have S16 := At.frame0 T13.at' m16
 clear m16
 refine l_op (f_val F17 rfl rfl (r_field FI_34_1 rfl (F17.ev 3 rfl) rfl) rfl fun _ F18 => ?_)
 refine l_op (s_store S16.at' 0 TI_32 rfl rfl rfl rfl rfl (F18.ev 11 rfl) (F18.ev 10 rfl) rfl rfl rfl rfl rfl fun w19 S19 => ?_)
 refine s_end (x_normal (wp_seq (wp_region_lit (l_op (f_val (v := .agg #[.slice Q0 Q2 Q1, .string a.journal.text, .int .i64 a.journal.sure]) F18 rfl rfl (r_loadB S19.at' 0 TI_34 rfl rfl (F18.ev 3 rfl) rfl rfl (fun h => nomatch h) rfl) rfl fun _ F20 => ?_)))))
 refine l_op (s_store S19.at' 3 TI_34 rfl rfl rfl rfl rfl (F20.ev 2 rfl) (F20.ev 12 rfl) rfl rfl rfl rfl rfl fun w21 S21 => ?_)
 refine s_end (x_normal (wp_ret ?_))
 refine x_done (v := .agg #[.slice Q0 Q2 Q1, .string a.journal.text, .int .i64 a.journal.sure]) F20 (results_1 Tryz.results8 (.cell (F20.ev 2 rfl) (run_loadVar' TI_34 _ [.slice Q0 Q2 Q1, .string a.journal.text, .int .i64 a.journal.sure] rfl (fun h => nomatch h) (At.cells S21.at' 0 rfl 0 [.slice Q0 Q2 Q1, .string a.journal.text, .int .i64 a.journal.sure] rfl)))) ?_
 exact ⟨D_9, Q0, Q2, Q1, rfl, (Mv.pick (S1.trans (S3.trans (S5.trans (S9.trans (T13.trans (S16.trans (S19.trans S21))))))) [2, 3] rfl), Q14, by first | assumption | exact w64_ok _ | omega | (unfold i64ok; omega), by first | assumption | exact w64_ok _ | omega | (unfold i64ok; omega), by first | assumption | exact w64_ok _ | omega | (unfold i64ok; omega)⟩
theorem laws_eqDisk_c {w : World} {H : Nat → Prop} {a : DiskH} {Q0 : Option Addr} {Q2 Q1 : Nat} {b : DiskH} {Q3 : Option Addr} {Q5 Q4 : Nat} (Q6 : Rd 3 encSlot okSlot H w (.slice Q0 Q2 Q1) a.slots) (Q16 : NRd inSlot H w a.slots) (Q13 : okS a.journal.text) (Q12 : i64ok a.journal.sure) (Q7 : Rd 3 encSlot okSlot H w (.slice Q3 Q5 Q4) b.slots) (Q17 : NRd inSlot H w b.slots) (Q15 : okS b.journal.text) (Q14 : i64ok b.journal.sure) (p0 : a.slots.map SlotH.d = b.slots.map SlotH.d) (p1 : a.journal = b.journal) :
    Calls Tryz.prog 11 #[.agg #[.slice Q0 Q2 Q1, .string a.journal.text, .int .i64 a.journal.sure], .agg #[.slice Q3 Q5 Q4, .string b.journal.text, .int .i64 b.journal.sure]] w fun e w' => e = .returned (.bool true) ∧ Mv [] w [] w' := by
 have uU : True := (fun _ _ _ _ => trivial) Q12 Q14 p0 p1
 clear uU
 have Q10 : Rd 3 encSlot okSlot (V H w []) w (.slice Q0 Q2 Q1) a.slots := Rd.start Q6 (fun _ _ => fps_nil _)
 obtain ⟨Q20, Q18, Q22, Q24⟩ := Rd.inv Q6
 have Q11 : Rd 3 encSlot okSlot (V H w []) w (.slice Q3 Q5 Q4) b.slots := Rd.start Q7 (fun _ _ => fps_nil _)
 obtain ⟨Q21, Q19, Q23, Q25⟩ := Rd.inv Q7
 have Q8 : NRd inSlot (V H w []) w a.slots := NRd.start Q16 (fun _ _ => fps_nil _)
 have Q9 : NRd inSlot (V H w []) w b.slots := NRd.start Q17 (fun _ _ => fps_nil _)
 refine calls_enter 17 Tryz.func11 rfl Tryz.ntmps11 (Nat.le_of_ble_eq_true rfl) (fun _ F0i => ?_)
 have F0 : Fr 17 [(0, .agg #[.slice Q0 Q2 Q1, .string a.journal.text, .int .i64 a.journal.sure]), (1, .agg #[.slice Q3 Q5 Q4, .string b.journal.text, .int .i64 b.journal.sure])] _ := F0i
 clear F0i
 refine wp_seq (wp_region_lit (l_op (f_box F0 (At.nil w) rfl rfl rfl (F0.ev 0 rfl) rfl rfl fun b1 _ w1 F2 S1 => ?_)))
 refine l_op (f_box F2 S1.at' rfl rfl rfl (F2.ev 1 rfl) rfl rfl fun b3 _ w3 F4 S3 => ?_)
 refine l_op (f_val F4 rfl rfl (r_assign rfl rfl) rfl fun _ F5 => ?_)
 refine s_end (x_normal (wp_seq (wp_seq (wp_region_lit (l_op (f_val F5 rfl rfl (r_field FI_34_0 rfl (F5.ev 2 rfl) rfl) rfl fun _ F6 => ?_))))))
 refine l_op (f_val (v := .slice Q0 Q2 Q1) F6 rfl rfl (r_loadB S3.at' 1 TI_31 rfl rfl (F6.ev 5 rfl) rfl rfl (fun _ => rfl) rfl) rfl fun _ F7 => ?_)
 refine l_op (f_val F7 rfl rfl (r_field FI_34_0 rfl (F7.ev 3 rfl) rfl) rfl fun _ F8 => ?_)
 refine l_op (f_val (v := .slice Q3 Q5 Q4) F8 rfl rfl (r_loadB S3.at' 0 TI_31 rfl rfl (F8.ev 7 rfl) rfl rfl (fun _ => rfl) rfl) rfl fun _ F9 => ?_)
 refine l_op (f_call F9 CF_49 rfl rfl rfl rfl (lc (F9.ev 6 rfl) (lc (F9.ev 8 rfl) rfl)) (laws_eqSlotS_c (a := a.slots) (b := b.slots) (Rd.mq Q10 (S1.trans S3)) (NRd.mv Q8 (S1.trans S3)) (Rd.mq Q11 (S1.trans S3)) (NRd.mv Q9 (S1.trans S3)) (by first | assumption | omega | (simp <;> omega))) ?_)
 rintro _ w10 ⟨rfl, m10⟩
 refine ⟨_, rfl, fun _ F11 => ?_⟩
 have S10 := At.frame0 S3.at' m10
 clear m10
 refine l_op (f_val F11 rfl rfl (r_not rfl (F11.ev 9 rfl)) rfl fun _ F12 => ?_)
 refine s_end (x_normal (wp_cond_false (F12.ev 10 rfl) (wp_skip (x_normal (wp_seq (wp_seq (wp_region_lit (l_op (f_val F12 rfl rfl (r_field FI_34_1 rfl (F12.ev 2 rfl) rfl) rfl fun _ F13 => ?_)))))))))
 refine l_op (f_val (v := .agg #[.string a.journal.text, .int .i64 a.journal.sure]) F13 rfl rfl (r_loadB S10.at' 1 TI_32 rfl rfl (F13.ev 11 rfl) rfl rfl (fun h => nomatch h) rfl) rfl fun _ F14 => ?_)
 refine l_op (f_val F14 rfl rfl (r_field FI_34_1 rfl (F14.ev 3 rfl) rfl) rfl fun _ F15 => ?_)
 refine l_op (f_val (v := .agg #[.string b.journal.text, .int .i64 b.journal.sure]) F15 rfl rfl (r_loadB S10.at' 0 TI_32 rfl rfl (F15.ev 13 rfl) rfl rfl (fun h => nomatch h) rfl) rfl fun _ F16 => ?_)
 refine l_op (f_call F16 CF_50 rfl rfl rfl rfl (lc (F16.ev 12 rfl) (lc (F16.ev 14 rfl) rfl)) (laws_eqJournal_c (H := fun _ => True) (a := a.journal) (b := b.journal) Q13 (by first | assumption | exact ⟨by omega, by omega⟩ | (unfold i64ok at *; omega) | (simp only [i64ok]; omega)) Q15 (by first | assumption | exact ⟨by omega, by omega⟩ | (unfold i64ok at *; omega) | (simp only [i64ok]; omega)) (by first | assumption | omega | (simp <;> omega))) ?_)
 rintro _ w17 ⟨rfl, m17⟩
 refine ⟨_, rfl, fun _ F18 => ?_⟩
 have S17 := At.frame0 S10.at' m17
 clear m17
 refine l_op (f_val F18 rfl rfl (r_not rfl (F18.ev 15 rfl)) rfl fun _ F19 => ?_)
 have T20 : Mv _ _ [bx b3 [.slice Q3 Q5 Q4, .string b.journal.text, .int .i64 b.journal.sure] 34, bx b1 [.slice Q0 Q2 Q1, .string a.journal.text, .int .i64 a.journal.sure] 34] _ := S17
 refine s_end (x_normal (wp_cond_false (F19.ev 16 rfl) (wp_skip (x_normal (wp_seq (wp_region_lit (l_op (f_val F19 rfl rfl (r_assign rfl rfl) rfl fun _ F21 => ?_))))))))
 refine s_end (x_normal (wp_ret ?_))
 refine x_done (v := .bool true) F21 (results_1 Tryz.results11 (.tmp (F21.ev 4 rfl))) ?_
 exact ⟨rfl, (Mv.pick (S1.trans (S3.trans (S10.trans T20))) [] rfl)⟩
end Go.Proofs.YtipdbeklopjbmaaGreatDoor
