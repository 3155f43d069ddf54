/-
  Walks: kernels in the laws' hands.
-/
import Derived.Test.YtgfilegkabbliaaGreatDatKn
import Derived.Test.YtgfilegkabbliaaGreatGenNsa
namespace Go.Proofs.YtgfilegkabbliaaGreat
open Go.ChangeShapes Go.WideShapes Go.ChangeAt Go.RowKit
set_option maxRecDepth 100000
set_option maxHeartbeats 1000000
theorem laws_szStep_c {w : World} {H : Nat → Prop} {a : StepD} {left : Int} (Q5 : i64ok a.proc) (Q1 : i64ok a.call.kind) (Q2 : okS a.call.name) (Q4 : okS a.call.to_) (h_a_call_a : i64ok a.call.a) (Q0 : i64ok a.call.b) (Q3 : okS a.call.text) (Q6 : i64ok left) (p0 : 0 ≤ left) (p1 : left ≤ 1048576) :
    Calls Tryz.prog 80 #[.agg #[.int .i64 a.proc, .int .i64 a.call.kind, .string a.call.name, .string a.call.to_, .int .i64 a.call.a, .int .i64 a.call.b, .string a.call.text], .int .i64 left] w fun e w' => e = .returned (.int .i64 (subOr left (szStepD a))) ∧ Mv [] w [] w' ∧ i64ok (subOr left (szStepD a)) := by
 have uU : True := (fun _ _ _ _ _ => trivial) H Q5 Q1 h_a_call_a Q0
 clear uU
 refine calls_enter 12 Tryz.func80 rfl Tryz.ntmps80 (Nat.le_of_ble_eq_true rfl) (fun _ F0i => ?_)
 have F0 : Fr 12 [(0, .agg #[.int .i64 a.proc, .int .i64 a.call.kind, .string a.call.name, .string a.call.to_, .int .i64 a.call.a, .int .i64 a.call.b, .string a.call.text]), (1, .int .i64 left)] _ := F0i
 clear F0i
 refine wp_seq (wp_region_lit (l_op (f_box F0 (At.nil w) rfl rfl rfl (F0.ev 0 rfl) rfl rfl fun b1 _ w1 F2 S1 => ?_)))
 refine l_op (f_val F2 rfl rfl (r_assign rfl rfl) rfl fun _ F3 => ?_)
 refine s_end (x_normal (wp_seq (wp_region_lit (l_op (f_val F3 rfl rfl (r_field FI_138_1 rfl (F3.ev 2 rfl) rfl) rfl fun _ F4 => ?_)))))
 refine l_op (f_val (v := .agg #[.int .i64 a.call.kind, .string a.call.name, .string a.call.to_, .int .i64 a.call.a, .int .i64 a.call.b, .string a.call.text]) F4 rfl rfl (r_loadB S1.at' 0 TI_132 rfl rfl (F4.ev 5 rfl) rfl rfl (fun h => nomatch h) rfl) rfl fun _ F5 => ?_)
 refine l_op (f_mv F5 rfl rfl rfl rfl rfl fun _ F6 => ?_)
 refine l_op (f_call F6 CF_78 rfl rfl rfl rfl (lc (F6.ev 6 rfl) (lc (F6.ev 7 rfl) rfl)) (laws_szCall_c (H := fun _ => True) (a := a.call) (left := left) (by first | assumption | exact ⟨by omega, by omega⟩ | (unfold i64ok at *; omega) | (simp only [i64ok]; omega)) Q2 Q4 (by first | assumption | exact ⟨by omega, by omega⟩ | (unfold i64ok at *; omega) | (simp only [i64ok]; omega)) (by first | assumption | exact ⟨by omega, by omega⟩ | (unfold i64ok at *; omega) | (simp only [i64ok]; omega)) Q3 Q6 (by first | assumption | omega | (simp <;> omega)) (by first | assumption | omega | (simp <;> omega))) ?_)
 rintro _ w7 ⟨rfl, m7, q7_0⟩
 refine ⟨_, rfl, fun _ F8 => ?_⟩
 have S7 := At.frame0 S1.at' m7
 clear m7
 refine l_op (f_as F8 rfl rfl rfl rfl rfl fun _ F9 => ?_)
 have T10 : Mv _ _ [bx b1 [.int .i64 a.proc, .int .i64 a.call.kind, .string a.call.name, .string a.call.to_, .int .i64 a.call.a, .int .i64 a.call.b, .string a.call.text] 138] _ := S7
 refine s_end (x_normal (wp_seq (wp_seq (wp_region_lit (l_op (f_mv F9 rfl rfl rfl rfl rfl fun _ F11 => ?_))))))
 refine l_op (f_val F11 rfl rfl (r_cmp (b := decide ((subOr left (szCallD a.call)) < 0)) (.inr (.inr (.inl rfl))) rfl (F11.ev 9 rfl) rfl (dec_of (by omega))) rfl fun _ F12 => ?_)
 have F13 : Fr 12 [(10, .bool (decide ((subOr left (szCallD a.call)) < 0))), (1, .int .i64 (subOr left (szCallD a.call)))] _ := F12.cut rfl
 clear F0 F2 F3 F4 F5 F6 F8 F9 F11 F12
 refine s_end (x_normal (x_cond (p := (subOr left (szCallD a.call)) < 0) (F13.ev 10 rfl) (fun h14 => ?_) (fun h14 => ?_)))
 · skip
   refine wp_seq (wp_region_lit (l_op (f_val F13 rfl rfl (r_assign rfl rfl) rfl fun _ F15 => ?_)))
   refine s_end (x_normal (wp_ret (x_then_ret ?_)))
   refine x_done (v := .int .i64 (-1)) F15 (results_1 Tryz.results80 (.tmp (F15.ev 4 rfl))) ?_
   exact ⟨(by rw [(show (-1) = (subOr left (szStepD a)) from by unfold szStepD; first | rfl | exact subOr_neg1 (by assumption))]), (Mv.pick (S1.trans T10) [] rfl), subOr_i64 p0 p1⟩
 · skip
   refine wp_skip (x_normal (wp_seq (wp_region_lit (l_op (f_mv F13 rfl rfl rfl rfl rfl fun _ F16 => ?_)))))
   refine l_op (f_as F16 rfl rfl rfl rfl rfl fun _ F17 => ?_)
   refine s_end (x_normal (wp_ret ?_))
   refine x_done (v := .int .i64 (subOr left (szCallD a.call))) F17 (results_1 Tryz.results80 (.tmp (F17.ev 4 rfl))) ?_
   exact ⟨(by rw [(show (subOr left (szCallD a.call)) = (subOr left (szStepD a)) from by unfold szStepD; first | rfl | exact subOr_neg1 (by assumption))]), (Mv.pick (S1.trans T10) [] rfl), subOr_i64 p0 p1⟩
theorem laws_szStepS_c {w : World} {H : Nat → Prop} {a : List StepD} {a_a : Option Addr} {a_n a_c : Nat} {left : Int} (v_a : RdA 7 encStep okStep H w (.slice a_a a_n a_c) a) (Q0 : i64ok left) (p0 : 0 ≤ left) (p1 : left ≤ 1048576) :
    Calls Tryz.prog 63 #[.slice a_a a_n a_c, .int .i64 left] w fun e w' => e = .returned (.int .i64 (subOr left (szSteps a))) ∧ Mv [] w [] w' ∧ i64ok (subOr left (szSteps a)) := by
 have uU : True := (fun _ => trivial) Q0
 clear uU
 have V_v_a : RdA 7 encStep okStep (V H w []) w (.slice a_a a_n a_c) a := RdA.start v_a (fun _ _ => fps_nil _)
 obtain ⟨ln_a, le_a, mx_a, ni_a⟩ := RdA.inv v_a
 refine calls_enter 27 Tryz.func63 rfl Tryz.ntmps63 (Nat.le_of_ble_eq_true rfl) (fun _ F0i => ?_)
 have F0 : Fr 27 [(0, .slice a_a a_n a_c), (1, .int .i64 left)] _ := F0i
 clear F0i
 refine wp_seq (wp_region_lit (l_op (f_val F0 rfl rfl (r_assign rfl rfl) rfl fun _ F1 => ?_)))
 refine s_end (x_normal (wp_seq (wp_region_lit (l_op (f_mv F1 rfl rfl rfl rfl rfl fun _ F2 => ?_)))))
 refine l_op (f_mv F2 rfl rfl rfl rfl rfl fun _ F3 => ?_)
 refine l_op (f_val F3 rfl rfl (r_len Tryz.underlying86 rfl (F3.ev 7 rfl)) rfl fun _ F4 => ?_)
 refine l_op (f_val F4 rfl rfl (r_sub (z := (left - ((a_n : Nat) : Int))) rfl (F4.ev 6 rfl) (F4.ev 8 rfl) (by first | rfl | omega) ⟨by first | omega | (unfold i64ok at *; omega), by first | omega | (unfold i64ok at *; omega)⟩) rfl fun _ F5 => ?_)
 refine l_op (f_as F5 rfl rfl rfl rfl rfl fun _ F6 => ?_)
 refine s_end (x_normal (wp_seq (wp_seq (wp_region_lit (l_op (f_mv F6 rfl rfl rfl rfl rfl fun _ F7 => ?_))))))
 refine l_op (f_val F7 rfl rfl (r_cmp (b := decide ((left - ((a_n : Nat) : Int)) < 0)) (.inr (.inr (.inl rfl))) rfl (F7.ev 10 rfl) rfl (dec_of (by omega))) rfl fun _ F8 => ?_)
 refine s_end (x_normal (x_cond (p := (left - ((a_n : Nat) : Int)) < 0) (F8.ev 11 rfl) (fun h9 => ?_) (fun h9 => ?_)))
 · skip
   refine wp_seq (wp_region_lit (l_op (f_val F8 rfl rfl (r_assign rfl rfl) rfl fun _ F10 => ?_)))
   have F11 : Fr 27 [(4, .int .i64 (-1))] _ := F10.cut rfl
   clear F0 F1 F2 F3 F4 F5 F6 F7 F8 F10
   refine s_end (x_normal (wp_ret (x_then_ret ?_)))
   refine x_done (v := .int .i64 (-1)) F11 (results_1 Tryz.results63 (.tmp (F11.ev 4 rfl))) ?_
   exact ⟨(by rw [(show (-1) = (subOr left (szSteps a)) from by unfold szSteps; rw [← ln_a]; exact sz_neg (by assumption))]), (Mv.pick (Mv.refl (At.nil w)) [] rfl), subOr_i64 p0 p1⟩
 · skip
   refine wp_skip (x_normal (wp_seq (wp_seq (wp_region_lit (l_op (f_val F8 rfl rfl (r_assign rfl rfl) rfl fun _ F12 => ?_))))))
   have F13 : Fr 27 [(5, .int .i64 0), (1, .int .i64 (left - ((a_n : Nat) : Int))), (0, .slice a_a a_n a_c)] _ := F12.cut rfl
   clear F0 F1 F2 F3 F4 F5 F6 F7 F8 F12
   refine s_end (x_normal (wp_block ?_))
   refine x_loop (fun (k : Nat) aZ wZ => ∃ (lv : Int), Fr 27 [(5, .int .i64 ((k : Nat) : Int)), (1, .int .i64 lv), (0, .slice a_a a_n a_c)] aZ ∧ Mv [] w [] wZ ∧ (k ≤ a_n) ∧ (lv = left - ((a.length + sumOf szStepD (a.take k) : Nat) : Int)) ∧ (0 ≤ lv)) (fun (k : Nat) => a_n - k) (0) ?_ ?_
   · exact ⟨(left - ((a_n : Nat) : Int)), F13.cut rfl, (Mv.refl (At.nil w)), by omega, by have e : sumOf szStepD (a.take 0) = 0 := rfl; rw [e]; omega, by omega⟩
   · rintro k a14 w14 ⟨lv, F14, S14, hk_0, hk_1, hk_2⟩
     refine wp_seq (wp_seq (wp_region_lit (l_op (f_mv F14 rfl rfl rfl rfl rfl fun _ F15 => ?_))))
     refine l_op (f_mv F15 rfl rfl rfl rfl rfl fun _ F16 => ?_)
     refine l_op (f_val F16 rfl rfl (r_len Tryz.underlying86 rfl (F16.ev 13 rfl)) rfl fun _ F17 => ?_)
     refine l_op (f_val F17 rfl rfl (r_cmp (b := decide (k < a_n)) (.inr (.inr (.inl rfl))) rfl (F17.ev 12 rfl) (F17.ev 14 rfl) (dec_of (by omega))) rfl fun _ F18 => ?_)
     refine s_end (x_normal (x_cond (p := k < a_n) (F18.ev 15 rfl) (fun h19 => ?_) (fun h19 => ?_)))
     · skip
       refine wp_skip (x_normal (wp_seq (wp_block (wp_seq (wp_region_lit (l_op (f_mv F18 rfl rfl rfl rfl rfl fun _ F20 => ?_)))))))
       refine l_op (f_mv F20 rfl rfl rfl rfl rfl fun _ F21 => ?_)
       obtain ⟨B22, O22, x1, ad22, hx1, okx1, ln22, cl22⟩ := RdA.at (RdA.mv (Nat.succ_pos _) V_v_a S14) k (by first | assumption | omega)
       clear ln22
       refine l_op (f_val F21 rfl rfl (r_indexAddr (i := k) ET_86 rfl ((F21.ev 18 rfl).trans (by rw [ad22])) (F21.ev 19 rfl) (by omega) (by first | assumption | omega)) rfl fun _ F23 => ?_)
       refine l_op (f_val (v := .agg #[.int .i64 x1.proc, .int .i64 x1.call.kind, .string x1.call.name, .string x1.call.to_, .int .i64 x1.call.a, .int .i64 x1.call.b, .string x1.call.text]) F23 rfl rfl (r_load (cs := [.int .i64 x1.proc, .int .i64 x1.call.kind, .string x1.call.name, .string x1.call.to_, .int .i64 x1.call.a, .int .i64 x1.call.b, .string x1.call.text]) TI_138 rfl (F23.ev 20 rfl) rfl (fun h => nomatch h) (elem_sub (f := 0) cl22 [.int .i64 x1.proc, .int .i64 x1.call.kind, .string x1.call.name, .string x1.call.to_, .int .i64 x1.call.a, .int .i64 x1.call.b, .string x1.call.text] rfl)) rfl fun _ F24 => ?_)
       refine l_op (f_mv F24 rfl rfl rfl rfl rfl fun _ F25 => ?_)
       refine l_op (f_call F25 CF_80 rfl rfl rfl rfl (lc (F25.ev 21 rfl) (lc (F25.ev 22 rfl) rfl)) (laws_szStep_c (H := fun _ => True) (a := x1) (left := lv) okx1.1 okx1.2.1 okx1.2.2.1 okx1.2.2.2.1 okx1.2.2.2.2.1 okx1.2.2.2.2.2.1 okx1.2.2.2.2.2.2 (by first | assumption | exact ⟨by omega, by omega⟩ | (unfold i64ok at *; omega)) (by first | assumption | omega | (simp <;> omega)) (by first | assumption | omega | (simp <;> omega))) ?_)
       rintro _ w26 ⟨rfl, m26, q26_0⟩
       refine ⟨_, rfl, fun _ F27 => ?_⟩
       have S26 := At.frame0 S14.at' m26
       clear m26
       refine l_op (f_as F27 rfl rfl rfl rfl rfl fun _ F28 => ?_)
       have F29 : Fr 27 [(1, .int .i64 (subOr lv (szStepD x1))), (5, .int .i64 ((k : Nat) : Int)), (0, .slice a_a a_n a_c)] _ := F28.cut rfl
       clear F14 F15 F16 F17 F18 F20 F21 F23 F24 F25 F27 F28
       have T30 : Mv _ _ [] _ := S26
       refine s_end (x_normal (wp_seq (wp_region_lit (l_op (f_mv F29 rfl rfl rfl rfl rfl fun _ F31 => ?_)))))
       refine l_op (f_val F31 rfl rfl (r_cmp (b := decide ((subOr lv (szStepD x1)) < 0)) (.inr (.inr (.inl rfl))) rfl (F31.ev 24 rfl) rfl (dec_of (by omega))) rfl fun _ F32 => ?_)
       refine s_end (x_normal (x_cond (p := (subOr lv (szStepD x1)) < 0) (F32.ev 25 rfl) (fun h33 => ?_) (fun h33 => ?_)))
       · skip
         refine wp_seq (wp_region_lit (l_op (f_val F32 rfl rfl (r_assign rfl rfl) rfl fun _ F34 => ?_)))
         refine s_end (x_normal (wp_ret (x_block_ret (x_then_ret (x_then_ret (x_block_ret (x_then_ret ?_)))))))
         refine x_done (v := .int .i64 (-1)) F34 (results_1 Tryz.results63 (.tmp (F34.ev 4 rfl))) ?_
         exact ⟨(by rw [(show (-1) = (subOr left (szSteps a)) from by unfold szSteps; exact sz_stop hx1 hk_1 (by assumption))]), (Mv.pick (S14.trans T30) [] rfl), subOr_i64 p0 p1⟩
       · skip
         refine wp_skip (x_block_normal (x_normal (wp_region_lit (l_op (f_mv F32 rfl rfl rfl rfl rfl fun _ F35 => ?_)))))
         refine l_op (f_val F35 rfl rfl (r_add (z := ((k + 1 : Nat) : Int)) rfl (F35.ev 16 rfl) rfl (by first | rfl | omega) ⟨by first | omega | (unfold i64ok at *; omega), by first | omega | (unfold i64ok at *; omega)⟩) rfl fun _ F36 => ?_)
         refine l_op (f_as F36 rfl rfl rfl rfl rfl fun _ F37 => ?_)
         refine s_end ?_
         refine x_normal ⟨k + 1, by omega, (subOr lv (szStepD x1)), F37.cut rfl, ((S14.trans T30).pick [] rfl), by omega, (sz_next hx1 hk_1 (by assumption)).1, (sz_next hx1 hk_1 (by assumption)).2⟩
     · skip
       refine wp_exit (x_then_exit (x_then_exit (x_block_here (x_normal (wp_seq (wp_region_lit (l_op (f_mv F18 rfl rfl rfl rfl rfl fun _ F38 => ?_))))))))
       refine l_op (f_as F38 rfl rfl rfl rfl rfl fun _ F39 => ?_)
       refine s_end (x_normal (wp_ret ?_))
       refine x_done (v := .int .i64 lv) F39 (results_1 Tryz.results63 (.tmp (F39.ev 4 rfl))) ?_
       exact ⟨(by rw [(show lv = (subOr left (szSteps a)) from by unfold szSteps; exact sz_done (by omega) hk_1 hk_2)]), (Mv.pick S14 [] rfl), subOr_i64 p0 p1⟩
theorem laws_szEntry_c {w : World} {H : Nat → Prop} {a : EntryD} {Q3 : Option Addr} {Q5 Q4 : Nat} {Q0 : Option Addr} {Q2 Q1 : Nat} {left : Int} (Q13 : i64ok a.seq) (Q12 : i64ok a.kind) (Q14 : i64ok a.tx) (Q7 : RdA 7 encStep okStep H w (.slice Q3 Q5 Q4) a.steps) (Q6 : RdA 3 encR okR H w (.slice Q0 Q2 Q1) a.answers) (Q10 : i64ok a.began) (Q11 : i64ok a.ended) (Q15 : i64ok left) (p0 : 0 ≤ left) (p1 : left ≤ 1048576) :
    Calls Tryz.prog 38 #[.agg #[.int .i64 a.seq, .int .i64 a.kind, .int .i64 a.tx, .slice Q3 Q5 Q4, .slice Q0 Q2 Q1, .int .i64 a.began, .int .i64 a.ended, .bool a.laid], .int .i64 left] w fun e w' => e = .returned (.int .i64 (subOr left (szEntryD a))) ∧ Mv [] w [] w' ∧ i64ok (subOr left (szEntryD a)) := by
 have uU : True := (fun _ _ _ _ _ => trivial) Q13 Q12 Q14 Q10 Q11
 clear uU
 have Q9 : RdA 7 encStep okStep (V H w []) w (.slice Q3 Q5 Q4) a.steps := RdA.start Q7 (fun _ _ => fps_nil _)
 obtain ⟨Q19, Q17, Q21, Q23⟩ := RdA.inv Q7
 have Q8 : RdA 3 encR okR (V H w []) w (.slice Q0 Q2 Q1) a.answers := RdA.start Q6 (fun _ _ => fps_nil _)
 obtain ⟨Q18, Q16, Q20, Q22⟩ := RdA.inv Q6
 refine calls_enter 18 Tryz.func38 rfl Tryz.ntmps38 (Nat.le_of_ble_eq_true rfl) (fun _ F0i => ?_)
 have F0 : Fr 18 [(0, .agg #[.int .i64 a.seq, .int .i64 a.kind, .int .i64 a.tx, .slice Q3 Q5 Q4, .slice Q0 Q2 Q1, .int .i64 a.began, .int .i64 a.ended, .bool a.laid]), (1, .int .i64 left)] _ := F0i
 clear F0i
 refine wp_seq (wp_region_lit (l_op (f_box F0 (At.nil w) rfl rfl rfl (F0.ev 0 rfl) rfl rfl fun b1 _ w1 F2 S1 => ?_)))
 refine l_op (f_val F2 rfl rfl (r_assign rfl rfl) rfl fun _ F3 => ?_)
 refine s_end (x_normal (wp_seq (wp_region_lit (l_op (f_val F3 rfl rfl (r_field FI_88_3 rfl (F3.ev 2 rfl) rfl) rfl fun _ F4 => ?_)))))
 refine l_op (f_val (v := .slice Q3 Q5 Q4) F4 rfl rfl (r_loadB S1.at' 0 TI_86 rfl rfl (F4.ev 5 rfl) rfl rfl (fun _ => rfl) rfl) rfl fun _ F5 => ?_)
 refine l_op (f_mv F5 rfl rfl rfl rfl rfl fun _ F6 => ?_)
 refine l_op (f_call F6 CF_63 rfl rfl rfl rfl (lc (F6.ev 6 rfl) (lc (F6.ev 7 rfl) rfl)) (laws_szStepS_c (a := a.steps) (left := left) (RdA.mv (Nat.succ_pos _) Q9 S1) Q15 (by first | assumption | omega | (simp <;> omega)) (by first | assumption | omega | (simp <;> omega))) ?_)
 rintro _ w7 ⟨rfl, m7, q7_0⟩
 refine ⟨_, rfl, fun _ F8 => ?_⟩
 have S7 := At.frame0 S1.at' m7
 clear m7
 refine l_op (f_as F8 rfl rfl rfl rfl rfl fun _ F9 => ?_)
 have T10 : Mv _ _ [bx b1 [.int .i64 a.seq, .int .i64 a.kind, .int .i64 a.tx, .slice Q3 Q5 Q4, .slice Q0 Q2 Q1, .int .i64 a.began, .int .i64 a.ended, .bool a.laid] 88] _ := S7
 refine s_end (x_normal (wp_seq (wp_seq (wp_region_lit (l_op (f_mv F9 rfl rfl rfl rfl rfl fun _ F11 => ?_))))))
 refine l_op (f_val F11 rfl rfl (r_cmp (b := decide ((subOr left (szSteps a.steps)) < 0)) (.inr (.inr (.inl rfl))) rfl (F11.ev 9 rfl) rfl (dec_of (by omega))) rfl fun _ F12 => ?_)
 have F13 : Fr 18 [(10, .bool (decide ((subOr left (szSteps a.steps)) < 0))), (1, .int .i64 (subOr left (szSteps a.steps))), (2, .pointer (some ⟨b1, 0, none⟩))] _ := F12.cut rfl
 clear F0 F2 F3 F4 F5 F6 F8 F9 F11 F12
 refine s_end (x_normal (x_cond (p := (subOr left (szSteps a.steps)) < 0) (F13.ev 10 rfl) (fun h14 => ?_) (fun h14 => ?_)))
 · skip
   refine wp_seq (wp_region_lit (l_op (f_val F13 rfl rfl (r_assign rfl rfl) rfl fun _ F15 => ?_)))
   refine s_end (x_normal (wp_ret (x_then_ret ?_)))
   refine x_done (v := .int .i64 (-1)) F15 (results_1 Tryz.results38 (.tmp (F15.ev 4 rfl))) ?_
   exact ⟨(by rw [(show (-1) = (subOr left (szEntryD a)) from by unfold szEntryD; first | exact sz2_a (by assumption) | exact sz2_b (by assumption) | (rw [← sz2_b (by assumption)]; exact subOr_neg1 (by assumption)))]), (Mv.pick (S1.trans T10) [] rfl), subOr_i64 p0 p1⟩
 · skip
   refine wp_skip (x_normal (wp_seq (wp_region_lit (l_op (f_val F13 rfl rfl (r_field FI_88_4 rfl (F13.ev 2 rfl) rfl) rfl fun _ F16 => ?_)))))
   refine l_op (f_val (v := .slice Q0 Q2 Q1) F16 rfl rfl (r_loadB T10.at' 0 TI_79 rfl rfl (F16.ev 11 rfl) rfl rfl (fun _ => rfl) rfl) rfl fun _ F17 => ?_)
   refine l_op (f_mv F17 rfl rfl rfl rfl rfl fun _ F18 => ?_)
   refine l_op (f_call F18 CF_59 rfl rfl rfl rfl (lc (F18.ev 12 rfl) (lc (F18.ev 13 rfl) rfl)) (laws_szAnswerS_c (a := a.answers) (left := (subOr left (szSteps a.steps))) (RdA.mv (Nat.succ_pos _) Q8 (S1.trans T10)) (by first | assumption | exact ⟨by omega, by omega⟩ | (unfold i64ok at *; omega)) (by first | assumption | omega | (simp <;> omega)) (by have q1 := subOr_bd left (szSteps a.steps) p0; omega)) ?_)
   rintro _ w19 ⟨rfl, m19, q19_0⟩
   refine ⟨_, rfl, fun _ F20 => ?_⟩
   have S19 := At.frame0 T10.at' m19
   clear m19
   refine l_op (f_as F20 rfl rfl rfl rfl rfl fun _ F21 => ?_)
   refine s_end (x_normal (wp_seq (wp_seq (wp_region_lit (l_op (f_mv F21 rfl rfl rfl rfl rfl fun _ F22 => ?_))))))
   refine l_op (f_val F22 rfl rfl (r_cmp (b := decide ((subOr (subOr left (szSteps a.steps)) (szAnss a.answers)) < 0)) (.inr (.inr (.inl rfl))) rfl (F22.ev 15 rfl) rfl (dec_of (by omega))) rfl fun _ F23 => ?_)
   refine s_end (x_normal (x_cond (p := (subOr (subOr left (szSteps a.steps)) (szAnss a.answers)) < 0) (F23.ev 16 rfl) (fun h24 => ?_) (fun h24 => ?_)))
   · skip
     refine wp_seq (wp_region_lit (l_op (f_val F23 rfl rfl (r_assign rfl rfl) rfl fun _ F25 => ?_)))
     refine s_end (x_normal (wp_ret (x_then_ret ?_)))
     refine x_done (v := .int .i64 (-1)) F25 (results_1 Tryz.results38 (.tmp (F25.ev 4 rfl))) ?_
     exact ⟨(by rw [(show (-1) = (subOr left (szEntryD a)) from by unfold szEntryD; first | exact sz2_a (by assumption) | exact sz2_b (by assumption) | (rw [← sz2_b (by assumption)]; exact subOr_neg1 (by assumption)))]), (Mv.pick (S1.trans (T10.trans S19)) [] rfl), subOr_i64 p0 p1⟩
   · skip
     refine wp_skip (x_normal (wp_seq (wp_region_lit (l_op (f_mv F23 rfl rfl rfl rfl rfl fun _ F26 => ?_)))))
     refine l_op (f_as F26 rfl rfl rfl rfl rfl fun _ F27 => ?_)
     have F28 : Fr 18 [(4, .int .i64 (subOr (subOr left (szSteps a.steps)) (szAnss a.answers)))] _ := F27.cut rfl
     clear F13 F16 F17 F18 F20 F21 F22 F23 F26 F27
     refine s_end (x_normal (wp_ret ?_))
     refine x_done (v := .int .i64 (subOr (subOr left (szSteps a.steps)) (szAnss a.answers))) F28 (results_1 Tryz.results38 (.tmp (F28.ev 4 rfl))) ?_
     exact ⟨(by rw [(show (subOr (subOr left (szSteps a.steps)) (szAnss a.answers)) = (subOr left (szEntryD a)) from by unfold szEntryD; first | exact sz2_a (by assumption) | exact sz2_b (by assumption) | (rw [← sz2_b (by assumption)]; exact subOr_neg1 (by assumption)))]), (Mv.pick (S1.trans (T10.trans S19)) [] rfl), subOr_i64 p0 p1⟩
theorem laws_szEntryS_c {w : World} {H : Nat → Prop} {a : List EntryH} {a_a : Option Addr} {a_n a_c : Nat} {left : Int} (v_a : RdA 8 encEntry okEntry H w (.slice a_a a_n a_c) a) (u_a : NRa inEntry H w a) (Q0 : i64ok left) (p0 : 0 ≤ left) (p1 : left ≤ 1048576) :
    Calls Tryz.prog 12 #[.slice a_a a_n a_c, .int .i64 left] w fun e w' => e = .returned (.int .i64 (subOr left (szEntriesH a))) ∧ Mv [] w [] w' ∧ i64ok (subOr left (szEntriesH a)) := by
 have uU : True := (fun _ => trivial) Q0
 clear uU
 have V_v_a : RdA 8 encEntry okEntry (V H w []) w (.slice a_a a_n a_c) a := RdA.start v_a (fun _ _ => fps_nil _)
 obtain ⟨ln_a, le_a, mx_a, ni_a⟩ := RdA.inv v_a
 have V_u_a : NRa inEntry (V H w []) w a := NRa.start u_a (fun _ _ => fps_nil _)
 refine calls_enter 27 Tryz.func12 rfl Tryz.ntmps12 (Nat.le_of_ble_eq_true rfl) (fun _ F0i => ?_)
 have F0 : Fr 27 [(0, .slice a_a a_n a_c), (1, .int .i64 left)] _ := F0i
 clear F0i
 refine wp_seq (wp_region_lit (l_op (f_val F0 rfl rfl (r_assign rfl rfl) rfl fun _ F1 => ?_)))
 refine s_end (x_normal (wp_seq (wp_region_lit (l_op (f_mv F1 rfl rfl rfl rfl rfl fun _ F2 => ?_)))))
 refine l_op (f_mv F2 rfl rfl rfl rfl rfl fun _ F3 => ?_)
 refine l_op (f_val F3 rfl rfl (r_len Tryz.underlying29 rfl (F3.ev 7 rfl)) rfl fun _ F4 => ?_)
 refine l_op (f_val F4 rfl rfl (r_sub (z := (left - ((a_n : Nat) : Int))) rfl (F4.ev 6 rfl) (F4.ev 8 rfl) (by first | rfl | omega) ⟨by first | omega | (unfold i64ok at *; omega), by first | omega | (unfold i64ok at *; omega)⟩) rfl fun _ F5 => ?_)
 refine l_op (f_as F5 rfl rfl rfl rfl rfl fun _ F6 => ?_)
 refine s_end (x_normal (wp_seq (wp_seq (wp_region_lit (l_op (f_mv F6 rfl rfl rfl rfl rfl fun _ F7 => ?_))))))
 refine l_op (f_val F7 rfl rfl (r_cmp (b := decide ((left - ((a_n : Nat) : Int)) < 0)) (.inr (.inr (.inl rfl))) rfl (F7.ev 10 rfl) rfl (dec_of (by omega))) rfl fun _ F8 => ?_)
 refine s_end (x_normal (x_cond (p := (left - ((a_n : Nat) : Int)) < 0) (F8.ev 11 rfl) (fun h9 => ?_) (fun h9 => ?_)))
 · skip
   refine wp_seq (wp_region_lit (l_op (f_val F8 rfl rfl (r_assign rfl rfl) rfl fun _ F10 => ?_)))
   have F11 : Fr 27 [(4, .int .i64 (-1))] _ := F10.cut rfl
   clear F0 F1 F2 F3 F4 F5 F6 F7 F8 F10
   refine s_end (x_normal (wp_ret (x_then_ret ?_)))
   refine x_done (v := .int .i64 (-1)) F11 (results_1 Tryz.results12 (.tmp (F11.ev 4 rfl))) ?_
   exact ⟨(by rw [(show (-1) = (subOr left (szEntriesH a)) from by unfold szEntriesH; rw [← ln_a]; exact sz_neg (by assumption))]), (Mv.pick (Mv.refl (At.nil w)) [] rfl), subOr_i64 p0 p1⟩
 · skip
   refine wp_skip (x_normal (wp_seq (wp_seq (wp_region_lit (l_op (f_val F8 rfl rfl (r_assign rfl rfl) rfl fun _ F12 => ?_))))))
   have F13 : Fr 27 [(5, .int .i64 0), (1, .int .i64 (left - ((a_n : Nat) : Int))), (0, .slice a_a a_n a_c)] _ := F12.cut rfl
   clear F0 F1 F2 F3 F4 F5 F6 F7 F8 F12
   refine s_end (x_normal (wp_block ?_))
   refine x_loop (fun (k : Nat) aZ wZ => ∃ (lv : Int), Fr 27 [(5, .int .i64 ((k : Nat) : Int)), (1, .int .i64 lv), (0, .slice a_a a_n a_c)] aZ ∧ Mv [] w [] wZ ∧ (k ≤ a_n) ∧ (lv = left - ((a.length + sumOf szEntryH (a.take k) : Nat) : Int)) ∧ (0 ≤ lv)) (fun (k : Nat) => a_n - k) (0) ?_ ?_
   · exact ⟨(left - ((a_n : Nat) : Int)), F13.cut rfl, (Mv.refl (At.nil w)), by omega, by have e : sumOf szEntryH (a.take 0) = 0 := rfl; rw [e]; omega, by omega⟩
   · rintro k a14 w14 ⟨lv, F14, S14, hk_0, hk_1, hk_2⟩
     refine wp_seq (wp_seq (wp_region_lit (l_op (f_mv F14 rfl rfl rfl rfl rfl fun _ F15 => ?_))))
     refine l_op (f_mv F15 rfl rfl rfl rfl rfl fun _ F16 => ?_)
     refine l_op (f_val F16 rfl rfl (r_len Tryz.underlying29 rfl (F16.ev 13 rfl)) rfl fun _ F17 => ?_)
     refine l_op (f_val F17 rfl rfl (r_cmp (b := decide (k < a_n)) (.inr (.inr (.inl rfl))) rfl (F17.ev 12 rfl) (F17.ev 14 rfl) (dec_of (by omega))) rfl fun _ F18 => ?_)
     refine s_end (x_normal (x_cond (p := k < a_n) (F18.ev 15 rfl) (fun h19 => ?_) (fun h19 => ?_)))
     · skip
       refine wp_skip (x_normal (wp_seq (wp_block (wp_seq (wp_region_lit (l_op (f_mv F18 rfl rfl rfl rfl rfl fun _ F20 => ?_)))))))
       refine l_op (f_mv F20 rfl rfl rfl rfl rfl fun _ F21 => ?_)
       obtain ⟨B22, O22, x1, ad22, hx1, okx1, ln22, cl22⟩ := RdA.at (RdA.mv (Nat.succ_pos _) V_v_a S14) k (by first | assumption | omega)
       clear ln22
       have oj23 := okx1
       obtain ⟨oi23_0, oi23_1, oi23_2, oi23_3, oi23_4⟩ := oj23
       have VI24 : RdA 7 encStep okStep (V H w []) w14 (.slice x1.a0 x1.n0 x1.c0) x1.d.steps := NRa.get (NRa.mv V_u_a S14) hx1 (j := 0) rfl
       obtain ⟨ln24, le24, mx24, ni24⟩ := RdA.inv VI24
       have VI25 : RdA 3 encR okR (V H w []) w14 (.slice x1.a1 x1.n1 x1.c1) x1.d.answers := NRa.get (NRa.mv V_u_a S14) hx1 (j := 1) rfl
       obtain ⟨ln25, le25, mx25, ni25⟩ := RdA.inv VI25
       refine l_op (f_val F21 rfl rfl (r_indexAddr (i := k) ET_29 rfl ((F21.ev 18 rfl).trans (by rw [ad22])) (F21.ev 19 rfl) (by omega) (by first | assumption | omega)) rfl fun _ F26 => ?_)
       refine l_op (f_val (v := .agg #[.int .i64 x1.d.seq, .int .i64 x1.d.kind, .int .i64 x1.d.tx, .slice x1.a0 x1.n0 x1.c0, .slice x1.a1 x1.n1 x1.c1, .int .i64 x1.d.began, .int .i64 x1.d.ended, .bool x1.d.laid]) F26 rfl rfl (r_load (cs := [.int .i64 x1.d.seq, .int .i64 x1.d.kind, .int .i64 x1.d.tx, .slice x1.a0 x1.n0 x1.c0, .slice x1.a1 x1.n1 x1.c1, .int .i64 x1.d.began, .int .i64 x1.d.ended, .bool x1.d.laid]) TI_88 rfl (F26.ev 20 rfl) rfl (fun h => nomatch h) (elem_sub (f := 0) cl22 [.int .i64 x1.d.seq, .int .i64 x1.d.kind, .int .i64 x1.d.tx, .slice x1.a0 x1.n0 x1.c0, .slice x1.a1 x1.n1 x1.c1, .int .i64 x1.d.began, .int .i64 x1.d.ended, .bool x1.d.laid] rfl)) rfl fun _ F27 => ?_)
       refine l_op (f_mv F27 rfl rfl rfl rfl rfl fun _ F28 => ?_)
       refine l_op (f_call F28 CF_38 rfl rfl rfl rfl (lc (F28.ev 21 rfl) (lc (F28.ev 22 rfl) rfl)) (laws_szEntry_c (a := x1.d) (left := lv) okx1.1 okx1.2.1 okx1.2.2.1 VI24 VI25 okx1.2.2.2.1 okx1.2.2.2.2 (by first | assumption | exact ⟨by omega, by omega⟩ | (unfold i64ok at *; omega)) (by first | assumption | omega | (simp <;> omega)) (by first | assumption | omega | (simp <;> omega))) ?_)
       rintro _ w29 ⟨rfl, m29, q29_0⟩
       refine ⟨_, rfl, fun _ F30 => ?_⟩
       have S29 := At.frame0 S14.at' m29
       clear m29
       refine l_op (f_as F30 rfl rfl rfl rfl rfl fun _ F31 => ?_)
       have F32 : Fr 27 [(1, .int .i64 (subOr lv (szEntryD x1.d))), (5, .int .i64 ((k : Nat) : Int)), (0, .slice a_a a_n a_c)] _ := F31.cut rfl
       clear F14 F15 F16 F17 F18 F20 F21 F26 F27 F28 F30 F31
       have T33 : Mv _ _ [] _ := S29
       refine s_end (x_normal (wp_seq (wp_region_lit (l_op (f_mv F32 rfl rfl rfl rfl rfl fun _ F34 => ?_)))))
       refine l_op (f_val F34 rfl rfl (r_cmp (b := decide ((subOr lv (szEntryD x1.d)) < 0)) (.inr (.inr (.inl rfl))) rfl (F34.ev 24 rfl) rfl (dec_of (by omega))) rfl fun _ F35 => ?_)
       refine s_end (x_normal (x_cond (p := (subOr lv (szEntryD x1.d)) < 0) (F35.ev 25 rfl) (fun h36 => ?_) (fun h36 => ?_)))
       · skip
         refine wp_seq (wp_region_lit (l_op (f_val F35 rfl rfl (r_assign rfl rfl) rfl fun _ F37 => ?_)))
         refine s_end (x_normal (wp_ret (x_block_ret (x_then_ret (x_then_ret (x_block_ret (x_then_ret ?_)))))))
         refine x_done (v := .int .i64 (-1)) F37 (results_1 Tryz.results12 (.tmp (F37.ev 4 rfl))) ?_
         exact ⟨(by rw [(show (-1) = (subOr left (szEntriesH a)) from by unfold szEntriesH; exact sz_stop (f := szEntryH) hx1 hk_1 (by assumption))]), (Mv.pick (S14.trans T33) [] rfl), subOr_i64 p0 p1⟩
       · skip
         refine wp_skip (x_block_normal (x_normal (wp_region_lit (l_op (f_mv F35 rfl rfl rfl rfl rfl fun _ F38 => ?_)))))
         refine l_op (f_val F38 rfl rfl (r_add (z := ((k + 1 : Nat) : Int)) rfl (F38.ev 16 rfl) rfl (by first | rfl | omega) ⟨by first | omega | (unfold i64ok at *; omega), by first | omega | (unfold i64ok at *; omega)⟩) rfl fun _ F39 => ?_)
         refine l_op (f_as F39 rfl rfl rfl rfl rfl fun _ F40 => ?_)
         refine s_end ?_
         refine x_normal ⟨k + 1, by omega, (subOr lv (szEntryD x1.d)), F40.cut rfl, ((S14.trans T33).pick [] rfl), by omega, (sz_next (f := szEntryH) hx1 hk_1 (by assumption)).1, (sz_next (f := szEntryH) hx1 hk_1 (by assumption)).2⟩
     · skip
       refine wp_exit (x_then_exit (x_then_exit (x_block_here (x_normal (wp_seq (wp_region_lit (l_op (f_mv F18 rfl rfl rfl rfl rfl fun _ F41 => ?_))))))))
       refine l_op (f_as F41 rfl rfl rfl rfl rfl fun _ F42 => ?_)
       refine s_end (x_normal (wp_ret ?_))
       refine x_done (v := .int .i64 lv) F42 (results_1 Tryz.results12 (.tmp (F42.ev 4 rfl))) ?_
       exact ⟨(by rw [(show lv = (subOr left (szEntriesH a)) from by unfold szEntriesH; exact sz_done (by omega) hk_1 hk_2)]), (Mv.pick S14 [] rfl), subOr_i64 p0 p1⟩
theorem laws_toStep_c {w : World} {H : Nat → Prop} {a : StepD} (Q5 : i64ok a.proc) (Q1 : i64ok a.call.kind) (Q2 : okS a.call.name) (Q4 : okS a.call.to_) (h_a_call_a : i64ok a.call.a) (Q0 : i64ok a.call.b) (Q3 : okS a.call.text) :
    Calls Tryz.prog 84 #[.agg #[.int .i64 a.proc, .int .i64 a.call.kind, .string a.call.name, .string a.call.to_, .int .i64 a.call.a, .int .i64 a.call.b, .string a.call.text]] w fun e w' => e = .returned (.agg #[.int .i64 a.proc, .int .i64 a.call.kind, .string a.call.name, .string a.call.to_, .int .i64 a.call.a, .int .i64 a.call.b, .string a.call.text]) ∧ Mv [] w [] w' ∧ okS a.call.name ∧ okS a.call.to_ ∧ okS a.call.text ∧ i64ok a.proc ∧ i64ok a.call.kind ∧ i64ok a.call.a ∧ i64ok a.call.b := by
 have uU : True := (fun _ _ _ _ _ => trivial) H Q5 Q1 h_a_call_a Q0
 clear uU
 refine calls_enter 12 Tryz.func84 rfl Tryz.ntmps84 (Nat.le_of_ble_eq_true rfl) (fun _ F0i => ?_)
 have F0 : Fr 12 [(0, .agg #[.int .i64 a.proc, .int .i64 a.call.kind, .string a.call.name, .string a.call.to_, .int .i64 a.call.a, .int .i64 a.call.b, .string a.call.text])] _ := F0i
 clear F0i
 refine wp_seq (wp_region_lit (l_op (f_box F0 (At.nil w) rfl rfl rfl (F0.ev 0 rfl) rfl rfl fun b1 _ w1 F2 S1 => ?_)))
 refine l_op (f_alloc F2 S1.at' ZI_145 rfl rfl rfl rfl rfl fun b3 _ w3 F4 S3 => ?_)
 have T5 : Mv _ _ [bx b3 [.int .i64 0, .int .i64 0, .string (⟨#[]⟩ : ByteArray), .string (⟨#[]⟩ : ByteArray), .int .i64 0, .int .i64 0, .string (⟨#[]⟩ : ByteArray)] 145, bx b1 [.int .i64 a.proc, .int .i64 a.call.kind, .string a.call.name, .string a.call.to_, .int .i64 a.call.a, .int .i64 a.call.b, .string a.call.text] 138] _ := S3
 refine s_end (x_normal (wp_seq (wp_region_lit (l_op (f_alloc F4 T5.at' ZI_145 rfl rfl rfl rfl rfl fun b6 _ w6 F7 S6 => ?_)))))
 refine s_end (x_normal (wp_seq (wp_region_lit (l_op (f_val F7 rfl rfl (r_field FI_138_0 rfl (F7.ev 1 rfl) rfl) rfl fun _ F8 => ?_)))))
 refine l_op (f_val (v := .int .i64 a.proc) F8 rfl rfl (r_loadB S6.at' 2 TI_3 rfl rfl (F8.ev 4 rfl) rfl rfl (fun _ => rfl) rfl) rfl fun _ F9 => ?_)
 refine l_op (f_val F9 rfl rfl (r_field FI_145_0 rfl (F9.ev 3 rfl) rfl) rfl fun _ F10 => ?_)
 refine l_op (s_store S6.at' 0 TI_3 rfl rfl rfl rfl rfl (F10.ev 6 rfl) (F10.ev 5 rfl) rfl rfl rfl rfl rfl fun w11 S11 => ?_)
 have T12 : Mv _ _ [bx b6 [.int .i64 a.proc, .int .i64 0, .string (⟨#[]⟩ : ByteArray), .string (⟨#[]⟩ : ByteArray), .int .i64 0, .int .i64 0, .string (⟨#[]⟩ : ByteArray)] 145, bx b3 [.int .i64 0, .int .i64 0, .string (⟨#[]⟩ : ByteArray), .string (⟨#[]⟩ : ByteArray), .int .i64 0, .int .i64 0, .string (⟨#[]⟩ : ByteArray)] 145, bx b1 [.int .i64 a.proc, .int .i64 a.call.kind, .string a.call.name, .string a.call.to_, .int .i64 a.call.a, .int .i64 a.call.b, .string a.call.text] 138] _ := S11
 refine s_end (x_normal (wp_seq (wp_region_lit (l_op (f_val F10 rfl rfl (r_field FI_138_1 rfl (F10.ev 1 rfl) rfl) rfl fun _ F13 => ?_)))))
 refine l_op (f_val (v := .agg #[.int .i64 a.call.kind, .string a.call.name, .string a.call.to_, .int .i64 a.call.a, .int .i64 a.call.b, .string a.call.text]) F13 rfl rfl (r_loadB T12.at' 2 TI_132 rfl rfl (F13.ev 7 rfl) rfl rfl (fun h => nomatch h) rfl) rfl fun _ F14 => ?_)
 refine l_op (f_call F14 CF_82 rfl rfl rfl rfl (lc (F14.ev 8 rfl) rfl) (laws_toCall_c (H := fun _ => True) (a := a.call) (by first | assumption | exact ⟨by omega, by omega⟩ | (unfold i64ok at *; omega) | (simp only [i64ok]; omega)) Q2 Q4 (by first | assumption | exact ⟨by omega, by omega⟩ | (unfold i64ok at *; omega) | (simp only [i64ok]; omega)) (by first | assumption | exact ⟨by omega, by omega⟩ | (unfold i64ok at *; omega) | (simp only [i64ok]; omega)) Q3) ?_)
 rintro _ w15 ⟨rfl, m15, Q6, Q8, Q7, q15_0, q15_1, q15_2⟩
 refine ⟨_, rfl, fun _ F16 => ?_⟩
 have S15 := At.frame0 T12.at' m15
 clear m15
 refine l_op (f_val F16 rfl rfl (r_field FI_145_1 rfl (F16.ev 3 rfl) rfl) rfl fun _ F17 => ?_)
 refine l_op (s_store S15.at' 0 TI_140 rfl rfl rfl rfl rfl (F17.ev 10 rfl) (F17.ev 9 rfl) rfl rfl rfl rfl rfl fun w18 S18 => ?_)
 have F19 : Fr 12 [(10, .pointer (some ⟨b6, 1, none⟩)), (9, .agg #[.int .i64 a.call.kind, .string a.call.name, .string a.call.to_, .int .i64 a.call.a, .int .i64 a.call.b, .string a.call.text]), (3, .pointer (some ⟨b6, 0, none⟩)), (2, .pointer (some ⟨b3, 0, none⟩))] _ := F17.cut rfl
 clear F0 F2 F4 F7 F8 F9 F10 F13 F14 F16 F17
 have T20 : Mv _ _ [bx b6 [.int .i64 a.proc, .int .i64 a.call.kind, .string a.call.name, .string a.call.to_, .int .i64 a.call.a, .int .i64 a.call.b, .string a.call.text] 145, bx b3 [.int .i64 0, .int .i64 0, .string (⟨#[]⟩ : ByteArray), .string (⟨#[]⟩ : ByteArray), .int .i64 0, .int .i64 0, .string (⟨#[]⟩ : ByteArray)] 145, bx b1 [.int .i64 a.proc, .int .i64 a.call.kind, .string a.call.name, .string a.call.to_, .int .i64 a.call.a, .int .i64 a.call.b, .string a.call.text] 138] _ := S18
 refine s_end (x_normal (wp_seq (wp_region_lit (l_op (f_val (v := .agg #[.int .i64 a.proc, .int .i64 a.call.kind, .string a.call.name, .string a.call.to_, .int .i64 a.call.a, .int .i64 a.call.b, .string a.call.text]) F19 rfl rfl (r_loadB T20.at' 0 TI_145 rfl rfl (F19.ev 3 rfl) rfl rfl (fun h => nomatch h) rfl) rfl fun _ F21 => ?_)))))
 refine l_op (s_store T20.at' 1 TI_145 rfl rfl rfl rfl rfl (F21.ev 2 rfl) (F21.ev 11 rfl) rfl rfl rfl rfl rfl fun w22 S22 => ?_)
 refine s_end (x_normal (wp_ret ?_))
 refine x_done (v := .agg #[.int .i64 a.proc, .int .i64 a.call.kind, .string a.call.name, .string a.call.to_, .int .i64 a.call.a, .int .i64 a.call.b, .string a.call.text]) F21 (results_1 Tryz.results84 (.cell (F21.ev 2 rfl) (run_loadVar' TI_145 _ [.int .i64 a.proc, .int .i64 a.call.kind, .string a.call.name, .string a.call.to_, .int .i64 a.call.a, .int .i64 a.call.b, .string a.call.text] rfl (fun h => nomatch h) (At.cells S22.at' 0 rfl 0 [.int .i64 a.proc, .int .i64 a.call.kind, .string a.call.name, .string a.call.to_, .int .i64 a.call.a, .int .i64 a.call.b, .string a.call.text] rfl)))) ?_
 exact ⟨rfl, (Mv.pick (S1.trans (T5.trans (S6.trans (T12.trans (S15.trans (T20.trans S22)))))) [] rfl), Q6, Q8, Q7, by first | assumption | omega, by first | assumption | omega, by first | assumption | omega, by first | assumption | omega⟩
theorem laws_toStepS_c {w : World} {H : Nat → Prop} {a : List StepD} {a_a : Option Addr} {a_n a_c : Nat} (v_a : RdA 7 encStep okStep H w (.slice a_a a_n a_c) a) (p0 : a.length ≤ 1048576) :
    Calls Tryz.prog 70 #[.slice a_a a_n a_c] w fun e w' => ∃ (r0_a : Option Addr), ∃ (r0_n : Nat), ∃ (r0_c : Nat), e = .returned (.slice r0_a r0_n r0_c) ∧ Mv [] w [ow 145 7 encStep okStep (.slice r0_a r0_n r0_c) a] w' := by
 have uU : True := (fun _ => trivial) p0
 clear uU
 have V_v_a : RdA 7 encStep okStep (V H w []) w (.slice a_a a_n a_c) a := RdA.start v_a (fun _ _ => fps_nil _)
 obtain ⟨ln_a, le_a, mx_a, ni_a⟩ := RdA.inv v_a
 refine calls_enter 23 Tryz.func70 rfl Tryz.ntmps70 (Nat.le_of_ble_eq_true rfl) (fun _ F0i => ?_)
 have F0 : Fr 23 [(0, .slice a_a a_n a_c)] _ := F0i
 clear F0i
 refine wp_seq (wp_region_lit (l_op (f_val F0 rfl rfl (r_assign rfl rfl) rfl fun _ F1 => ?_)))
 refine s_end (x_normal (wp_seq (wp_region_lit (l_op (f_mv F1 rfl rfl rfl rfl rfl fun _ F2 => ?_)))))
 refine l_op (f_val F2 rfl rfl (r_len Tryz.underlying86 rfl (F2.ev 5 rfl)) rfl fun _ F3 => ?_)
 refine l_op (f_mk (ok := okStep) (⟨0, (⟨0, (⟨#[]⟩ : ByteArray), (⟨#[]⟩ : ByteArray), 0, 0, (⟨#[]⟩ : ByteArray)⟩ : CallD)⟩ : StepD) F3 (At.nil w) ET_100 rfl rfl rfl rfl (F3.ev 6 rfl) (F3.ev 6 rfl) rfl ⟨(show i64ok 0 from by first | assumption | exact ⟨by omega, by omega⟩), (show i64ok 0 from by first | assumption | exact ⟨by omega, by omega⟩), (by unfold okS; decide), (by unfold okS; decide), (show i64ok 0 from by first | assumption | exact ⟨by omega, by omega⟩), (show i64ok 0 from by first | assumption | exact ⟨by omega, by omega⟩), (by unfold okS; decide)⟩ (by omega) fun b4 _ w4 F5 S4 => ?_)
 refine l_op (f_as F5 rfl rfl rfl rfl rfl fun _ F6 => ?_)
 refine s_end (x_normal (wp_seq (wp_seq (wp_region_lit (l_op (f_val F6 rfl rfl (r_assign rfl rfl) rfl fun _ F7 => ?_))))))
 refine s_end (x_normal (wp_block ?_))
 refine x_loop (fun (k : Nat) aZ wZ => ∃ (D : List StepD), ∃ (oa : Option Addr), ∃ (on : Nat), ∃ (oc : Nat), Fr 23 [(4, .int .i64 ((k : Nat) : Int)), (3, .slice oa on oc), (0, .slice a_a a_n a_c)] aZ ∧ Mv [ow 145 7 encStep okStep (.slice (some ⟨b4, 0, none⟩) a_n a_n) (List.replicate a_n (⟨0, (⟨0, (⟨#[]⟩ : ByteArray), (⟨#[]⟩ : ByteArray), 0, 0, (⟨#[]⟩ : ByteArray)⟩ : CallD)⟩ : StepD))] w4 [ow 145 7 encStep okStep (.slice oa on oc) D] wZ ∧ (k ≤ a_n) ∧ (D = copyTo (⟨0, (⟨0, (⟨#[]⟩ : ByteArray), (⟨#[]⟩ : ByteArray), 0, 0, (⟨#[]⟩ : ByteArray)⟩ : CallD)⟩ : StepD) k a) ∧ (on = a_n)) (fun (k : Nat) => a_n - k) (0) ?_ ?_
 · exact ⟨List.replicate a_n (⟨0, (⟨0, (⟨#[]⟩ : ByteArray), (⟨#[]⟩ : ByteArray), 0, 0, (⟨#[]⟩ : ByteArray)⟩ : CallD)⟩ : StepD), (some ⟨b4, 0, none⟩), a_n, a_n, F7.cut rfl, (Mv.refl S4.at'), by omega, copyTo_start _ _ ln_a, rfl⟩
 · rintro k a8 w8 ⟨D, oa, on, oc, F8, S8, hk_0, hk_1, hk_2⟩
   refine wp_seq (wp_seq (wp_region_lit (l_op (f_mv F8 rfl rfl rfl rfl rfl fun _ F9 => ?_))))
   refine l_op (f_mv F9 rfl rfl rfl rfl rfl fun _ F10 => ?_)
   refine l_op (f_val F10 rfl rfl (r_len Tryz.underlying86 rfl (F10.ev 9 rfl)) rfl fun _ F11 => ?_)
   refine l_op (f_val F11 rfl rfl (r_cmp (b := decide (k < a_n)) (.inr (.inr (.inl rfl))) rfl (F11.ev 8 rfl) (F11.ev 10 rfl) (dec_of (by omega))) rfl fun _ F12 => ?_)
   refine s_end (x_normal (x_cond (p := k < a_n) (F12.ev 11 rfl) (fun h13 => ?_) (fun h13 => ?_)))
   · skip
     refine wp_skip (x_normal (wp_seq (wp_block (wp_region_lit (l_op (f_mv F12 rfl rfl rfl rfl rfl fun _ F14 => ?_))))))
     refine l_op (f_mv F14 rfl rfl rfl rfl rfl fun _ F15 => ?_)
     refine l_op (f_mv F15 rfl rfl rfl rfl rfl fun _ F16 => ?_)
     refine l_op (f_mv F16 rfl rfl rfl rfl rfl fun _ F17 => ?_)
     obtain ⟨B18, O18, x1, ad18, hx1, okx1, ln18, cl18⟩ := RdA.at (RdA.mv (Nat.succ_pos _) V_v_a (S4.trans S8)) k (by first | assumption | omega)
     clear ln18
     refine l_op (f_val F17 rfl rfl (r_indexAddr (i := k) ET_86 rfl ((F17.ev 16 rfl).trans (by rw [ad18])) (F17.ev 17 rfl) (by omega) (by first | assumption | omega)) rfl fun _ F19 => ?_)
     refine l_op (f_val (v := .agg #[.int .i64 x1.proc, .int .i64 x1.call.kind, .string x1.call.name, .string x1.call.to_, .int .i64 x1.call.a, .int .i64 x1.call.b, .string x1.call.text]) F19 rfl rfl (r_load (cs := [.int .i64 x1.proc, .int .i64 x1.call.kind, .string x1.call.name, .string x1.call.to_, .int .i64 x1.call.a, .int .i64 x1.call.b, .string x1.call.text]) TI_138 rfl (F19.ev 18 rfl) rfl (fun h => nomatch h) (elem_sub (f := 0) cl18 [.int .i64 x1.proc, .int .i64 x1.call.kind, .string x1.call.name, .string x1.call.to_, .int .i64 x1.call.a, .int .i64 x1.call.b, .string x1.call.text] rfl)) rfl fun _ F20 => ?_)
     refine l_op (f_call F20 CF_84 rfl rfl rfl rfl (lc (F20.ev 19 rfl) rfl) (laws_toStep_c (H := fun _ => True) (a := x1) okx1.1 okx1.2.1 okx1.2.2.1 okx1.2.2.2.1 okx1.2.2.2.2.1 okx1.2.2.2.2.2.1 okx1.2.2.2.2.2.2) ?_)
     rintro _ w21 ⟨rfl, m21, Q0, Q2, Q1, q21_0, q21_1, q21_2, q21_3⟩
     refine ⟨_, rfl, fun _ F22 => ?_⟩
     have S21 := At.frame0 S8.at' m21
     clear m21
     obtain ⟨B23, x2, ad23, hx2, okx2, cl23⟩ := At.ownAt S21.at' ET_100.hk 0 rfl k (by first | assumption | omega)
     refine l_op (f_val F22 rfl rfl (r_indexAddr (i := k) ET_100 rfl ((F22.ev 14 rfl).trans (by rw [ad23])) (F22.ev 15 rfl) (by omega) (by first | assumption | omega)) rfl fun _ F24 => ?_)
     refine l_op (s_storeEl S21.at' 0 k x1 ET_100.hk ET_100.h1 TI_145 rfl ad23 rfl rfl rfl rfl (F24.ev 21 rfl) (F24.ev 20 rfl) rfl (by first | assumption | omega) ⟨(show i64ok x1.proc from by first | assumption | exact ⟨by omega, by omega⟩), (show i64ok x1.call.kind from by first | assumption | exact ⟨by omega, by omega⟩), Q0, Q2, (show i64ok x1.call.a from by first | assumption | exact ⟨by omega, by omega⟩), (show i64ok x1.call.b from by first | assumption | exact ⟨by omega, by omega⟩), Q1⟩ fun w25 S25 => ?_)
     have F26 : Fr 23 [(21, .pointer (some ⟨B23, 0 + k * 7, none⟩)), (20, .agg #[.int .i64 x1.proc, .int .i64 x1.call.kind, .string x1.call.name, .string x1.call.to_, .int .i64 x1.call.a, .int .i64 x1.call.b, .string x1.call.text]), (4, .int .i64 ((k : Nat) : Int)), (3, .slice oa on oc), (0, .slice a_a a_n a_c)] _ := F24.cut rfl
     clear F8 F9 F10 F11 F12 F14 F15 F16 F17 F19 F20 F22 F24
     have T27 : Mv _ _ [ow 145 7 encStep okStep (.slice oa on oc) (D.set k x1)] _ := S25
     refine s_end (x_block_normal (x_normal (wp_region_lit (l_op (f_mv F26 rfl rfl rfl rfl rfl fun _ F28 => ?_)))))
     refine l_op (f_val F28 rfl rfl (r_add (z := ((k + 1 : Nat) : Int)) rfl (F28.ev 12 rfl) rfl (by first | rfl | omega) ⟨by first | omega | (unfold i64ok at *; omega), by first | omega | (unfold i64ok at *; omega)⟩) rfl fun _ F29 => ?_)
     refine l_op (f_as F29 rfl rfl rfl rfl rfl fun _ F30 => ?_)
     refine s_end ?_
     refine x_normal ⟨k + 1, by omega, D.set k x1, oa, on, oc, F30.cut rfl, ((S8.trans (S21.trans T27)).pick [0] rfl), by omega, by rw [hk_1, copyTo_step hx1], by assumption⟩
   · skip
     refine wp_exit (x_then_exit (x_then_exit (x_block_here (x_normal (wp_seq (wp_region_lit (l_op (f_mv F12 rfl rfl rfl rfl rfl fun _ F31 => ?_))))))))
     refine l_op (f_as F31 rfl rfl rfl rfl rfl fun _ F32 => ?_)
     refine s_end (x_normal (wp_ret ?_))
     refine x_done (v := .slice oa on oc) F32 (results_1 Tryz.results70 (.tmp (F32.ev 2 rfl))) ?_
     exact ⟨oa, on, oc, rfl, (Mv.cast (Mv.pick (S4.trans S8) [0] rfl) (by rw [(show D = a from by rw [hk_1, copyTo_end (by omega)])]; all_goals rfl))⟩
theorem laws_toEntry_c {w : World} {H : Nat → Prop} {a : EntryD} {Q6 : Option Addr} {Q8 Q7 : Nat} {Q3 : Option Addr} {Q5 Q4 : Nat} (Q25 : i64ok a.seq) (Q24 : i64ok a.kind) (Q26 : i64ok a.tx) (Q19 : RdA 7 encStep okStep H w (.slice Q6 Q8 Q7) a.steps) (Q18 : RdA 3 encR okR H w (.slice Q3 Q5 Q4) a.answers) (Q22 : i64ok a.began) (Q23 : i64ok a.ended) (p0 : a.steps.length ≤ 1048576) (p1 : a.answers.length ≤ 1048576) :
    Calls Tryz.prog 47 #[.agg #[.int .i64 a.seq, .int .i64 a.kind, .int .i64 a.tx, .slice Q6 Q8 Q7, .slice Q3 Q5 Q4, .int .i64 a.began, .int .i64 a.ended, .bool a.laid]] w fun e w' => ∃ (Q15 : Option Addr), ∃ (Q17 : Nat), ∃ (Q16 : Nat), ∃ (Q12 : Option Addr), ∃ (Q14 : Nat), ∃ (Q13 : Nat), e = .returned (.agg #[.int .i64 a.seq, .int .i64 a.kind, .int .i64 a.tx, .slice Q15 Q17 Q16, .slice Q12 Q14 Q13, .int .i64 a.began, .int .i64 a.ended, .bool a.laid]) ∧ Mv [] w [ow 145 7 encStep okStep (.slice Q15 Q17 Q16) a.steps, ow 142 3 encR okR (.slice Q12 Q14 Q13) a.answers] w' := by
 have uU : True := (fun _ _ _ _ _ _ _ => trivial) Q25 Q24 Q26 Q22 Q23 p0 p1
 clear uU
 have Q21 : RdA 7 encStep okStep (V H w []) w (.slice Q6 Q8 Q7) a.steps := RdA.start Q19 (fun _ _ => fps_nil _)
 obtain ⟨Q30, Q28, Q38, Q40⟩ := RdA.inv Q19
 have Q20 : RdA 3 encR okR (V H w []) w (.slice Q3 Q5 Q4) a.answers := RdA.start Q18 (fun _ _ => fps_nil _)
 obtain ⟨Q29, Q27, Q37, Q39⟩ := RdA.inv Q18
 refine calls_enter 31 Tryz.func47 rfl Tryz.ntmps47 (Nat.le_of_ble_eq_true rfl) (fun _ F0i => ?_)
 have F0 : Fr 31 [(0, .agg #[.int .i64 a.seq, .int .i64 a.kind, .int .i64 a.tx, .slice Q6 Q8 Q7, .slice Q3 Q5 Q4, .int .i64 a.began, .int .i64 a.ended, .bool a.laid])] _ := F0i
 clear F0i
 refine wp_seq (wp_region_lit (l_op (f_box F0 (At.nil w) rfl rfl rfl (F0.ev 0 rfl) rfl rfl fun b1 _ w1 F2 S1 => ?_)))
 refine l_op (f_alloc F2 S1.at' ZI_102 rfl rfl rfl rfl rfl fun b3 _ w3 F4 S3 => ?_)
 have T5 : Mv _ _ [bx b3 [.int .i64 0, .int .i64 0, .int .i64 0, .slice none 0 0, .slice none 0 0, .int .i64 0, .int .i64 0, .bool false] 102, bx b1 [.int .i64 a.seq, .int .i64 a.kind, .int .i64 a.tx, .slice Q6 Q8 Q7, .slice Q3 Q5 Q4, .int .i64 a.began, .int .i64 a.ended, .bool a.laid] 88] _ := S3
 refine s_end (x_normal (wp_seq (wp_region_lit (l_op (f_alloc F4 T5.at' ZI_102 rfl rfl rfl rfl rfl fun b6 _ w6 F7 S6 => ?_)))))
 refine s_end (x_normal (wp_seq (wp_region_lit (l_op (f_val F7 rfl rfl (r_field FI_88_0 rfl (F7.ev 1 rfl) rfl) rfl fun _ F8 => ?_)))))
 refine l_op (f_val (v := .int .i64 a.seq) F8 rfl rfl (r_loadB S6.at' 2 TI_3 rfl rfl (F8.ev 4 rfl) rfl rfl (fun _ => rfl) rfl) rfl fun _ F9 => ?_)
 refine l_op (f_val F9 rfl rfl (r_field FI_102_0 rfl (F9.ev 3 rfl) rfl) rfl fun _ F10 => ?_)
 refine l_op (s_store S6.at' 0 TI_3 rfl rfl rfl rfl rfl (F10.ev 6 rfl) (F10.ev 5 rfl) rfl rfl rfl rfl rfl fun w11 S11 => ?_)
 have T12 : Mv _ _ [bx b6 [.int .i64 a.seq, .int .i64 0, .int .i64 0, .slice none 0 0, .slice none 0 0, .int .i64 0, .int .i64 0, .bool false] 102, bx b3 [.int .i64 0, .int .i64 0, .int .i64 0, .slice none 0 0, .slice none 0 0, .int .i64 0, .int .i64 0, .bool false] 102, bx b1 [.int .i64 a.seq, .int .i64 a.kind, .int .i64 a.tx, .slice Q6 Q8 Q7, .slice Q3 Q5 Q4, .int .i64 a.began, .int .i64 a.ended, .bool a.laid] 88] _ := S11
 refine s_end (x_normal (wp_seq (wp_region_lit (l_op (f_val F10 rfl rfl (r_field FI_88_1 rfl (F10.ev 1 rfl) rfl) rfl fun _ F13 => ?_)))))
 refine l_op (f_val (v := .int .i64 a.kind) F13 rfl rfl (r_loadB T12.at' 2 TI_3 rfl rfl (F13.ev 7 rfl) rfl rfl (fun _ => rfl) rfl) rfl fun _ F14 => ?_)
 refine l_op (f_val F14 rfl rfl (r_field FI_102_1 rfl (F14.ev 3 rfl) rfl) rfl fun _ F15 => ?_)
 refine l_op (s_store T12.at' 0 TI_3 rfl rfl rfl rfl rfl (F15.ev 9 rfl) (F15.ev 8 rfl) rfl rfl rfl rfl rfl fun w16 S16 => ?_)
 have F17 : Fr 31 [(9, .pointer (some ⟨b6, 1, none⟩)), (8, .int .i64 a.kind), (3, .pointer (some ⟨b6, 0, none⟩)), (2, .pointer (some ⟨b3, 0, none⟩)), (1, .pointer (some ⟨b1, 0, none⟩))] _ := F15.cut rfl
 clear F0 F2 F4 F7 F8 F9 F10 F13 F14 F15
 refine s_end (x_normal (wp_seq (wp_region_lit (l_op (f_val F17 rfl rfl (r_field FI_88_2 rfl (F17.ev 1 rfl) rfl) rfl fun _ F18 => ?_)))))
 refine l_op (f_val (v := .int .i64 a.tx) F18 rfl rfl (r_loadB S16.at' 2 TI_3 rfl rfl (F18.ev 10 rfl) rfl rfl (fun _ => rfl) rfl) rfl fun _ F19 => ?_)
 refine l_op (f_val F19 rfl rfl (r_field FI_102_2 rfl (F19.ev 3 rfl) rfl) rfl fun _ F20 => ?_)
 refine l_op (s_store S16.at' 0 TI_3 rfl rfl rfl rfl rfl (F20.ev 12 rfl) (F20.ev 11 rfl) rfl rfl rfl rfl rfl fun w21 S21 => ?_)
 have T22 : Mv _ _ [bx b6 [.int .i64 a.seq, .int .i64 a.kind, .int .i64 a.tx, .slice none 0 0, .slice none 0 0, .int .i64 0, .int .i64 0, .bool false] 102, bx b3 [.int .i64 0, .int .i64 0, .int .i64 0, .slice none 0 0, .slice none 0 0, .int .i64 0, .int .i64 0, .bool false] 102, bx b1 [.int .i64 a.seq, .int .i64 a.kind, .int .i64 a.tx, .slice Q6 Q8 Q7, .slice Q3 Q5 Q4, .int .i64 a.began, .int .i64 a.ended, .bool a.laid] 88] _ := S21
 refine s_end (x_normal (wp_seq (wp_region_lit (l_op (f_val F20 rfl rfl (r_field FI_88_3 rfl (F20.ev 1 rfl) rfl) rfl fun _ F23 => ?_)))))
 refine l_op (f_val (v := .slice Q6 Q8 Q7) F23 rfl rfl (r_loadB T22.at' 2 TI_86 rfl rfl (F23.ev 13 rfl) rfl rfl (fun _ => rfl) rfl) rfl fun _ F24 => ?_)
 refine l_op (f_call F24 CF_70 rfl rfl rfl rfl (lc (F24.ev 14 rfl) rfl) (laws_toStepS_c (a := a.steps) (RdA.mv (Nat.succ_pos _) Q21 (S1.trans (T5.trans (S6.trans (T12.trans (S16.trans T22)))))) (by first | assumption | omega | (simp <;> omega))) ?_)
 rintro _ w25 ⟨Q0, Q2, Q1, rfl, m25⟩
 refine ⟨_, rfl, fun _ F26 => ?_⟩
 have S25 : Mv _ _ [ow 145 7 encStep okStep (.slice Q0 Q2 Q1) a.steps, bx b6 [.int .i64 a.seq, .int .i64 a.kind, .int .i64 a.tx, .slice none 0 0, .slice none 0 0, .int .i64 0, .int .i64 0, .bool false] 102, bx b3 [.int .i64 0, .int .i64 0, .int .i64 0, .slice none 0 0, .slice none 0 0, .int .i64 0, .int .i64 0, .bool false] 102, bx b1 [.int .i64 a.seq, .int .i64 a.kind, .int .i64 a.tx, .slice Q6 Q8 Q7, .slice Q3 Q5 Q4, .int .i64 a.began, .int .i64 a.ended, .bool a.laid] 88] _ := At.frame T22.at' [] rfl m25
 obtain ⟨Q31, Q33, Q35⟩ := At.ownInv S25.at' ET_100.hk 0 rfl
 clear m25
 refine l_op (f_val F26 rfl rfl (r_field FI_102_3 rfl (F26.ev 3 rfl) rfl) rfl fun _ F27 => ?_)
 refine l_op (s_store S25.at' 1 TI_100 rfl rfl rfl rfl rfl (F27.ev 16 rfl) (F27.ev 15 rfl) rfl rfl rfl rfl rfl fun w28 S28 => ?_)
 have T29 : Mv _ _ [bx b6 [.int .i64 a.seq, .int .i64 a.kind, .int .i64 a.tx, .slice Q0 Q2 Q1, .slice none 0 0, .int .i64 0, .int .i64 0, .bool false] 102, ow 145 7 encStep okStep (.slice Q0 Q2 Q1) a.steps, bx b3 [.int .i64 0, .int .i64 0, .int .i64 0, .slice none 0 0, .slice none 0 0, .int .i64 0, .int .i64 0, .bool false] 102, bx b1 [.int .i64 a.seq, .int .i64 a.kind, .int .i64 a.tx, .slice Q6 Q8 Q7, .slice Q3 Q5 Q4, .int .i64 a.began, .int .i64 a.ended, .bool a.laid] 88] _ := S28
 refine s_end (x_normal (wp_seq (wp_region_lit (l_op (f_val F27 rfl rfl (r_field FI_88_4 rfl (F27.ev 1 rfl) rfl) rfl fun _ F30 => ?_)))))
 refine l_op (f_val (v := .slice Q3 Q5 Q4) F30 rfl rfl (r_loadB T29.at' 3 TI_79 rfl rfl (F30.ev 17 rfl) rfl rfl (fun _ => rfl) rfl) rfl fun _ F31 => ?_)
 refine l_op (f_call F31 CF_66 rfl rfl rfl rfl (lc (F31.ev 18 rfl) rfl) (laws_toAnswerS_c (a := a.answers) (RdA.mv (Nat.succ_pos _) Q20 (S1.trans (T5.trans (S6.trans (T12.trans (S16.trans (T22.trans (S25.trans T29)))))))) (by first | assumption | omega | (simp <;> omega))) ?_)
 rintro _ w32 ⟨Q9, Q11, Q10, rfl, m32⟩
 refine ⟨_, rfl, fun _ F33 => ?_⟩
 have S32 : Mv _ _ [ow 142 3 encR okR (.slice Q9 Q11 Q10) a.answers, bx b6 [.int .i64 a.seq, .int .i64 a.kind, .int .i64 a.tx, .slice Q0 Q2 Q1, .slice none 0 0, .int .i64 0, .int .i64 0, .bool false] 102, ow 145 7 encStep okStep (.slice Q0 Q2 Q1) a.steps, bx b3 [.int .i64 0, .int .i64 0, .int .i64 0, .slice none 0 0, .slice none 0 0, .int .i64 0, .int .i64 0, .bool false] 102, bx b1 [.int .i64 a.seq, .int .i64 a.kind, .int .i64 a.tx, .slice Q6 Q8 Q7, .slice Q3 Q5 Q4, .int .i64 a.began, .int .i64 a.ended, .bool a.laid] 88] _ := At.frame T29.at' [] rfl m32
 obtain ⟨Q32, Q34, Q36⟩ := At.ownInv S32.at' ET_53.hk 0 rfl
 clear m32
 refine l_op (f_val F33 rfl rfl (r_field FI_102_4 rfl (F33.ev 3 rfl) rfl) rfl fun _ F34 => ?_)
 refine l_op (s_store S32.at' 1 TI_53 rfl rfl rfl rfl rfl (F34.ev 20 rfl) (F34.ev 19 rfl) rfl rfl rfl rfl rfl fun w35 S35 => ?_)
 have F36 : Fr 31 [(20, .pointer (some ⟨b6, 4, none⟩)), (19, .slice Q9 Q11 Q10), (3, .pointer (some ⟨b6, 0, none⟩)), (2, .pointer (some ⟨b3, 0, none⟩)), (1, .pointer (some ⟨b1, 0, none⟩))] _ := F34.cut rfl
 clear F17 F18 F19 F20 F23 F24 F26 F27 F30 F31 F33 F34
 have T37 : Mv _ _ [bx b6 [.int .i64 a.seq, .int .i64 a.kind, .int .i64 a.tx, .slice Q0 Q2 Q1, .slice Q9 Q11 Q10, .int .i64 0, .int .i64 0, .bool false] 102, ow 142 3 encR okR (.slice Q9 Q11 Q10) a.answers, ow 145 7 encStep okStep (.slice Q0 Q2 Q1) a.steps, bx b3 [.int .i64 0, .int .i64 0, .int .i64 0, .slice none 0 0, .slice none 0 0, .int .i64 0, .int .i64 0, .bool false] 102, bx b1 [.int .i64 a.seq, .int .i64 a.kind, .int .i64 a.tx, .slice Q6 Q8 Q7, .slice Q3 Q5 Q4, .int .i64 a.began, .int .i64 a.ended, .bool a.laid] 88] _ := S35
 refine s_end (x_normal (wp_seq (wp_region_lit (l_op (f_val F36 rfl rfl (r_field FI_88_5 rfl (F36.ev 1 rfl) rfl) rfl fun _ F38 => ?_)))))
 refine l_op (f_val (v := .int .i64 a.began) F38 rfl rfl (r_loadB T37.at' 4 TI_3 rfl rfl (F38.ev 21 rfl) rfl rfl (fun _ => rfl) rfl) rfl fun _ F39 => ?_)
 refine l_op (f_val F39 rfl rfl (r_field FI_102_5 rfl (F39.ev 3 rfl) rfl) rfl fun _ F40 => ?_)
 refine l_op (s_store T37.at' 0 TI_3 rfl rfl rfl rfl rfl (F40.ev 23 rfl) (F40.ev 22 rfl) rfl rfl rfl rfl rfl fun w41 S41 => ?_)
 refine s_end (x_normal (wp_seq (wp_region_lit (l_op (f_val F40 rfl rfl (r_field FI_88_6 rfl (F40.ev 1 rfl) rfl) rfl fun _ F42 => ?_)))))
 refine l_op (f_val (v := .int .i64 a.ended) F42 rfl rfl (r_loadB S41.at' 4 TI_3 rfl rfl (F42.ev 24 rfl) rfl rfl (fun _ => rfl) rfl) rfl fun _ F43 => ?_)
 refine l_op (f_val F43 rfl rfl (r_field FI_102_6 rfl (F43.ev 3 rfl) rfl) rfl fun _ F44 => ?_)
 refine l_op (s_store S41.at' 0 TI_3 rfl rfl rfl rfl rfl (F44.ev 26 rfl) (F44.ev 25 rfl) rfl rfl rfl rfl rfl fun w45 S45 => ?_)
 have T46 : Mv _ _ [bx b6 [.int .i64 a.seq, .int .i64 a.kind, .int .i64 a.tx, .slice Q0 Q2 Q1, .slice Q9 Q11 Q10, .int .i64 a.began, .int .i64 a.ended, .bool false] 102, ow 142 3 encR okR (.slice Q9 Q11 Q10) a.answers, ow 145 7 encStep okStep (.slice Q0 Q2 Q1) a.steps, bx b3 [.int .i64 0, .int .i64 0, .int .i64 0, .slice none 0 0, .slice none 0 0, .int .i64 0, .int .i64 0, .bool false] 102, bx b1 [.int .i64 a.seq, .int .i64 a.kind, .int .i64 a.tx, .slice Q6 Q8 Q7, .slice Q3 Q5 Q4, .int .i64 a.began, .int .i64 a.ended, .bool a.laid] 88] _ := S45
 refine s_end (x_normal (wp_seq (wp_region_lit (l_op (f_val F44 rfl rfl (r_field FI_88_7 rfl (F44.ev 1 rfl) rfl) rfl fun _ F47 => ?_)))))
 refine l_op (f_val (v := .bool a.laid) F47 rfl rfl (r_loadB T46.at' 4 TI_4 rfl rfl (F47.ev 27 rfl) rfl rfl (fun _ => rfl) rfl) rfl fun _ F48 => ?_)
 refine l_op (f_val F48 rfl rfl (r_field FI_102_7 rfl (F48.ev 3 rfl) rfl) rfl fun _ F49 => ?_)
 refine l_op (s_store T46.at' 0 TI_4 rfl rfl rfl rfl rfl (F49.ev 29 rfl) (F49.ev 28 rfl) rfl rfl rfl rfl rfl fun w50 S50 => ?_)
 have F51 : Fr 31 [(29, .pointer (some ⟨b6, 7, none⟩)), (28, .bool a.laid), (3, .pointer (some ⟨b6, 0, none⟩)), (2, .pointer (some ⟨b3, 0, none⟩))] _ := F49.cut rfl
 clear F36 F38 F39 F40 F42 F43 F44 F47 F48 F49
 refine s_end (x_normal (wp_seq (wp_region_lit (l_op (f_val (v := .agg #[.int .i64 a.seq, .int .i64 a.kind, .int .i64 a.tx, .slice Q0 Q2 Q1, .slice Q9 Q11 Q10, .int .i64 a.began, .int .i64 a.ended, .bool a.laid]) F51 rfl rfl (r_loadB S50.at' 0 TI_102 rfl rfl (F51.ev 3 rfl) rfl rfl (fun h => nomatch h) rfl) rfl fun _ F52 => ?_)))))
 refine l_op (s_store S50.at' 3 TI_102 rfl rfl rfl rfl rfl (F52.ev 2 rfl) (F52.ev 30 rfl) rfl rfl rfl rfl rfl fun w53 S53 => ?_)
 have T54 : Mv _ _ [bx b3 [.int .i64 a.seq, .int .i64 a.kind, .int .i64 a.tx, .slice Q0 Q2 Q1, .slice Q9 Q11 Q10, .int .i64 a.began, .int .i64 a.ended, .bool a.laid] 102, bx b6 [.int .i64 a.seq, .int .i64 a.kind, .int .i64 a.tx, .slice Q0 Q2 Q1, .slice Q9 Q11 Q10, .int .i64 a.began, .int .i64 a.ended, .bool a.laid] 102, ow 142 3 encR okR (.slice Q9 Q11 Q10) a.answers, ow 145 7 encStep okStep (.slice Q0 Q2 Q1) a.steps, bx b1 [.int .i64 a.seq, .int .i64 a.kind, .int .i64 a.tx, .slice Q6 Q8 Q7, .slice Q3 Q5 Q4, .int .i64 a.began, .int .i64 a.ended, .bool a.laid] 88] _ := S53
 refine s_end (x_normal (wp_ret ?_))
 refine x_done (v := .agg #[.int .i64 a.seq, .int .i64 a.kind, .int .i64 a.tx, .slice Q0 Q2 Q1, .slice Q9 Q11 Q10, .int .i64 a.began, .int .i64 a.ended, .bool a.laid]) F52 (results_1 Tryz.results47 (.cell (F52.ev 2 rfl) (run_loadVar' TI_102 _ [.int .i64 a.seq, .int .i64 a.kind, .int .i64 a.tx, .slice Q0 Q2 Q1, .slice Q9 Q11 Q10, .int .i64 a.began, .int .i64 a.ended, .bool a.laid] rfl (fun h => nomatch h) (At.cells T54.at' 0 rfl 0 [.int .i64 a.seq, .int .i64 a.kind, .int .i64 a.tx, .slice Q0 Q2 Q1, .slice Q9 Q11 Q10, .int .i64 a.began, .int .i64 a.ended, .bool a.laid] rfl)))) ?_
 exact ⟨Q0, Q2, Q1, Q9, Q11, Q10, rfl, (Mv.pick (S1.trans (T5.trans (S6.trans (T12.trans (S16.trans (T22.trans (S25.trans (T29.trans (S32.trans (T37.trans (S41.trans (T46.trans (S50.trans T54))))))))))))) [3, 2] rfl)⟩
theorem laws_toEntryS_c {w : World} {H : Nat → Prop} {a : List EntryH} {a_a : Option Addr} {a_n a_c : Nat} (v_a : RdA 8 encEntry okEntry H w (.slice a_a a_n a_c) a) (u_a : NRa inEntry H w a) (p0 : a.length ≤ 1048576) (p1 : entriesFit 1048576 (a.map EntryH.d)) :
    Calls Tryz.prog 22 #[.slice a_a a_n a_c] w fun e w' => ∃ (D : List EntryH), ∃ (r0_a : Option Addr), ∃ (r0_n : Nat), ∃ (r0_c : Nat), e = .returned (.slice r0_a r0_n r0_c) ∧ Mv [] w [ow 102 8 encEntry okEntry (.slice r0_a r0_n r0_c) D, gr inEntry D] w' ∧ D.map EntryH.d = a.map EntryH.d ∧ D.length = a.length := by
 have uU : True := (fun _ => trivial) p0
 clear uU
 have V_v_a : RdA 8 encEntry okEntry (V H w []) w (.slice a_a a_n a_c) a := RdA.start v_a (fun _ _ => fps_nil _)
 obtain ⟨ln_a, le_a, mx_a, ni_a⟩ := RdA.inv v_a
 have V_u_a : NRa inEntry (V H w []) w a := NRa.start u_a (fun _ _ => fps_nil _)
 refine calls_enter 23 Tryz.func22 rfl Tryz.ntmps22 (Nat.le_of_ble_eq_true rfl) (fun _ F0i => ?_)
 have F0 : Fr 23 [(0, .slice a_a a_n a_c)] _ := F0i
 clear F0i
 refine wp_seq (wp_region_lit (l_op (f_val F0 rfl rfl (r_assign rfl rfl) rfl fun _ F1 => ?_)))
 refine s_end (x_normal (wp_seq (wp_region_lit (l_op (f_mv F1 rfl rfl rfl rfl rfl fun _ F2 => ?_)))))
 refine l_op (f_val F2 rfl rfl (r_len Tryz.underlying29 rfl (F2.ev 5 rfl)) rfl fun _ F3 => ?_)
 refine l_op (f_mk (ok := okEntry) zEntry F3 (At.nil w) ET_41 rfl rfl rfl rfl (F3.ev 6 rfl) (F3.ev 6 rfl) rfl ⟨(show i64ok 0 from by first | assumption | exact ⟨by omega, by omega⟩), (show i64ok 0 from by first | assumption | exact ⟨by omega, by omega⟩), (show i64ok 0 from by first | assumption | exact ⟨by omega, by omega⟩), (show i64ok 0 from by first | assumption | exact ⟨by omega, by omega⟩), (show i64ok 0 from by first | assumption | exact ⟨by omega, by omega⟩)⟩ (by omega) fun b4 _ w4 F5 S4 => ?_)
 have S6 : Mv [ow 102 8 encEntry okEntry (.slice (some ⟨b4, 0, none⟩) a_n a_n) (List.replicate a_n zEntry)] w4 [gr inEntry (List.replicate a_n zEntry), ow 102 8 encEntry okEntry (.slice (some ⟨b4, 0, none⟩) a_n a_n) (List.replicate a_n zEntry)] w4 := gr_new S4.at' _ (zEntry_all _)
 refine l_op (f_as F5 rfl rfl rfl rfl rfl fun _ F7 => ?_)
 have T8 : Mv _ _ [gr inEntry (List.replicate a_n zEntry), ow 102 8 encEntry okEntry (.slice (some ⟨b4, 0, none⟩) a_n a_n) (List.replicate a_n zEntry)] _ := S6
 refine s_end (x_normal (wp_seq (wp_seq (wp_region_lit (l_op (f_val F7 rfl rfl (r_assign rfl rfl) rfl fun _ F9 => ?_))))))
 refine s_end (x_normal (wp_block ?_))
 refine x_loop (fun (k : Nat) aZ wZ => ∃ (D : List EntryH), ∃ (oa : Option Addr), ∃ (on : Nat), ∃ (oc : Nat), Fr 23 [(4, .int .i64 ((k : Nat) : Int)), (3, .slice oa on oc), (0, .slice a_a a_n a_c)] aZ ∧ Mv [gr inEntry (List.replicate a_n zEntry), ow 102 8 encEntry okEntry (.slice (some ⟨b4, 0, none⟩) a_n a_n) (List.replicate a_n zEntry)] w4 [gr inEntry D, ow 102 8 encEntry okEntry (.slice oa on oc) D] wZ ∧ (k ≤ a_n) ∧ (D.map EntryH.d = copyTo zEntry.d k (a.map EntryH.d)) ∧ (on = a_n)) (fun (k : Nat) => a_n - k) (0) ?_ ?_
 · exact ⟨List.replicate a_n zEntry, (some ⟨b4, 0, none⟩), a_n, a_n, F9.cut rfl, (Mv.refl T8.at'), by omega, copyM_start ln_a, rfl⟩
 · rintro k a10 w10 ⟨D, oa, on, oc, F10, S10, hk_0, hk_1, hk_2⟩
   refine wp_seq (wp_seq (wp_region_lit (l_op (f_mv F10 rfl rfl rfl rfl rfl fun _ F11 => ?_))))
   refine l_op (f_mv F11 rfl rfl rfl rfl rfl fun _ F12 => ?_)
   refine l_op (f_val F12 rfl rfl (r_len Tryz.underlying29 rfl (F12.ev 9 rfl)) rfl fun _ F13 => ?_)
   refine l_op (f_val F13 rfl rfl (r_cmp (b := decide (k < a_n)) (.inr (.inr (.inl rfl))) rfl (F13.ev 8 rfl) (F13.ev 10 rfl) (dec_of (by omega))) rfl fun _ F14 => ?_)
   refine s_end (x_normal (x_cond (p := k < a_n) (F14.ev 11 rfl) (fun h15 => ?_) (fun h15 => ?_)))
   · skip
     refine wp_skip (x_normal (wp_seq (wp_block (wp_region_lit (l_op (f_mv F14 rfl rfl rfl rfl rfl fun _ F16 => ?_))))))
     refine l_op (f_mv F16 rfl rfl rfl rfl rfl fun _ F17 => ?_)
     refine l_op (f_mv F17 rfl rfl rfl rfl rfl fun _ F18 => ?_)
     refine l_op (f_mv F18 rfl rfl rfl rfl rfl fun _ F19 => ?_)
     obtain ⟨B20, O20, x1, ad20, hx1, okx1, ln20, cl20⟩ := RdA.at (RdA.mv (Nat.succ_pos _) V_v_a (S4.trans (T8.trans S10))) k (by first | assumption | omega)
     clear ln20
     have oj21 := okx1
     obtain ⟨oi21_0, oi21_1, oi21_2, oi21_3, oi21_4⟩ := oj21
     have VI22 : RdA 7 encStep okStep (V H w [gr inEntry D, ow 102 8 encEntry okEntry (.slice oa on oc) D]) w10 (.slice x1.a0 x1.n0 x1.c0) x1.d.steps := NRa.get (NRa.mv V_u_a (S4.trans (T8.trans S10))) hx1 (j := 0) rfl
     obtain ⟨ln22, le22, mx22, ni22⟩ := RdA.inv VI22
     have VI23 : RdA 3 encR okR (V H w [gr inEntry D, ow 102 8 encEntry okEntry (.slice oa on oc) D]) w10 (.slice x1.a1 x1.n1 x1.c1) x1.d.answers := NRa.get (NRa.mv V_u_a (S4.trans (T8.trans S10))) hx1 (j := 1) rfl
     obtain ⟨ln23, le23, mx23, ni23⟩ := RdA.inv VI23
     refine l_op (f_val F19 rfl rfl (r_indexAddr (i := k) ET_29 rfl ((F19.ev 16 rfl).trans (by rw [ad20])) (F19.ev 17 rfl) (by omega) (by first | assumption | omega)) rfl fun _ F24 => ?_)
     refine l_op (f_val (v := .agg #[.int .i64 x1.d.seq, .int .i64 x1.d.kind, .int .i64 x1.d.tx, .slice x1.a0 x1.n0 x1.c0, .slice x1.a1 x1.n1 x1.c1, .int .i64 x1.d.began, .int .i64 x1.d.ended, .bool x1.d.laid]) F24 rfl rfl (r_load (cs := [.int .i64 x1.d.seq, .int .i64 x1.d.kind, .int .i64 x1.d.tx, .slice x1.a0 x1.n0 x1.c0, .slice x1.a1 x1.n1 x1.c1, .int .i64 x1.d.began, .int .i64 x1.d.ended, .bool x1.d.laid]) TI_88 rfl (F24.ev 18 rfl) rfl (fun h => nomatch h) (elem_sub (f := 0) cl20 [.int .i64 x1.d.seq, .int .i64 x1.d.kind, .int .i64 x1.d.tx, .slice x1.a0 x1.n0 x1.c0, .slice x1.a1 x1.n1 x1.c1, .int .i64 x1.d.began, .int .i64 x1.d.ended, .bool x1.d.laid] rfl)) rfl fun _ F25 => ?_)
     refine l_op (f_call F25 CF_47 rfl rfl rfl rfl (lc (F25.ev 19 rfl) rfl) (laws_toEntry_c (a := x1.d) okx1.1 okx1.2.1 okx1.2.2.1 VI22 VI23 okx1.2.2.2.1 okx1.2.2.2.2 (by have hb := p1.at hx1; omega) (by have hb := p1.at hx1; omega)) ?_)
     rintro _ w26 ⟨Q3, Q5, Q4, Q0, Q2, Q1, rfl, m26⟩
     refine ⟨_, rfl, fun _ F27 => ?_⟩
     have S26 : Mv _ _ [ow 145 7 encStep okStep (.slice Q3 Q5 Q4) x1.d.steps, ow 142 3 encR okR (.slice Q0 Q2 Q1) x1.d.answers, gr inEntry D, ow 102 8 encEntry okEntry (.slice oa on oc) D] _ := At.frame S10.at' [] rfl m26
     obtain ⟨Q6, Q8, Q10⟩ := At.ownInv S26.at' ET_100.hk 0 rfl
     obtain ⟨Q7, Q9, Q11⟩ := At.ownInv S26.at' ET_53.hk 1 rfl
     clear m26
     obtain ⟨B28, x2, ad28, hx2, okx2, cl28⟩ := At.ownAt S26.at' ET_41.hk 3 rfl k (by first | assumption | omega)
     have oj29 := okx2
     obtain ⟨oi29_0, oi29_1, oi29_2, oi29_3, oi29_4⟩ := oj29
     obtain ⟨ln30, le30, mx30, ni30⟩ := Rd.inv (show Rd 7 encStep okStep (fun _ => True) w26 (.slice x2.a0 x2.n0 x2.c0) x2.d.steps from NRd.get (At.nrd S26.at' 2 rfl) hx2 (j := 0) rfl)
     obtain ⟨ln31, le31, mx31, ni31⟩ := Rd.inv (show Rd 3 encR okR (fun _ => True) w26 (.slice x2.a1 x2.n1 x2.c1) x2.d.answers from NRd.get (At.nrd S26.at' 2 rfl) hx2 (j := 1) rfl)
     refine l_op (f_val F27 rfl rfl (r_indexAddr (i := k) ET_41 rfl ((F27.ev 14 rfl).trans (by rw [ad28])) (F27.ev 15 rfl) (by omega) (by first | assumption | omega)) rfl fun _ F32 => ?_)
     refine l_op (s_storeEl S26.at' 3 k (⟨x1.d, Q3, Q5, Q4, Q0, Q2, Q1⟩ : EntryH) ET_41.hk ET_41.h1 TI_102 rfl ad28 rfl rfl rfl rfl (F32.ev 21 rfl) (F32.ev 20 rfl) rfl (by first | assumption | omega) ⟨(show i64ok x1.d.seq from by first | assumption | exact ⟨by omega, by omega⟩), (show i64ok x1.d.kind from by first | assumption | exact ⟨by omega, by omega⟩), (show i64ok x1.d.tx from by first | assumption | exact ⟨by omega, by omega⟩), (show i64ok x1.d.began from by first | assumption | exact ⟨by omega, by omega⟩), (show i64ok x1.d.ended from by first | assumption | exact ⟨by omega, by omega⟩)⟩ fun w33 S33 => ?_)
     have S34 : Mv [ow 102 8 encEntry okEntry (.slice oa on oc) (D.set k (⟨x1.d, Q3, Q5, Q4, Q0, Q2, Q1⟩ : EntryH)), ow 145 7 encStep okStep (.slice Q3 Q5 Q4) x1.d.steps, ow 142 3 encR okR (.slice Q0 Q2 Q1) x1.d.answers, gr inEntry D] w33 [gr inEntry (D.set k (⟨x1.d, Q3, Q5, Q4, Q0, Q2, Q1⟩ : EntryH)), ow 102 8 encEntry okEntry (.slice oa on oc) (D.set k (⟨x1.d, Q3, Q5, Q4, Q0, Q2, Q1⟩ : EntryH))] w33 := gr_set S33.at' [1, 2, 3] (⟨x1.d, Q3, Q5, Q4, Q0, Q2, Q1⟩ : EntryH) k rfl rfl
     have F35 : Fr 23 [(21, .pointer (some ⟨B28, 0 + k * 8, none⟩)), (20, .agg #[.int .i64 x1.d.seq, .int .i64 x1.d.kind, .int .i64 x1.d.tx, .slice Q3 Q5 Q4, .slice Q0 Q2 Q1, .int .i64 x1.d.began, .int .i64 x1.d.ended, .bool x1.d.laid]), (4, .int .i64 ((k : Nat) : Int)), (3, .slice oa on oc), (0, .slice a_a a_n a_c)] _ := F32.cut rfl
     clear F10 F11 F12 F13 F14 F16 F17 F18 F19 F24 F25 F27 F32
     have T36 : Mv _ _ [gr inEntry (D.set k (⟨x1.d, Q3, Q5, Q4, Q0, Q2, Q1⟩ : EntryH)), ow 102 8 encEntry okEntry (.slice oa on oc) (D.set k (⟨x1.d, Q3, Q5, Q4, Q0, Q2, Q1⟩ : EntryH))] _ := S34
     refine s_end (x_block_normal (x_normal (wp_region_lit (l_op (f_mv F35 rfl rfl rfl rfl rfl fun _ F37 => ?_)))))
     refine l_op (f_val F37 rfl rfl (r_add (z := ((k + 1 : Nat) : Int)) rfl (F37.ev 12 rfl) rfl (by first | rfl | omega) ⟨by first | omega | (unfold i64ok at *; omega), by first | omega | (unfold i64ok at *; omega)⟩) rfl fun _ F38 => ?_)
     refine l_op (f_as F38 rfl rfl rfl rfl rfl fun _ F39 => ?_)
     refine s_end ?_
     refine x_normal ⟨k + 1, by omega, D.set k (⟨x1.d, Q3, Q5, Q4, Q0, Q2, Q1⟩ : EntryH), oa, on, oc, F39.cut rfl, ((S10.trans (S26.trans (S33.trans T36))).pick [0, 1] rfl), by omega, copyM_step hk_1 hx1 rfl, by assumption⟩
   · skip
     refine wp_exit (x_then_exit (x_then_exit (x_block_here (x_normal (wp_seq (wp_region_lit (l_op (f_mv F14 rfl rfl rfl rfl rfl fun _ F40 => ?_))))))))
     refine l_op (f_as F40 rfl rfl rfl rfl rfl fun _ F41 => ?_)
     refine s_end (x_normal (wp_ret ?_))
     refine x_done (v := .slice oa on oc) F41 (results_1 Tryz.results22 (.tmp (F41.ev 2 rfl))) ?_
     exact ⟨D, oa, on, oc, rfl, (Mv.pick (S4.trans (T8.trans S10)) [1, 0] rfl), copyM_end hk_1 (by omega), by have := congrArg List.length (copyM_end hk_1 (by omega)); simpa using this⟩
theorem laws_eqStep_c {w : World} {H : Nat → Prop} {a : StepD} {b : StepD} (Q5 : i64ok a.proc) (Q1 : i64ok a.call.kind) (Q2 : okS a.call.name) (Q4 : okS a.call.to_) (h_a_call_a : i64ok a.call.a) (Q0 : i64ok a.call.b) (Q3 : okS a.call.text) (Q11 : i64ok b.proc) (Q7 : i64ok b.call.kind) (Q8 : okS b.call.name) (Q10 : okS b.call.to_) (h_b_call_a : i64ok b.call.a) (Q6 : i64ok b.call.b) (Q9 : okS b.call.text) (p0 : a = b) :
    Calls Tryz.prog 90 #[.agg #[.int .i64 a.proc, .int .i64 a.call.kind, .string a.call.name, .string a.call.to_, .int .i64 a.call.a, .int .i64 a.call.b, .string a.call.text], .agg #[.int .i64 b.proc, .int .i64 b.call.kind, .string b.call.name, .string b.call.to_, .int .i64 b.call.a, .int .i64 b.call.b, .string b.call.text]] w fun e w' => e = .returned (.bool true) ∧ Mv [] w [] w' := by
 have uU : True := (fun _ _ _ _ _ _ _ _ _ => trivial) H Q5 Q1 h_a_call_a Q0 Q11 Q7 h_b_call_a Q6
 clear uU
 refine calls_enter 16 Tryz.func90 rfl Tryz.ntmps90 (Nat.le_of_ble_eq_true rfl) (fun _ F0i => ?_)
 have F0 : Fr 16 [(0, .agg #[.int .i64 a.proc, .int .i64 a.call.kind, .string a.call.name, .string a.call.to_, .int .i64 a.call.a, .int .i64 a.call.b, .string a.call.text]), (1, .agg #[.int .i64 b.proc, .int .i64 b.call.kind, .string b.call.name, .string b.call.to_, .int .i64 b.call.a, .int .i64 b.call.b, .string b.call.text])] _ := F0i
 clear F0i
 refine wp_seq (wp_region_lit (l_op (f_box F0 (At.nil w) rfl rfl rfl (F0.ev 0 rfl) rfl rfl fun b1 _ w1 F2 S1 => ?_)))
 refine l_op (f_box F2 S1.at' rfl rfl rfl (F2.ev 1 rfl) rfl rfl fun b3 _ w3 F4 S3 => ?_)
 refine l_op (f_val F4 rfl rfl (r_assign rfl rfl) rfl fun _ F5 => ?_)
 have T6 : Mv _ _ [bx b3 [.int .i64 b.proc, .int .i64 b.call.kind, .string b.call.name, .string b.call.to_, .int .i64 b.call.a, .int .i64 b.call.b, .string b.call.text] 145, bx b1 [.int .i64 a.proc, .int .i64 a.call.kind, .string a.call.name, .string a.call.to_, .int .i64 a.call.a, .int .i64 a.call.b, .string a.call.text] 145] _ := S3
 refine s_end (x_normal (wp_seq (wp_seq (wp_region_lit (l_op (f_val F5 rfl rfl (r_field FI_145_0 rfl (F5.ev 2 rfl) rfl) rfl fun _ F7 => ?_))))))
 refine l_op (f_val (v := .int .i64 a.proc) F7 rfl rfl (r_loadB T6.at' 1 TI_3 rfl rfl (F7.ev 5 rfl) rfl rfl (fun _ => rfl) rfl) rfl fun _ F8 => ?_)
 refine l_op (f_val F8 rfl rfl (r_field FI_145_0 rfl (F8.ev 3 rfl) rfl) rfl fun _ F9 => ?_)
 refine l_op (f_val (v := .int .i64 b.proc) F9 rfl rfl (r_loadB T6.at' 0 TI_3 rfl rfl (F9.ev 7 rfl) rfl rfl (fun _ => rfl) rfl) rfl fun _ F10 => ?_)
 refine l_op (f_val F10 rfl rfl (r_cmp (b := decide (a.proc ≠ b.proc)) (.inr (.inl rfl)) rfl (F10.ev 6 rfl) (F10.ev 8 rfl) (dec_of (by omega))) rfl fun _ F11 => ?_)
 rw [show (decide (a.proc ≠ b.proc)) = false from decide_eq_false (fun h => h (by rw [p0]))] at F11
 refine s_end (x_normal (wp_cond_false (F11.ev 9 rfl) (wp_skip (x_normal (wp_seq (wp_seq (wp_region_lit (l_op (f_val F11 rfl rfl (r_field FI_145_1 rfl (F11.ev 2 rfl) rfl) rfl fun _ F12 => ?_)))))))))
 refine l_op (f_val (v := .agg #[.int .i64 a.call.kind, .string a.call.name, .string a.call.to_, .int .i64 a.call.a, .int .i64 a.call.b, .string a.call.text]) F12 rfl rfl (r_loadB T6.at' 1 TI_140 rfl rfl (F12.ev 10 rfl) rfl rfl (fun h => nomatch h) rfl) rfl fun _ F13 => ?_)
 refine l_op (f_val F13 rfl rfl (r_field FI_145_1 rfl (F13.ev 3 rfl) rfl) rfl fun _ F14 => ?_)
 refine l_op (f_val (v := .agg #[.int .i64 b.call.kind, .string b.call.name, .string b.call.to_, .int .i64 b.call.a, .int .i64 b.call.b, .string b.call.text]) F14 rfl rfl (r_loadB T6.at' 0 TI_140 rfl rfl (F14.ev 12 rfl) rfl rfl (fun h => nomatch h) rfl) rfl fun _ F15 => ?_)
 refine l_op (f_call F15 CF_88 rfl rfl rfl rfl (lc (F15.ev 11 rfl) (lc (F15.ev 13 rfl) rfl)) (laws_eqCall_c (H := fun _ => True) (a := a.call) (b := b.call) (by first | assumption | exact ⟨by omega, by omega⟩ | (unfold i64ok at *; omega) | (simp only [i64ok]; omega)) Q2 Q4 (by first | assumption | exact ⟨by omega, by omega⟩ | (unfold i64ok at *; omega) | (simp only [i64ok]; omega)) (by first | assumption | exact ⟨by omega, by omega⟩ | (unfold i64ok at *; omega) | (simp only [i64ok]; omega)) Q3 (by first | assumption | exact ⟨by omega, by omega⟩ | (unfold i64ok at *; omega) | (simp only [i64ok]; omega)) Q8 Q10 (by first | assumption | exact ⟨by omega, by omega⟩ | (unfold i64ok at *; omega) | (simp only [i64ok]; omega)) (by first | assumption | exact ⟨by omega, by omega⟩ | (unfold i64ok at *; omega) | (simp only [i64ok]; omega)) Q9 (by rw [p0])) ?_)
 rintro _ w16 ⟨rfl, m16⟩
 refine ⟨_, rfl, fun _ F17 => ?_⟩
 have S16 := At.frame0 T6.at' m16
 clear m16
 refine l_op (f_val F17 rfl rfl (r_not rfl (F17.ev 14 rfl)) rfl fun _ F18 => ?_)
 have F19 : Fr 16 [(15, .bool false)] _ := F18.cut rfl
 clear F0 F2 F4 F5 F7 F8 F9 F10 F11 F12 F13 F14 F15 F17 F18
 refine s_end (x_normal (wp_cond_false (F19.ev 15 rfl) (wp_skip (x_normal (wp_seq (wp_region_lit (l_op (f_val F19 rfl rfl (r_assign rfl rfl) rfl fun _ F20 => ?_))))))))
 refine s_end (x_normal (wp_ret ?_))
 refine x_done (v := .bool true) F20 (results_1 Tryz.results90 (.tmp (F20.ev 4 rfl))) ?_
 exact ⟨rfl, (Mv.pick (S1.trans (T6.trans S16)) [] rfl)⟩
theorem laws_eqStepS_c {w : World} {H : Nat → Prop} {a : List StepD} {a_a : Option Addr} {a_n a_c : Nat} {b : List StepD} {b_a : Option Addr} {b_n b_c : Nat} (v_a : Rd 7 encStep okStep H w (.slice a_a a_n a_c) a) (v_b : Rd 7 encStep okStep H w (.slice b_a b_n b_c) b) (p0 : a = b) :
    Calls Tryz.prog 77 #[.slice a_a a_n a_c, .slice b_a b_n b_c] w fun e w' => e = .returned (.bool true) ∧ Mv [] w [] w' := by
 have V_v_a : Rd 7 encStep okStep (V H w []) w (.slice a_a a_n a_c) a := Rd.start v_a (fun _ _ => fps_nil _)
 obtain ⟨ln_a, le_a, mx_a, ni_a⟩ := Rd.inv v_a
 have Q0 : Rd 7 encStep okStep (V H w []) w (.slice b_a b_n b_c) b := Rd.start v_b (fun _ _ => fps_nil _)
 obtain ⟨ln_b, le_b, mx_b, ni_b⟩ := Rd.inv v_b
 refine calls_enter 27 Tryz.func77 rfl Tryz.ntmps77 (Nat.le_of_ble_eq_true rfl) (fun _ F0i => ?_)
 have F0 : Fr 27 [(0, .slice a_a a_n a_c), (1, .slice b_a b_n b_c)] _ := F0i
 clear F0i
 refine wp_seq ?_
 have hab : a_n = b_n := by rw [ln_a, ln_b, p0]
 refine wp_region_lit (l_op (f_val F0 rfl rfl (r_assign rfl rfl) rfl fun _ F1 => ?_))
 refine s_end (x_normal (wp_seq (wp_seq (wp_region_lit (l_op (f_mv F1 rfl rfl rfl rfl rfl fun _ F2 => ?_))))))
 refine l_op (f_val F2 rfl rfl (r_len Tryz.underlying100 rfl (F2.ev 6 rfl)) rfl fun _ F3 => ?_)
 refine l_op (f_mv F3 rfl rfl rfl rfl rfl fun _ F4 => ?_)
 refine l_op (f_val F4 rfl rfl (r_len Tryz.underlying100 rfl (F4.ev 8 rfl)) rfl fun _ F5 => ?_)
 refine l_op (f_val F5 rfl rfl (r_cmp (b := decide (a_n ≠ b_n)) (.inr (.inl rfl)) rfl (F5.ev 7 rfl) (F5.ev 9 rfl) (dec_of (by omega))) rfl fun _ F6 => ?_)
 rw [show (decide (a_n ≠ b_n)) = false from decide_eq_false (fun h => h hab)] at F6
 refine s_end (x_normal (wp_cond_false (F6.ev 10 rfl) (wp_skip (x_normal (wp_seq (wp_seq (wp_region_lit (l_op (f_val F6 rfl rfl (r_assign rfl rfl) rfl fun _ F7 => ?_)))))))))
 refine s_end (x_normal (wp_block ?_))
 refine x_loop (fun (k : Nat) aZ wZ => Fr 27 [(5, .int .i64 ((k : Nat) : Int)), (0, .slice a_a a_n a_c), (1, .slice b_a b_n b_c)] aZ ∧ Mv [] w [] wZ ∧ (k ≤ a_n)) (fun (k : Nat) => a_n - k) (0) ?_ ?_
 · exact ⟨F7.cut rfl, (Mv.refl (At.nil w)), by omega⟩
 · rintro k a8 w8 ⟨F8, S8, hk_0⟩
   refine wp_seq (wp_seq (wp_region_lit (l_op (f_mv F8 rfl rfl rfl rfl rfl fun _ F9 => ?_))))
   refine l_op (f_mv F9 rfl rfl rfl rfl rfl fun _ F10 => ?_)
   refine l_op (f_val F10 rfl rfl (r_len Tryz.underlying100 rfl (F10.ev 12 rfl)) rfl fun _ F11 => ?_)
   refine l_op (f_val F11 rfl rfl (r_cmp (b := decide (k < a_n)) (.inr (.inr (.inl rfl))) rfl (F11.ev 11 rfl) (F11.ev 13 rfl) (dec_of (by omega))) rfl fun _ F12 => ?_)
   refine s_end (x_normal (x_cond (p := k < a_n) (F12.ev 14 rfl) (fun h13 => ?_) (fun h13 => ?_)))
   · skip
     refine wp_skip (x_normal (wp_seq (wp_block (wp_seq ?_))))
     obtain ⟨x1, hx1, okx1⟩ := Rd.elem (Rd.mv (Nat.succ_pos _) V_v_a S8) k (by first | assumption | omega)
     obtain ⟨x2, hx2, okx2⟩ := Rd.elem (Rd.mv (Nat.succ_pos _) Q0 S8) k (by first | assumption | omega)
     refine x_draw (fun aZ wZ => Fr 27 [(0, .slice a_a a_n a_c), (1, .slice b_a b_n b_c), (5, .int .i64 ((k : Nat) : Int)), (26, .bool false)] aZ ∧ Mv [] w8 [] wZ) [] mixed S8.at' (listed := #[false, false, false, false, false, false, false, false, false, false]) rfl (fun w15 S15 => ?_) [] rfl ?_
     · skip
       refine g_take F12 rfl (i := 0) (listed' := #[true, false, false, false, false, false, false, false, false, false]) rfl (by kernel_rfl) (by kernel_rfl) (by kernel_rfl) (fun _ _ _ h => h) (Sd.of (Mv.refl S15.at') [] rfl) rfl rfl rfl rfl (fun _ hz => (r_move rfl (F12.ev 0 rfl))) fun _ F16 => ?_
       refine g_take F16 rfl (i := 1) (listed' := #[true, true, false, false, false, false, false, false, false, false]) rfl (by kernel_rfl) (by kernel_rfl) (by kernel_rfl) (fun _ _ _ h => h) (Sd.of (Mv.refl S15.at') [] rfl) rfl rfl rfl rfl (fun _ hz => (r_move rfl (F16.ev 5 rfl))) fun _ F17 => ?_
       obtain ⟨B18, O18, y18, ad18, hy18, oky18, ln18, cl18⟩ := Rd.atK (Nat.succ_pos _) (Rd.mv (Nat.succ_pos _) V_v_a (S8.trans S15)) k (by first | assumption | omega)
       clear ln18
       obtain rfl := Option.some.inj (hx1.symm.trans hy18)
       clear hy18 oky18
       refine g_take F17 rfl (i := 2) (listed' := #[true, true, true, false, false, false, false, false, false, false]) rfl (by kernel_rfl) (by kernel_rfl) (by kernel_rfl) (fun _ _ _ h => h) (Sd.of (Mv.refl S15.at') [] rfl) rfl rfl rfl rfl (fun _ hz => (r_indexAddr (i := k) ET_100 rfl ((F17.ev 17 rfl).trans (by rw [ad18])) (F17.ev 18 rfl) (by omega) (by first | assumption | omega))) fun _ F19 => ?_
       refine g_take (v := .agg #[.int .i64 x1.proc, .int .i64 x1.call.kind, .string x1.call.name, .string x1.call.to_, .int .i64 x1.call.a, .int .i64 x1.call.b, .string x1.call.text]) F19 rfl (i := 3) (listed' := #[true, true, true, true, false, false, false, false, false, false]) rfl (by kernel_rfl) (by kernel_rfl) (by kernel_rfl) (fun _ _ _ h => h) (Sd.of (Mv.refl S15.at') [] rfl) rfl rfl rfl rfl (fun _ hz => (r_load (cs := [.int .i64 x1.proc, .int .i64 x1.call.kind, .string x1.call.name, .string x1.call.to_, .int .i64 x1.call.a, .int .i64 x1.call.b, .string x1.call.text]) TI_145 rfl (F19.ev 19 rfl) rfl (fun h => nomatch h) (elem_sub (f := 0) (cl18 _ hz.kp) [.int .i64 x1.proc, .int .i64 x1.call.kind, .string x1.call.name, .string x1.call.to_, .int .i64 x1.call.a, .int .i64 x1.call.b, .string x1.call.text] rfl))) fun _ F20 => ?_
       refine g_take F20 rfl (i := 4) (listed' := #[true, true, true, true, true, false, false, false, false, false]) rfl (by kernel_rfl) (by kernel_rfl) (by kernel_rfl) (fun _ _ _ h => h) (Sd.of (Mv.refl S15.at') [] rfl) rfl rfl rfl rfl (fun _ hz => (r_move rfl (F20.ev 1 rfl))) fun _ F21 => ?_
       refine g_take F21 rfl (i := 5) (listed' := #[true, true, true, true, true, true, false, false, false, false]) rfl (by kernel_rfl) (by kernel_rfl) (by kernel_rfl) (fun _ _ _ h => h) (Sd.of (Mv.refl S15.at') [] rfl) rfl rfl rfl rfl (fun _ hz => (r_move rfl (F21.ev 5 rfl))) fun _ F22 => ?_
       obtain ⟨B23, O23, y23, ad23, hy23, oky23, ln23, cl23⟩ := Rd.atK (Nat.succ_pos _) (Rd.mv (Nat.succ_pos _) Q0 (S8.trans S15)) k (by first | assumption | omega)
       clear ln23
       obtain rfl := Option.some.inj (hx2.symm.trans hy23)
       clear hy23 oky23
       refine g_take F22 rfl (i := 6) (listed' := #[true, true, true, true, true, true, true, false, false, false]) rfl (by kernel_rfl) (by kernel_rfl) (by kernel_rfl) (fun _ _ _ h => h) (Sd.of (Mv.refl S15.at') [] rfl) rfl rfl rfl rfl (fun _ hz => (r_indexAddr (i := k) ET_100 rfl ((F22.ev 21 rfl).trans (by rw [ad23])) (F22.ev 22 rfl) (by omega) (by first | assumption | omega))) fun _ F24 => ?_
       refine g_take (v := .agg #[.int .i64 x2.proc, .int .i64 x2.call.kind, .string x2.call.name, .string x2.call.to_, .int .i64 x2.call.a, .int .i64 x2.call.b, .string x2.call.text]) F24 rfl (i := 7) (listed' := #[true, true, true, true, true, true, true, true, false, false]) rfl (by kernel_rfl) (by kernel_rfl) (by kernel_rfl) (fun _ _ _ h => h) (Sd.of (Mv.refl S15.at') [] rfl) rfl rfl rfl rfl (fun _ hz => (r_load (cs := [.int .i64 x2.proc, .int .i64 x2.call.kind, .string x2.call.name, .string x2.call.to_, .int .i64 x2.call.a, .int .i64 x2.call.b, .string x2.call.text]) TI_145 rfl (F24.ev 23 rfl) rfl (fun h => nomatch h) (elem_sub (f := 0) (cl23 _ hz.kp) [.int .i64 x2.proc, .int .i64 x2.call.kind, .string x2.call.name, .string x2.call.to_, .int .i64 x2.call.a, .int .i64 x2.call.b, .string x2.call.text] rfl))) fun _ F25 => ?_
       refine d_one (i := 8) (listed' := #[true, true, true, true, true, true, true, true, true, false]) rfl (by kernel_rfl) rfl rfl ?_
       refine f_call F25 CF_90 rfl rfl rfl rfl (lc (F25.ev 20 rfl) (lc (F25.ev 24 rfl) rfl)) (laws_eqStep_c (H := fun _ => True) (a := x1) (b := x2) okx1.1 okx1.2.1 okx1.2.2.1 okx1.2.2.2.1 okx1.2.2.2.2.1 okx1.2.2.2.2.2.1 okx1.2.2.2.2.2.2 okx2.1 okx2.2.1 okx2.2.2.1 okx2.2.2.2.1 okx2.2.2.2.2.1 okx2.2.2.2.2.2.1 okx2.2.2.2.2.2.2 (by exact el_eq p0 hx1 hx2)) ?_
       rintro _ w26 ⟨rfl, m26⟩
       refine ⟨_, rfl, fun _ F27 => ?_⟩
       have S26 := At.frame0 S15.at' m26
       clear m26
       refine ⟨Sd.of S26 [] rfl, ?_⟩
       refine g_take F27 rfl (i := 9) (listed' := #[true, true, true, true, true, true, true, true, true, true]) rfl (by kernel_rfl) (by kernel_rfl) (by kernel_rfl) (fun _ _ _ h => h) (Sd.of S26 [] rfl) rfl rfl rfl rfl (fun _ hz => (r_not rfl (F27.ev 25 rfl))) fun _ F28 => ?_
       refine wpAnyH_done (by kernel_rfl) (x_normal ?_) _
       exact ⟨F28.cut rfl, ((S15.trans S26).pick [] rfl)⟩
     · rintro a29 w29 ⟨F29, S29⟩
       refine x_normal (wp_cond_false (F29.ev 26 rfl) (wp_skip (x_block_normal (x_normal (wp_region_lit (l_op (f_mv F29 rfl rfl rfl rfl rfl fun _ F30 => ?_)))))))
       refine l_op (f_val F30 rfl rfl (r_add (z := ((k + 1 : Nat) : Int)) rfl (F30.ev 15 rfl) rfl (by first | rfl | omega) ⟨by first | omega | (unfold i64ok at *; omega), by first | omega | (unfold i64ok at *; omega)⟩) rfl fun _ F31 => ?_)
       refine l_op (f_as F31 rfl rfl rfl rfl rfl fun _ F32 => ?_)
       refine s_end ?_
       refine x_normal ⟨k + 1, by omega, F32.cut rfl, ((S8.trans S29).pick [] rfl), by omega⟩
   · skip
     refine wp_exit (x_then_exit (x_then_exit (x_block_here (x_normal (wp_seq (wp_region_lit (l_op (f_val F12 rfl rfl (r_assign rfl rfl) rfl fun _ F33 => ?_))))))))
     refine s_end (x_normal (wp_ret ?_))
     refine x_done (v := .bool true) F33 (results_1 Tryz.results77 (.tmp (F33.ev 4 rfl))) ?_
     exact ⟨rfl, (Mv.pick S8 [] rfl)⟩
theorem laws_eqEntry_c {w : World} {H : Nat → Prop} {a : EntryD} {Q3 : Option Addr} {Q5 Q4 : Nat} {Q0 : Option Addr} {Q2 Q1 : Nat} {b : EntryD} {Q9 : Option Addr} {Q11 Q10 : Nat} {Q6 : Option Addr} {Q8 Q7 : Nat} (Q23 : i64ok a.seq) (Q22 : i64ok a.kind) (Q24 : i64ok a.tx) (Q13 : Rd 7 encStep okStep H w (.slice Q3 Q5 Q4) a.steps) (Q12 : Rd 3 encR okR H w (.slice Q0 Q2 Q1) a.answers) (Q20 : i64ok a.began) (Q21 : i64ok a.ended) (Q28 : i64ok b.seq) (Q27 : i64ok b.kind) (Q29 : i64ok b.tx) (Q15 : Rd 7 encStep okStep H w (.slice Q9 Q11 Q10) b.steps) (Q14 : Rd 3 encR okR H w (.slice Q6 Q8 Q7) b.answers) (Q25 : i64ok b.began) (Q26 : i64ok b.ended) (p0 : a = b) :
    Calls Tryz.prog 57 #[.agg #[.int .i64 a.seq, .int .i64 a.kind, .int .i64 a.tx, .slice Q3 Q5 Q4, .slice Q0 Q2 Q1, .int .i64 a.began, .int .i64 a.ended, .bool a.laid], .agg #[.int .i64 b.seq, .int .i64 b.kind, .int .i64 b.tx, .slice Q9 Q11 Q10, .slice Q6 Q8 Q7, .int .i64 b.began, .int .i64 b.ended, .bool b.laid]] w fun e w' => e = .returned (.bool true) ∧ Mv [] w [] w' := by
 have uU : True := (fun _ _ _ _ _ _ _ _ _ _ => trivial) Q23 Q22 Q24 Q20 Q21 Q28 Q27 Q29 Q25 Q26
 clear uU
 have Q17 : Rd 7 encStep okStep (V H w []) w (.slice Q3 Q5 Q4) a.steps := Rd.start Q13 (fun _ _ => fps_nil _)
 obtain ⟨Q35, Q31, Q39, Q43⟩ := Rd.inv Q13
 have Q16 : Rd 3 encR okR (V H w []) w (.slice Q0 Q2 Q1) a.answers := Rd.start Q12 (fun _ _ => fps_nil _)
 obtain ⟨Q34, Q30, Q38, Q42⟩ := Rd.inv Q12
 have Q19 : Rd 7 encStep okStep (V H w []) w (.slice Q9 Q11 Q10) b.steps := Rd.start Q15 (fun _ _ => fps_nil _)
 obtain ⟨Q37, Q33, Q41, Q45⟩ := Rd.inv Q15
 have Q18 : Rd 3 encR okR (V H w []) w (.slice Q6 Q8 Q7) b.answers := Rd.start Q14 (fun _ _ => fps_nil _)
 obtain ⟨Q36, Q32, Q40, Q44⟩ := Rd.inv Q14
 refine calls_enter 47 Tryz.func57 rfl Tryz.ntmps57 (Nat.le_of_ble_eq_true rfl) (fun _ F0i => ?_)
 have F0 : Fr 47 [(0, .agg #[.int .i64 a.seq, .int .i64 a.kind, .int .i64 a.tx, .slice Q3 Q5 Q4, .slice Q0 Q2 Q1, .int .i64 a.began, .int .i64 a.ended, .bool a.laid]), (1, .agg #[.int .i64 b.seq, .int .i64 b.kind, .int .i64 b.tx, .slice Q9 Q11 Q10, .slice Q6 Q8 Q7, .int .i64 b.began, .int .i64 b.ended, .bool b.laid])] _ := F0i
 clear F0i
 refine wp_seq (wp_region_lit (l_op (f_box F0 (At.nil w) rfl rfl rfl (F0.ev 0 rfl) rfl rfl fun b1 _ w1 F2 S1 => ?_)))
 refine l_op (f_box F2 S1.at' rfl rfl rfl (F2.ev 1 rfl) rfl rfl fun b3 _ w3 F4 S3 => ?_)
 refine l_op (f_val F4 rfl rfl (r_assign rfl rfl) rfl fun _ F5 => ?_)
 have T6 : Mv _ _ [bx b3 [.int .i64 b.seq, .int .i64 b.kind, .int .i64 b.tx, .slice Q9 Q11 Q10, .slice Q6 Q8 Q7, .int .i64 b.began, .int .i64 b.ended, .bool b.laid] 102, bx b1 [.int .i64 a.seq, .int .i64 a.kind, .int .i64 a.tx, .slice Q3 Q5 Q4, .slice Q0 Q2 Q1, .int .i64 a.began, .int .i64 a.ended, .bool a.laid] 102] _ := S3
 refine s_end (x_normal (wp_seq (wp_seq (wp_region_lit (l_op (f_val F5 rfl rfl (r_field FI_102_0 rfl (F5.ev 2 rfl) rfl) rfl fun _ F7 => ?_))))))
 refine l_op (f_val (v := .int .i64 a.seq) F7 rfl rfl (r_loadB T6.at' 1 TI_3 rfl rfl (F7.ev 5 rfl) rfl rfl (fun _ => rfl) rfl) rfl fun _ F8 => ?_)
 refine l_op (f_val F8 rfl rfl (r_field FI_102_0 rfl (F8.ev 3 rfl) rfl) rfl fun _ F9 => ?_)
 refine l_op (f_val (v := .int .i64 b.seq) F9 rfl rfl (r_loadB T6.at' 0 TI_3 rfl rfl (F9.ev 7 rfl) rfl rfl (fun _ => rfl) rfl) rfl fun _ F10 => ?_)
 refine l_op (f_val F10 rfl rfl (r_cmp (b := decide (a.seq ≠ b.seq)) (.inr (.inl rfl)) rfl (F10.ev 6 rfl) (F10.ev 8 rfl) (dec_of (by omega))) rfl fun _ F11 => ?_)
 rw [show (decide (a.seq ≠ b.seq)) = false from decide_eq_false (fun h => h (by rw [p0]))] at F11
 refine s_end (x_normal (wp_cond_false (F11.ev 9 rfl) (wp_skip (x_normal (wp_seq (wp_seq (wp_region_lit (l_op (f_val F11 rfl rfl (r_field FI_102_1 rfl (F11.ev 2 rfl) rfl) rfl fun _ F12 => ?_)))))))))
 refine l_op (f_val (v := .int .i64 a.kind) F12 rfl rfl (r_loadB T6.at' 1 TI_3 rfl rfl (F12.ev 10 rfl) rfl rfl (fun _ => rfl) rfl) rfl fun _ F13 => ?_)
 refine l_op (f_val F13 rfl rfl (r_field FI_102_1 rfl (F13.ev 3 rfl) rfl) rfl fun _ F14 => ?_)
 refine l_op (f_val (v := .int .i64 b.kind) F14 rfl rfl (r_loadB T6.at' 0 TI_3 rfl rfl (F14.ev 12 rfl) rfl rfl (fun _ => rfl) rfl) rfl fun _ F15 => ?_)
 refine l_op (f_val F15 rfl rfl (r_cmp (b := decide (a.kind ≠ b.kind)) (.inr (.inl rfl)) rfl (F15.ev 11 rfl) (F15.ev 13 rfl) (dec_of (by omega))) rfl fun _ F16 => ?_)
 rw [show (decide (a.kind ≠ b.kind)) = false from decide_eq_false (fun h => h (by rw [p0]))] at F16
 have F17 : Fr 47 [(14, .bool false), (3, .pointer (some ⟨b3, 0, none⟩)), (2, .pointer (some ⟨b1, 0, none⟩))] _ := F16.cut rfl
 clear F0 F2 F4 F5 F7 F8 F9 F10 F11 F12 F13 F14 F15 F16
 refine s_end (x_normal (wp_cond_false (F17.ev 14 rfl) (wp_skip (x_normal (wp_seq (wp_seq (wp_region_lit (l_op (f_val F17 rfl rfl (r_field FI_102_2 rfl (F17.ev 2 rfl) rfl) rfl fun _ F18 => ?_)))))))))
 refine l_op (f_val (v := .int .i64 a.tx) F18 rfl rfl (r_loadB T6.at' 1 TI_3 rfl rfl (F18.ev 15 rfl) rfl rfl (fun _ => rfl) rfl) rfl fun _ F19 => ?_)
 refine l_op (f_val F19 rfl rfl (r_field FI_102_2 rfl (F19.ev 3 rfl) rfl) rfl fun _ F20 => ?_)
 refine l_op (f_val (v := .int .i64 b.tx) F20 rfl rfl (r_loadB T6.at' 0 TI_3 rfl rfl (F20.ev 17 rfl) rfl rfl (fun _ => rfl) rfl) rfl fun _ F21 => ?_)
 refine l_op (f_val F21 rfl rfl (r_cmp (b := decide (a.tx ≠ b.tx)) (.inr (.inl rfl)) rfl (F21.ev 16 rfl) (F21.ev 18 rfl) (dec_of (by omega))) rfl fun _ F22 => ?_)
 rw [show (decide (a.tx ≠ b.tx)) = false from decide_eq_false (fun h => h (by rw [p0]))] at F22
 refine s_end (x_normal (wp_cond_false (F22.ev 19 rfl) (wp_skip (x_normal (wp_seq (wp_seq (wp_region_lit (l_op (f_val F22 rfl rfl (r_field FI_102_3 rfl (F22.ev 2 rfl) rfl) rfl fun _ F23 => ?_)))))))))
 refine l_op (f_val (v := .slice Q3 Q5 Q4) F23 rfl rfl (r_loadB T6.at' 1 TI_100 rfl rfl (F23.ev 20 rfl) rfl rfl (fun _ => rfl) rfl) rfl fun _ F24 => ?_)
 refine l_op (f_val F24 rfl rfl (r_field FI_102_3 rfl (F24.ev 3 rfl) rfl) rfl fun _ F25 => ?_)
 refine l_op (f_val (v := .slice Q9 Q11 Q10) F25 rfl rfl (r_loadB T6.at' 0 TI_100 rfl rfl (F25.ev 22 rfl) rfl rfl (fun _ => rfl) rfl) rfl fun _ F26 => ?_)
 refine l_op (f_call F26 CF_77 rfl rfl rfl rfl (lc (F26.ev 21 rfl) (lc (F26.ev 23 rfl) rfl)) (laws_eqStepS_c (a := a.steps) (b := b.steps) (Rd.mv (Nat.succ_pos _) Q17 (S1.trans T6)) (Rd.mv (Nat.succ_pos _) Q19 (S1.trans T6)) (by rw [p0])) ?_)
 rintro _ w27 ⟨rfl, m27⟩
 refine ⟨_, rfl, fun _ F28 => ?_⟩
 have S27 := At.frame0 T6.at' m27
 clear m27
 refine l_op (f_val F28 rfl rfl (r_not rfl (F28.ev 24 rfl)) rfl fun _ F29 => ?_)
 have F30 : Fr 47 [(25, .bool false), (3, .pointer (some ⟨b3, 0, none⟩)), (2, .pointer (some ⟨b1, 0, none⟩))] _ := F29.cut rfl
 clear F17 F18 F19 F20 F21 F22 F23 F24 F25 F26 F28 F29
 refine s_end (x_normal (wp_cond_false (F30.ev 25 rfl) (wp_skip (x_normal (wp_seq (wp_seq (wp_region_lit (l_op (f_val F30 rfl rfl (r_field FI_102_4 rfl (F30.ev 2 rfl) rfl) rfl fun _ F31 => ?_)))))))))
 refine l_op (f_val (v := .slice Q0 Q2 Q1) F31 rfl rfl (r_loadB S27.at' 1 TI_53 rfl rfl (F31.ev 26 rfl) rfl rfl (fun _ => rfl) rfl) rfl fun _ F32 => ?_)
 refine l_op (f_val F32 rfl rfl (r_field FI_102_4 rfl (F32.ev 3 rfl) rfl) rfl fun _ F33 => ?_)
 refine l_op (f_val (v := .slice Q6 Q8 Q7) F33 rfl rfl (r_loadB S27.at' 0 TI_53 rfl rfl (F33.ev 28 rfl) rfl rfl (fun _ => rfl) rfl) rfl fun _ F34 => ?_)
 refine l_op (f_call F34 CF_73 rfl rfl rfl rfl (lc (F34.ev 27 rfl) (lc (F34.ev 29 rfl) rfl)) (laws_eqAnswerS_c (a := a.answers) (b := b.answers) (Rd.mv (Nat.succ_pos _) Q16 (S1.trans (T6.trans S27))) (Rd.mv (Nat.succ_pos _) Q18 (S1.trans (T6.trans S27))) (by rw [p0])) ?_)
 rintro _ w35 ⟨rfl, m35⟩
 refine ⟨_, rfl, fun _ F36 => ?_⟩
 have S35 := At.frame0 S27.at' m35
 clear m35
 refine l_op (f_val F36 rfl rfl (r_not rfl (F36.ev 30 rfl)) rfl fun _ F37 => ?_)
 have T38 : Mv _ _ [bx b3 [.int .i64 b.seq, .int .i64 b.kind, .int .i64 b.tx, .slice Q9 Q11 Q10, .slice Q6 Q8 Q7, .int .i64 b.began, .int .i64 b.ended, .bool b.laid] 102, bx b1 [.int .i64 a.seq, .int .i64 a.kind, .int .i64 a.tx, .slice Q3 Q5 Q4, .slice Q0 Q2 Q1, .int .i64 a.began, .int .i64 a.ended, .bool a.laid] 102] _ := S35
 refine s_end (x_normal (wp_cond_false (F37.ev 31 rfl) (wp_skip (x_normal (wp_seq (wp_seq (wp_region_lit (l_op (f_val F37 rfl rfl (r_field FI_102_5 rfl (F37.ev 2 rfl) rfl) rfl fun _ F39 => ?_)))))))))
 refine l_op (f_val (v := .int .i64 a.began) F39 rfl rfl (r_loadB T38.at' 1 TI_3 rfl rfl (F39.ev 32 rfl) rfl rfl (fun _ => rfl) rfl) rfl fun _ F40 => ?_)
 refine l_op (f_val F40 rfl rfl (r_field FI_102_5 rfl (F40.ev 3 rfl) rfl) rfl fun _ F41 => ?_)
 refine l_op (f_val (v := .int .i64 b.began) F41 rfl rfl (r_loadB T38.at' 0 TI_3 rfl rfl (F41.ev 34 rfl) rfl rfl (fun _ => rfl) rfl) rfl fun _ F42 => ?_)
 refine l_op (f_val F42 rfl rfl (r_cmp (b := decide (a.began ≠ b.began)) (.inr (.inl rfl)) rfl (F42.ev 33 rfl) (F42.ev 35 rfl) (dec_of (by omega))) rfl fun _ F43 => ?_)
 rw [show (decide (a.began ≠ b.began)) = false from decide_eq_false (fun h => h (by rw [p0]))] at F43
 have F44 : Fr 47 [(36, .bool false), (3, .pointer (some ⟨b3, 0, none⟩)), (2, .pointer (some ⟨b1, 0, none⟩))] _ := F43.cut rfl
 clear F30 F31 F32 F33 F34 F36 F37 F39 F40 F41 F42 F43
 refine s_end (x_normal (wp_cond_false (F44.ev 36 rfl) (wp_skip (x_normal (wp_seq (wp_seq (wp_region_lit (l_op (f_val F44 rfl rfl (r_field FI_102_6 rfl (F44.ev 2 rfl) rfl) rfl fun _ F45 => ?_)))))))))
 refine l_op (f_val (v := .int .i64 a.ended) F45 rfl rfl (r_loadB T38.at' 1 TI_3 rfl rfl (F45.ev 37 rfl) rfl rfl (fun _ => rfl) rfl) rfl fun _ F46 => ?_)
 refine l_op (f_val F46 rfl rfl (r_field FI_102_6 rfl (F46.ev 3 rfl) rfl) rfl fun _ F47 => ?_)
 refine l_op (f_val (v := .int .i64 b.ended) F47 rfl rfl (r_loadB T38.at' 0 TI_3 rfl rfl (F47.ev 39 rfl) rfl rfl (fun _ => rfl) rfl) rfl fun _ F48 => ?_)
 refine l_op (f_val F48 rfl rfl (r_cmp (b := decide (a.ended ≠ b.ended)) (.inr (.inl rfl)) rfl (F48.ev 38 rfl) (F48.ev 40 rfl) (dec_of (by omega))) rfl fun _ F49 => ?_)
 rw [show (decide (a.ended ≠ b.ended)) = false from decide_eq_false (fun h => h (by rw [p0]))] at F49
 refine s_end (x_normal (wp_cond_false (F49.ev 41 rfl) (wp_skip (x_normal (wp_seq (wp_seq (wp_region_lit (l_op (f_val F49 rfl rfl (r_field FI_102_7 rfl (F49.ev 2 rfl) rfl) rfl fun _ F50 => ?_)))))))))
 refine l_op (f_val (v := .bool a.laid) F50 rfl rfl (r_loadB T38.at' 1 TI_4 rfl rfl (F50.ev 42 rfl) rfl rfl (fun _ => rfl) rfl) rfl fun _ F51 => ?_)
 refine l_op (f_val F51 rfl rfl (r_field FI_102_7 rfl (F51.ev 3 rfl) rfl) rfl fun _ F52 => ?_)
 refine l_op (f_val (v := .bool b.laid) F52 rfl rfl (r_loadB T38.at' 0 TI_4 rfl rfl (F52.ev 44 rfl) rfl rfl (fun _ => rfl) rfl) rfl fun _ F53 => ?_)
 refine l_op (f_val F53 rfl rfl (r_cmpb (b := (a.laid != b.laid)) Tryz.underlying4 (.inr rfl) rfl (F53.ev 43 rfl) (F53.ev 45 rfl) rfl) rfl fun _ F54 => ?_)
 rw [show (a.laid != b.laid) = false from by rw [p0]; exact bne_self_eq_false _] at F54
 have F55 : Fr 47 [(46, .bool false)] _ := F54.cut rfl
 clear F44 F45 F46 F47 F48 F49 F50 F51 F52 F53 F54
 refine s_end (x_normal (wp_cond_false (F55.ev 46 rfl) (wp_skip (x_normal (wp_seq (wp_region_lit (l_op (f_val F55 rfl rfl (r_assign rfl rfl) rfl fun _ F56 => ?_))))))))
 refine s_end (x_normal (wp_ret ?_))
 refine x_done (v := .bool true) F56 (results_1 Tryz.results57 (.tmp (F56.ev 4 rfl))) ?_
 exact ⟨rfl, (Mv.pick (S1.trans (T6.trans (S27.trans T38))) [] rfl)⟩
theorem laws_eqEntryS_c {w : World} {H : Nat → Prop} {a : List EntryH} {a_a : Option Addr} {a_n a_c : Nat} {b : List EntryH} {b_a : Option Addr} {b_n b_c : Nat} (v_a : Rd 8 encEntry okEntry H w (.slice a_a a_n a_c) a) (u_a : NRd inEntry H w a) (v_b : Rd 8 encEntry okEntry H w (.slice b_a b_n b_c) b) (u_b : NRd inEntry H w b) (p0 : a.map EntryH.d = b.map EntryH.d) :
    Calls Tryz.prog 32 #[.slice a_a a_n a_c, .slice b_a b_n b_c] w fun e w' => e = .returned (.bool true) ∧ Mv [] w [] w' := by
 have V_v_a : Rd 8 encEntry okEntry (V H w []) w (.slice a_a a_n a_c) a := Rd.start v_a (fun _ _ => fps_nil _)
 obtain ⟨ln_a, le_a, mx_a, ni_a⟩ := Rd.inv v_a
 have Q1 : Rd 8 encEntry okEntry (V H w []) w (.slice b_a b_n b_c) b := Rd.start v_b (fun _ _ => fps_nil _)
 obtain ⟨ln_b, le_b, mx_b, ni_b⟩ := Rd.inv v_b
 have V_u_a : NRd inEntry (V H w []) w a := NRd.start u_a (fun _ _ => fps_nil _)
 have Q0 : NRd inEntry (V H w []) w b := NRd.start u_b (fun _ _ => fps_nil _)
 refine calls_enter 27 Tryz.func32 rfl Tryz.ntmps32 (Nat.le_of_ble_eq_true rfl) (fun _ F0i => ?_)
 have F0 : Fr 27 [(0, .slice a_a a_n a_c), (1, .slice b_a b_n b_c)] _ := F0i
 clear F0i
 refine wp_seq ?_
 have hab : a_n = b_n := by rw [ln_a, ln_b, lenM p0]
 refine wp_region_lit (l_op (f_val F0 rfl rfl (r_assign rfl rfl) rfl fun _ F1 => ?_))
 refine s_end (x_normal (wp_seq (wp_seq (wp_region_lit (l_op (f_mv F1 rfl rfl rfl rfl rfl fun _ F2 => ?_))))))
 refine l_op (f_val F2 rfl rfl (r_len Tryz.underlying41 rfl (F2.ev 6 rfl)) rfl fun _ F3 => ?_)
 refine l_op (f_mv F3 rfl rfl rfl rfl rfl fun _ F4 => ?_)
 refine l_op (f_val F4 rfl rfl (r_len Tryz.underlying41 rfl (F4.ev 8 rfl)) rfl fun _ F5 => ?_)
 refine l_op (f_val F5 rfl rfl (r_cmp (b := decide (a_n ≠ b_n)) (.inr (.inl rfl)) rfl (F5.ev 7 rfl) (F5.ev 9 rfl) (dec_of (by omega))) rfl fun _ F6 => ?_)
 rw [show (decide (a_n ≠ b_n)) = false from decide_eq_false (fun h => h hab)] at F6
 refine s_end (x_normal (wp_cond_false (F6.ev 10 rfl) (wp_skip (x_normal (wp_seq (wp_seq (wp_region_lit (l_op (f_val F6 rfl rfl (r_assign rfl rfl) rfl fun _ F7 => ?_)))))))))
 refine s_end (x_normal (wp_block ?_))
 refine x_loop (fun (k : Nat) aZ wZ => Fr 27 [(5, .int .i64 ((k : Nat) : Int)), (0, .slice a_a a_n a_c), (1, .slice b_a b_n b_c)] aZ ∧ Mv [] w [] wZ ∧ (k ≤ a_n)) (fun (k : Nat) => a_n - k) (0) ?_ ?_
 · exact ⟨F7.cut rfl, (Mv.refl (At.nil w)), by omega⟩
 · rintro k a8 w8 ⟨F8, S8, hk_0⟩
   refine wp_seq (wp_seq (wp_region_lit (l_op (f_mv F8 rfl rfl rfl rfl rfl fun _ F9 => ?_))))
   refine l_op (f_mv F9 rfl rfl rfl rfl rfl fun _ F10 => ?_)
   refine l_op (f_val F10 rfl rfl (r_len Tryz.underlying41 rfl (F10.ev 12 rfl)) rfl fun _ F11 => ?_)
   refine l_op (f_val F11 rfl rfl (r_cmp (b := decide (k < a_n)) (.inr (.inr (.inl rfl))) rfl (F11.ev 11 rfl) (F11.ev 13 rfl) (dec_of (by omega))) rfl fun _ F12 => ?_)
   refine s_end (x_normal (x_cond (p := k < a_n) (F12.ev 14 rfl) (fun h13 => ?_) (fun h13 => ?_)))
   · skip
     refine wp_skip (x_normal (wp_seq (wp_block (wp_seq ?_))))
     obtain ⟨x1, hx1, okx1⟩ := Rd.elem (Rd.mv (Nat.succ_pos _) V_v_a S8) k (by first | assumption | omega)
     have oj15 := okx1
     obtain ⟨oi15_0, oi15_1, oi15_2, oi15_3, oi15_4⟩ := oj15
     have VI16 : Rd 7 encStep okStep (V H w []) w8 (.slice x1.a0 x1.n0 x1.c0) x1.d.steps := NRd.get (NRd.mv V_u_a S8) hx1 (j := 0) rfl
     obtain ⟨ln16, le16, mx16, ni16⟩ := Rd.inv VI16
     have VI17 : Rd 3 encR okR (V H w []) w8 (.slice x1.a1 x1.n1 x1.c1) x1.d.answers := NRd.get (NRd.mv V_u_a S8) hx1 (j := 1) rfl
     obtain ⟨ln17, le17, mx17, ni17⟩ := Rd.inv VI17
     obtain ⟨x2, hx2, okx2⟩ := Rd.elem (Rd.mv (Nat.succ_pos _) Q1 S8) k (by first | assumption | omega)
     have oj18 := okx2
     obtain ⟨oi18_0, oi18_1, oi18_2, oi18_3, oi18_4⟩ := oj18
     have VI19 : Rd 7 encStep okStep (V H w []) w8 (.slice x2.a0 x2.n0 x2.c0) x2.d.steps := NRd.get (NRd.mv Q0 S8) hx2 (j := 0) rfl
     obtain ⟨ln19, le19, mx19, ni19⟩ := Rd.inv VI19
     have VI20 : Rd 3 encR okR (V H w []) w8 (.slice x2.a1 x2.n1 x2.c1) x2.d.answers := NRd.get (NRd.mv Q0 S8) hx2 (j := 1) rfl
     obtain ⟨ln20, le20, mx20, ni20⟩ := Rd.inv VI20
     refine x_draw (fun aZ wZ => Fr 27 [(0, .slice a_a a_n a_c), (1, .slice b_a b_n b_c), (5, .int .i64 ((k : Nat) : Int)), (26, .bool false)] aZ ∧ Mv [] w8 [] wZ) [] mixed S8.at' (listed := #[false, false, false, false, false, false, false, false, false, false]) rfl (fun w21 S21 => ?_) [] rfl ?_
     · skip
       refine g_take F12 rfl (i := 0) (listed' := #[true, false, false, false, false, false, false, false, false, false]) rfl (by kernel_rfl) (by kernel_rfl) (by kernel_rfl) (fun _ _ _ h => h) (Sd.of (Mv.refl S21.at') [] rfl) rfl rfl rfl rfl (fun _ hz => (r_move rfl (F12.ev 0 rfl))) fun _ F22 => ?_
       refine g_take F22 rfl (i := 1) (listed' := #[true, true, false, false, false, false, false, false, false, false]) rfl (by kernel_rfl) (by kernel_rfl) (by kernel_rfl) (fun _ _ _ h => h) (Sd.of (Mv.refl S21.at') [] rfl) rfl rfl rfl rfl (fun _ hz => (r_move rfl (F22.ev 5 rfl))) fun _ F23 => ?_
       obtain ⟨B24, O24, y24, ad24, hy24, oky24, ln24, cl24⟩ := Rd.atK (Nat.succ_pos _) (Rd.mv (Nat.succ_pos _) V_v_a (S8.trans S21)) k (by first | assumption | omega)
       clear ln24
       obtain rfl := Option.some.inj (hx1.symm.trans hy24)
       clear hy24 oky24
       refine g_take F23 rfl (i := 2) (listed' := #[true, true, true, false, false, false, false, false, false, false]) rfl (by kernel_rfl) (by kernel_rfl) (by kernel_rfl) (fun _ _ _ h => h) (Sd.of (Mv.refl S21.at') [] rfl) rfl rfl rfl rfl (fun _ hz => (r_indexAddr (i := k) ET_41 rfl ((F23.ev 17 rfl).trans (by rw [ad24])) (F23.ev 18 rfl) (by omega) (by first | assumption | omega))) fun _ F25 => ?_
       refine g_take (v := .agg #[.int .i64 x1.d.seq, .int .i64 x1.d.kind, .int .i64 x1.d.tx, .slice x1.a0 x1.n0 x1.c0, .slice x1.a1 x1.n1 x1.c1, .int .i64 x1.d.began, .int .i64 x1.d.ended, .bool x1.d.laid]) F25 rfl (i := 3) (listed' := #[true, true, true, true, false, false, false, false, false, false]) rfl (by kernel_rfl) (by kernel_rfl) (by kernel_rfl) (fun _ _ _ h => h) (Sd.of (Mv.refl S21.at') [] rfl) rfl rfl rfl rfl (fun _ hz => (r_load (cs := [.int .i64 x1.d.seq, .int .i64 x1.d.kind, .int .i64 x1.d.tx, .slice x1.a0 x1.n0 x1.c0, .slice x1.a1 x1.n1 x1.c1, .int .i64 x1.d.began, .int .i64 x1.d.ended, .bool x1.d.laid]) TI_102 rfl (F25.ev 19 rfl) rfl (fun h => nomatch h) (elem_sub (f := 0) (cl24 _ hz.kp) [.int .i64 x1.d.seq, .int .i64 x1.d.kind, .int .i64 x1.d.tx, .slice x1.a0 x1.n0 x1.c0, .slice x1.a1 x1.n1 x1.c1, .int .i64 x1.d.began, .int .i64 x1.d.ended, .bool x1.d.laid] rfl))) fun _ F26 => ?_
       refine g_take F26 rfl (i := 4) (listed' := #[true, true, true, true, true, false, false, false, false, false]) rfl (by kernel_rfl) (by kernel_rfl) (by kernel_rfl) (fun _ _ _ h => h) (Sd.of (Mv.refl S21.at') [] rfl) rfl rfl rfl rfl (fun _ hz => (r_move rfl (F26.ev 1 rfl))) fun _ F27 => ?_
       refine g_take F27 rfl (i := 5) (listed' := #[true, true, true, true, true, true, false, false, false, false]) rfl (by kernel_rfl) (by kernel_rfl) (by kernel_rfl) (fun _ _ _ h => h) (Sd.of (Mv.refl S21.at') [] rfl) rfl rfl rfl rfl (fun _ hz => (r_move rfl (F27.ev 5 rfl))) fun _ F28 => ?_
       obtain ⟨B29, O29, y29, ad29, hy29, oky29, ln29, cl29⟩ := Rd.atK (Nat.succ_pos _) (Rd.mv (Nat.succ_pos _) Q1 (S8.trans S21)) k (by first | assumption | omega)
       clear ln29
       obtain rfl := Option.some.inj (hx2.symm.trans hy29)
       clear hy29 oky29
       refine g_take F28 rfl (i := 6) (listed' := #[true, true, true, true, true, true, true, false, false, false]) rfl (by kernel_rfl) (by kernel_rfl) (by kernel_rfl) (fun _ _ _ h => h) (Sd.of (Mv.refl S21.at') [] rfl) rfl rfl rfl rfl (fun _ hz => (r_indexAddr (i := k) ET_41 rfl ((F28.ev 21 rfl).trans (by rw [ad29])) (F28.ev 22 rfl) (by omega) (by first | assumption | omega))) fun _ F30 => ?_
       refine g_take (v := .agg #[.int .i64 x2.d.seq, .int .i64 x2.d.kind, .int .i64 x2.d.tx, .slice x2.a0 x2.n0 x2.c0, .slice x2.a1 x2.n1 x2.c1, .int .i64 x2.d.began, .int .i64 x2.d.ended, .bool x2.d.laid]) F30 rfl (i := 7) (listed' := #[true, true, true, true, true, true, true, true, false, false]) rfl (by kernel_rfl) (by kernel_rfl) (by kernel_rfl) (fun _ _ _ h => h) (Sd.of (Mv.refl S21.at') [] rfl) rfl rfl rfl rfl (fun _ hz => (r_load (cs := [.int .i64 x2.d.seq, .int .i64 x2.d.kind, .int .i64 x2.d.tx, .slice x2.a0 x2.n0 x2.c0, .slice x2.a1 x2.n1 x2.c1, .int .i64 x2.d.began, .int .i64 x2.d.ended, .bool x2.d.laid]) TI_102 rfl (F30.ev 23 rfl) rfl (fun h => nomatch h) (elem_sub (f := 0) (cl29 _ hz.kp) [.int .i64 x2.d.seq, .int .i64 x2.d.kind, .int .i64 x2.d.tx, .slice x2.a0 x2.n0 x2.c0, .slice x2.a1 x2.n1 x2.c1, .int .i64 x2.d.began, .int .i64 x2.d.ended, .bool x2.d.laid] rfl))) fun _ F31 => ?_
       refine d_one (i := 8) (listed' := #[true, true, true, true, true, true, true, true, true, false]) rfl (by kernel_rfl) rfl rfl ?_
       refine f_call F31 CF_57 rfl rfl rfl rfl (lc (F31.ev 20 rfl) (lc (F31.ev 24 rfl) rfl)) (laws_eqEntry_c (a := x1.d) (b := x2.d) okx1.1 okx1.2.1 okx1.2.2.1 (Rd.mv (Nat.succ_pos _) VI16 S21) (Rd.mv (Nat.succ_pos _) VI17 S21) okx1.2.2.2.1 okx1.2.2.2.2 okx2.1 okx2.2.1 okx2.2.2.1 (Rd.mv (Nat.succ_pos _) VI19 S21) (Rd.mv (Nat.succ_pos _) VI20 S21) okx2.2.2.2.1 okx2.2.2.2.2 (by exact elM p0 hx1 hx2)) ?_
       rintro _ w32 ⟨rfl, m32⟩
       refine ⟨_, rfl, fun _ F33 => ?_⟩
       have S32 := At.frame0 S21.at' m32
       clear m32
       refine ⟨Sd.of S32 [] rfl, ?_⟩
       refine g_take F33 rfl (i := 9) (listed' := #[true, true, true, true, true, true, true, true, true, true]) rfl (by kernel_rfl) (by kernel_rfl) (by kernel_rfl) (fun _ _ _ h => h) (Sd.of S32 [] rfl) rfl rfl rfl rfl (fun _ hz => (r_not rfl (F33.ev 25 rfl))) fun _ F34 => ?_
       refine wpAnyH_done (by kernel_rfl) (x_normal ?_) _
       exact ⟨F34.cut rfl, ((S21.trans S32).pick [] rfl)⟩
     · rintro a35 w35 ⟨F35, S35⟩
       refine x_normal (wp_cond_false (F35.ev 26 rfl) (wp_skip (x_block_normal (x_normal (wp_region_lit (l_op (f_mv F35 rfl rfl rfl rfl rfl fun _ F36 => ?_)))))))
       refine l_op (f_val F36 rfl rfl (r_add (z := ((k + 1 : Nat) : Int)) rfl (F36.ev 15 rfl) rfl (by first | rfl | omega) ⟨by first | omega | (unfold i64ok at *; omega), by first | omega | (unfold i64ok at *; omega)⟩) rfl fun _ F37 => ?_)
       refine l_op (f_as F37 rfl rfl rfl rfl rfl fun _ F38 => ?_)
       refine s_end ?_
       refine x_normal ⟨k + 1, by omega, F38.cut rfl, ((S8.trans S35).pick [] rfl), by omega⟩
   · skip
     refine wp_exit (x_then_exit (x_then_exit (x_block_here (x_normal (wp_seq (wp_region_lit (l_op (f_val F12 rfl rfl (r_assign rfl rfl) rfl fun _ F39 => ?_))))))))
     refine s_end (x_normal (wp_ret ?_))
     refine x_done (v := .bool true) F39 (results_1 Tryz.results32 (.tmp (F39.ev 4 rfl))) ?_
     exact ⟨rfl, (Mv.pick S8 [] rfl)⟩
theorem laws_szKernel_c {w : World} {H : Nat → Prop} {a : KernH} {a_Sa : Option Addr} {a_Sn a_Sc : Nat} {Q9 : Option Addr} {Q11 Q10 : Nat} {Q0 : Option Addr} {Q2 Q1 : Nat} {Q3 : Option Addr} {Q5 Q4 : Nat} {Q6 : Option Addr} {Q8 Q7 : Nat} {left : Int} (Q15 : RdA 2 encC okC H w (.slice a_Sa a_Sn a_Sc) a.store) (Q16 : RdA 10 encTx okTx H w (.slice Q9 Q11 Q10) a.txs) (Q33 : NRa inTx H w a.txs) (Q12 : RdA 3 encSlot okSlot H w (.slice Q0 Q2 Q1) a.disk.slots) (Q31 : NRa inSlot H w a.disk.slots) (Q26 : okS a.disk.journal.text) (Q25 : i64ok a.disk.journal.sure) (Q28 : i64ok a.seq) (Q27 : i64ok a.next) (Q29 : i64ok a.time) (Q13 : RdA 8 encEntry okEntry H w (.slice Q3 Q5 Q4) a.history) (Q32 : NRa inEntry H w a.history) (Q14 : RdA 1 encS okS H w (.slice Q6 Q8 Q7) a.seen) (Q30 : i64ok left) (p0 : 0 ≤ left) (p1 : left ≤ 1048576) :
    Calls Tryz.prog 4 #[.agg #[.slice a_Sa a_Sn a_Sc, .slice Q9 Q11 Q10, .slice Q0 Q2 Q1, .string a.disk.journal.text, .int .i64 a.disk.journal.sure, .int .i64 a.seq, .int .i64 a.next, .int .i64 a.time, .slice Q3 Q5 Q4, .slice Q6 Q8 Q7, .bool a.room], .int .i64 left] w fun e w' => e = .returned (.int .i64 (subOr left (szKernelH a))) ∧ Mv [] w [] w' ∧ i64ok (subOr left (szKernelH a)) := by
 have uU : True := (fun _ _ _ _ => trivial) Q25 Q28 Q27 Q29
 clear uU
 have Q23 : RdA 2 encC okC (V H w []) w (.slice a_Sa a_Sn a_Sc) a.store := RdA.start Q15 (fun _ _ => fps_nil _)
 obtain ⟨Q42, Q37, Q47, Q52⟩ := RdA.inv Q15
 have Q24 : RdA 10 encTx okTx (V H w []) w (.slice Q9 Q11 Q10) a.txs := RdA.start Q16 (fun _ _ => fps_nil _)
 obtain ⟨Q43, Q38, Q48, Q53⟩ := RdA.inv Q16
 have Q20 : RdA 3 encSlot okSlot (V H w []) w (.slice Q0 Q2 Q1) a.disk.slots := RdA.start Q12 (fun _ _ => fps_nil _)
 obtain ⟨Q39, Q34, Q44, Q49⟩ := RdA.inv Q12
 have Q21 : RdA 8 encEntry okEntry (V H w []) w (.slice Q3 Q5 Q4) a.history := RdA.start Q13 (fun _ _ => fps_nil _)
 obtain ⟨Q40, Q35, Q45, Q50⟩ := RdA.inv Q13
 have Q22 : RdA 1 encS okS (V H w []) w (.slice Q6 Q8 Q7) a.seen := RdA.start Q14 (fun _ _ => fps_nil _)
 obtain ⟨Q41, Q36, Q46, Q51⟩ := RdA.inv Q14
 have Q19 : NRa inTx (V H w []) w a.txs := NRa.start Q33 (fun _ _ => fps_nil _)
 have Q17 : NRa inSlot (V H w []) w a.disk.slots := NRa.start Q31 (fun _ _ => fps_nil _)
 have Q18 : NRa inEntry (V H w []) w a.history := NRa.start Q32 (fun _ _ => fps_nil _)
 refine calls_enter 36 Tryz.func4 rfl Tryz.ntmps4 (Nat.le_of_ble_eq_true rfl) (fun _ F0i => ?_)
 have F0 : Fr 36 [(0, .agg #[.slice a_Sa a_Sn a_Sc, .slice Q9 Q11 Q10, .slice Q0 Q2 Q1, .string a.disk.journal.text, .int .i64 a.disk.journal.sure, .int .i64 a.seq, .int .i64 a.next, .int .i64 a.time, .slice Q3 Q5 Q4, .slice Q6 Q8 Q7, .bool a.room]), (1, .int .i64 left)] _ := F0i
 clear F0i
 refine wp_seq (wp_region_lit (l_op (f_box F0 (At.nil w) rfl rfl rfl (F0.ev 0 rfl) rfl rfl fun b1 _ w1 F2 S1 => ?_)))
 refine l_op (f_val F2 rfl rfl (r_assign rfl rfl) rfl fun _ F3 => ?_)
 refine s_end (x_normal (wp_seq (wp_region_lit (l_op (f_val F3 rfl rfl (r_field FI_32_0 rfl (F3.ev 2 rfl) rfl) rfl fun _ F4 => ?_)))))
 refine l_op (f_val (v := .slice a_Sa a_Sn a_Sc) F4 rfl rfl (r_loadB S1.at' 0 TI_22 rfl rfl (F4.ev 5 rfl) rfl rfl (fun _ => rfl) rfl) rfl fun _ F5 => ?_)
 refine l_op (f_mv F5 rfl rfl rfl rfl rfl fun _ F6 => ?_)
 refine l_op (f_call F6 CF_9 rfl rfl rfl rfl (lc (F6.ev 6 rfl) (lc (F6.ev 7 rfl) rfl)) (laws_szCellS_c (a := a.store) (left := left) (RdA.mv (Nat.succ_pos _) Q23 S1) Q30 (by first | assumption | omega | (simp <;> omega)) (by first | assumption | omega | (simp <;> omega))) ?_)
 rintro _ w7 ⟨rfl, m7, q7_0⟩
 refine ⟨_, rfl, fun _ F8 => ?_⟩
 have S7 := At.frame0 S1.at' m7
 clear m7
 refine l_op (f_as F8 rfl rfl rfl rfl rfl fun _ F9 => ?_)
 have T10 : Mv _ _ [bx b1 [.slice a_Sa a_Sn a_Sc, .slice Q9 Q11 Q10, .slice Q0 Q2 Q1, .string a.disk.journal.text, .int .i64 a.disk.journal.sure, .int .i64 a.seq, .int .i64 a.next, .int .i64 a.time, .slice Q3 Q5 Q4, .slice Q6 Q8 Q7, .bool a.room] 32] _ := S7
 refine s_end (x_normal (wp_seq (wp_seq (wp_region_lit (l_op (f_mv F9 rfl rfl rfl rfl rfl fun _ F11 => ?_))))))
 refine l_op (f_val F11 rfl rfl (r_cmp (b := decide ((subOr left (szCells a.store)) < 0)) (.inr (.inr (.inl rfl))) rfl (F11.ev 9 rfl) rfl (dec_of (by omega))) rfl fun _ F12 => ?_)
 have F13 : Fr 36 [(10, .bool (decide ((subOr left (szCells a.store)) < 0))), (1, .int .i64 (subOr left (szCells a.store))), (2, .pointer (some ⟨b1, 0, none⟩))] _ := F12.cut rfl
 clear F0 F2 F3 F4 F5 F6 F8 F9 F11 F12
 refine s_end (x_normal (x_cond (p := (subOr left (szCells a.store)) < 0) (F13.ev 10 rfl) (fun h14 => ?_) (fun h14 => ?_)))
 · skip
   refine wp_seq (wp_region_lit (l_op (f_val F13 rfl rfl (r_assign rfl rfl) rfl fun _ F15 => ?_)))
   refine s_end (x_normal (wp_ret (x_then_ret ?_)))
   refine x_done (v := .int .i64 (-1)) F15 (results_1 Tryz.results4 (.tmp (F15.ev 4 rfl))) ?_
   exact ⟨(by rw [(show (-1) = (subOr left (szKernelH a)) from by unfold szKernelH; exact sz4_a (by assumption))]), (Mv.pick (S1.trans T10) [] rfl), subOr_i64 p0 p1⟩
 · skip
   refine wp_skip (x_normal (wp_seq (wp_region_lit (l_op (f_val F13 rfl rfl (r_field FI_32_1 rfl (F13.ev 2 rfl) rfl) rfl fun _ F16 => ?_)))))
   refine l_op (f_val (v := .slice Q9 Q11 Q10) F16 rfl rfl (r_loadB T10.at' 0 TI_23 rfl rfl (F16.ev 11 rfl) rfl rfl (fun _ => rfl) rfl) rfl fun _ F17 => ?_)
   refine l_op (f_mv F17 rfl rfl rfl rfl rfl fun _ F18 => ?_)
   refine l_op (f_call F18 CF_10 rfl rfl rfl rfl (lc (F18.ev 12 rfl) (lc (F18.ev 13 rfl) rfl)) (laws_szTxS_c (a := a.txs) (left := (subOr left (szCells a.store))) (RdA.mv (Nat.succ_pos _) Q24 (S1.trans T10)) (NRa.mv Q19 (S1.trans T10)) (by first | assumption | exact ⟨by omega, by omega⟩ | (unfold i64ok at *; omega)) (by first | assumption | omega | (simp <;> omega)) (by have q1 := subOr_bd left (szCells a.store) p0; omega)) ?_)
   rintro _ w19 ⟨rfl, m19, q19_0⟩
   refine ⟨_, rfl, fun _ F20 => ?_⟩
   have S19 := At.frame0 T10.at' m19
   clear m19
   refine l_op (f_as F20 rfl rfl rfl rfl rfl fun _ F21 => ?_)
   refine s_end (x_normal (wp_seq (wp_seq (wp_region_lit (l_op (f_mv F21 rfl rfl rfl rfl rfl fun _ F22 => ?_))))))
   refine l_op (f_val F22 rfl rfl (r_cmp (b := decide ((subOr (subOr left (szCells a.store)) (szTxsH a.txs)) < 0)) (.inr (.inr (.inl rfl))) rfl (F22.ev 15 rfl) rfl (dec_of (by omega))) rfl fun _ F23 => ?_)
   refine s_end (x_normal (x_cond (p := (subOr (subOr left (szCells a.store)) (szTxsH a.txs)) < 0) (F23.ev 16 rfl) (fun h24 => ?_) (fun h24 => ?_)))
   · skip
     refine wp_seq (wp_region_lit (l_op (f_val F23 rfl rfl (r_assign rfl rfl) rfl fun _ F25 => ?_)))
     refine s_end (x_normal (wp_ret (x_then_ret ?_)))
     refine x_done (v := .int .i64 (-1)) F25 (results_1 Tryz.results4 (.tmp (F25.ev 4 rfl))) ?_
     exact ⟨(by rw [(show (-1) = (subOr left (szKernelH a)) from by unfold szKernelH; exact sz4_b (by assumption) (by assumption))]), (Mv.pick (S1.trans (T10.trans S19)) [] rfl), subOr_i64 p0 p1⟩
   · skip
     refine wp_skip (x_normal (wp_seq (wp_region_lit (l_op (f_val F23 rfl rfl (r_field FI_32_2 rfl (F23.ev 2 rfl) rfl) rfl fun _ F26 => ?_)))))
     refine l_op (f_val (v := .agg #[.slice Q0 Q2 Q1, .string a.disk.journal.text, .int .i64 a.disk.journal.sure]) F26 rfl rfl (r_loadB S19.at' 0 TI_28 rfl rfl (F26.ev 17 rfl) rfl rfl (fun h => nomatch h) rfl) rfl fun _ F27 => ?_)
     refine l_op (f_mv F27 rfl rfl rfl rfl rfl fun _ F28 => ?_)
     refine l_op (f_call F28 CF_11 rfl rfl rfl rfl (lc (F28.ev 18 rfl) (lc (F28.ev 19 rfl) rfl)) (laws_szDisk_c (a := a.disk) (left := (subOr (subOr left (szCells a.store)) (szTxsH a.txs))) (RdA.mv (Nat.succ_pos _) Q20 (S1.trans (T10.trans S19))) (NRa.mv Q17 (S1.trans (T10.trans S19))) Q26 (by first | assumption | exact ⟨by omega, by omega⟩ | (unfold i64ok at *; omega) | (simp only [i64ok]; omega)) (by first | assumption | exact ⟨by omega, by omega⟩ | (unfold i64ok at *; omega)) (by first | assumption | omega | (simp <;> omega)) (by have q1 := subOr_bd left (szCells a.store) p0; have q2 := subOr_bd (subOr left (szCells a.store)) (szTxsH a.txs) (by omega); omega)) ?_)
     rintro _ w29 ⟨rfl, m29, q29_0⟩
     refine ⟨_, rfl, fun _ F30 => ?_⟩
     have S29 := At.frame0 S19.at' m29
     clear m29
     refine l_op (f_as F30 rfl rfl rfl rfl rfl fun _ F31 => ?_)
     have F32 : Fr 36 [(1, .int .i64 (subOr (subOr (subOr left (szCells a.store)) (szTxsH a.txs)) (szDiskH a.disk))), (2, .pointer (some ⟨b1, 0, none⟩))] _ := F31.cut rfl
     clear F13 F16 F17 F18 F20 F21 F22 F23 F26 F27 F28 F30 F31
     have T33 : Mv _ _ [bx b1 [.slice a_Sa a_Sn a_Sc, .slice Q9 Q11 Q10, .slice Q0 Q2 Q1, .string a.disk.journal.text, .int .i64 a.disk.journal.sure, .int .i64 a.seq, .int .i64 a.next, .int .i64 a.time, .slice Q3 Q5 Q4, .slice Q6 Q8 Q7, .bool a.room] 32] _ := S29
     refine s_end (x_normal (wp_seq (wp_seq (wp_region_lit (l_op (f_mv F32 rfl rfl rfl rfl rfl fun _ F34 => ?_))))))
     refine l_op (f_val F34 rfl rfl (r_cmp (b := decide ((subOr (subOr (subOr left (szCells a.store)) (szTxsH a.txs)) (szDiskH a.disk)) < 0)) (.inr (.inr (.inl rfl))) rfl (F34.ev 21 rfl) rfl (dec_of (by omega))) rfl fun _ F35 => ?_)
     refine s_end (x_normal (x_cond (p := (subOr (subOr (subOr left (szCells a.store)) (szTxsH a.txs)) (szDiskH a.disk)) < 0) (F35.ev 22 rfl) (fun h36 => ?_) (fun h36 => ?_)))
     · skip
       refine wp_seq (wp_region_lit (l_op (f_val F35 rfl rfl (r_assign rfl rfl) rfl fun _ F37 => ?_)))
       refine s_end (x_normal (wp_ret (x_then_ret ?_)))
       refine x_done (v := .int .i64 (-1)) F37 (results_1 Tryz.results4 (.tmp (F37.ev 4 rfl))) ?_
       exact ⟨(by rw [(show (-1) = (subOr left (szKernelH a)) from by unfold szKernelH; exact sz4_c (by assumption) (by assumption) (by assumption))]), (Mv.pick (S1.trans (T10.trans (S19.trans T33))) [] rfl), subOr_i64 p0 p1⟩
     · skip
       refine wp_skip (x_normal (wp_seq (wp_region_lit (l_op (f_val F35 rfl rfl (r_field FI_32_6 rfl (F35.ev 2 rfl) rfl) rfl fun _ F38 => ?_)))))
       refine l_op (f_val (v := .slice Q3 Q5 Q4) F38 rfl rfl (r_loadB T33.at' 0 TI_29 rfl rfl (F38.ev 23 rfl) rfl rfl (fun _ => rfl) rfl) rfl fun _ F39 => ?_)
       refine l_op (f_mv F39 rfl rfl rfl rfl rfl fun _ F40 => ?_)
       refine l_op (f_call F40 CF_12 rfl rfl rfl rfl (lc (F40.ev 24 rfl) (lc (F40.ev 25 rfl) rfl)) (laws_szEntryS_c (a := a.history) (left := (subOr (subOr (subOr left (szCells a.store)) (szTxsH a.txs)) (szDiskH a.disk))) (RdA.mv (Nat.succ_pos _) Q21 (S1.trans (T10.trans (S19.trans T33)))) (NRa.mv Q18 (S1.trans (T10.trans (S19.trans T33)))) (by first | assumption | exact ⟨by omega, by omega⟩ | (unfold i64ok at *; omega)) (by first | assumption | omega | (simp <;> omega)) (by have q1 := subOr_bd left (szCells a.store) p0; have q2 := subOr_bd (subOr left (szCells a.store)) (szTxsH a.txs) (by omega); have q3 := subOr_bd (subOr (subOr left (szCells a.store)) (szTxsH a.txs)) (szDiskH a.disk) (by omega); omega)) ?_)
       rintro _ w41 ⟨rfl, m41, q41_0⟩
       refine ⟨_, rfl, fun _ F42 => ?_⟩
       have S41 := At.frame0 T33.at' m41
       clear m41
       refine l_op (f_as F42 rfl rfl rfl rfl rfl fun _ F43 => ?_)
       refine s_end (x_normal (wp_seq (wp_seq (wp_region_lit (l_op (f_mv F43 rfl rfl rfl rfl rfl fun _ F44 => ?_))))))
       refine l_op (f_val F44 rfl rfl (r_cmp (b := decide ((subOr (subOr (subOr (subOr left (szCells a.store)) (szTxsH a.txs)) (szDiskH a.disk)) (szEntriesH a.history)) < 0)) (.inr (.inr (.inl rfl))) rfl (F44.ev 27 rfl) rfl (dec_of (by omega))) rfl fun _ F45 => ?_)
       have F46 : Fr 36 [(28, .bool (decide ((subOr (subOr (subOr (subOr left (szCells a.store)) (szTxsH a.txs)) (szDiskH a.disk)) (szEntriesH a.history)) < 0))), (1, .int .i64 (subOr (subOr (subOr (subOr left (szCells a.store)) (szTxsH a.txs)) (szDiskH a.disk)) (szEntriesH a.history))), (2, .pointer (some ⟨b1, 0, none⟩))] _ := F45.cut rfl
       clear F32 F34 F35 F38 F39 F40 F42 F43 F44 F45
       refine s_end (x_normal (x_cond (p := (subOr (subOr (subOr (subOr left (szCells a.store)) (szTxsH a.txs)) (szDiskH a.disk)) (szEntriesH a.history)) < 0) (F46.ev 28 rfl) (fun h47 => ?_) (fun h47 => ?_)))
       · skip
         refine wp_seq (wp_region_lit (l_op (f_val F46 rfl rfl (r_assign rfl rfl) rfl fun _ F48 => ?_)))
         refine s_end (x_normal (wp_ret (x_then_ret ?_)))
         refine x_done (v := .int .i64 (-1)) F48 (results_1 Tryz.results4 (.tmp (F48.ev 4 rfl))) ?_
         exact ⟨(by rw [(show (-1) = (subOr left (szKernelH a)) from by unfold szKernelH; exact sz5_d (by assumption) (by assumption) (by assumption) (by assumption))]), (Mv.pick (S1.trans (T10.trans (S19.trans (T33.trans S41)))) [] rfl), subOr_i64 p0 p1⟩
       · skip
         refine wp_skip (x_normal (wp_seq (wp_region_lit (l_op (f_val F46 rfl rfl (r_field FI_32_7 rfl (F46.ev 2 rfl) rfl) rfl fun _ F49 => ?_)))))
         refine l_op (f_val (v := .slice Q6 Q8 Q7) F49 rfl rfl (r_loadB S41.at' 0 TI_30 rfl rfl (F49.ev 29 rfl) rfl rfl (fun _ => rfl) rfl) rfl fun _ F50 => ?_)
         refine l_op (f_mv F50 rfl rfl rfl rfl rfl fun _ F51 => ?_)
         refine l_op (f_call F51 CF_13 rfl rfl rfl rfl (lc (F51.ev 30 rfl) (lc (F51.ev 31 rfl) rfl)) (laws_szStringS_c (a := a.seen) (left := (subOr (subOr (subOr (subOr left (szCells a.store)) (szTxsH a.txs)) (szDiskH a.disk)) (szEntriesH a.history))) (RdA.mv (Nat.succ_pos _) Q22 (S1.trans (T10.trans (S19.trans (T33.trans S41))))) (by first | assumption | exact ⟨by omega, by omega⟩ | (unfold i64ok at *; omega)) (by first | assumption | omega | (simp <;> omega)) (by have q1 := subOr_bd left (szCells a.store) p0; have q2 := subOr_bd (subOr left (szCells a.store)) (szTxsH a.txs) (by omega); have q3 := subOr_bd (subOr (subOr left (szCells a.store)) (szTxsH a.txs)) (szDiskH a.disk) (by omega); have q4 := subOr_bd (subOr (subOr (subOr left (szCells a.store)) (szTxsH a.txs)) (szDiskH a.disk)) (szEntriesH a.history) (by omega); omega)) ?_)
         rintro _ w52 ⟨rfl, m52, q52_0⟩
         refine ⟨_, rfl, fun _ F53 => ?_⟩
         have S52 := At.frame0 S41.at' m52
         clear m52
         refine l_op (f_as F53 rfl rfl rfl rfl rfl fun _ F54 => ?_)
         have T55 : Mv _ _ [bx b1 [.slice a_Sa a_Sn a_Sc, .slice Q9 Q11 Q10, .slice Q0 Q2 Q1, .string a.disk.journal.text, .int .i64 a.disk.journal.sure, .int .i64 a.seq, .int .i64 a.next, .int .i64 a.time, .slice Q3 Q5 Q4, .slice Q6 Q8 Q7, .bool a.room] 32] _ := S52
         refine s_end (x_normal (wp_seq (wp_seq (wp_region_lit (l_op (f_mv F54 rfl rfl rfl rfl rfl fun _ F56 => ?_))))))
         refine l_op (f_val F56 rfl rfl (r_cmp (b := decide ((subOr (subOr (subOr (subOr (subOr left (szCells a.store)) (szTxsH a.txs)) (szDiskH a.disk)) (szEntriesH a.history)) (szStrs a.seen)) < 0)) (.inr (.inr (.inl rfl))) rfl (F56.ev 33 rfl) rfl (dec_of (by omega))) rfl fun _ F57 => ?_)
         refine s_end (x_normal (x_cond (p := (subOr (subOr (subOr (subOr (subOr left (szCells a.store)) (szTxsH a.txs)) (szDiskH a.disk)) (szEntriesH a.history)) (szStrs a.seen)) < 0) (F57.ev 34 rfl) (fun h58 => ?_) (fun h58 => ?_)))
         · skip
           refine wp_seq (wp_region_lit (l_op (f_val F57 rfl rfl (r_assign rfl rfl) rfl fun _ F59 => ?_)))
           refine s_end (x_normal (wp_ret (x_then_ret ?_)))
           refine x_done (v := .int .i64 (-1)) F59 (results_1 Tryz.results4 (.tmp (F59.ev 4 rfl))) ?_
           exact ⟨(by rw [(show (-1) = (subOr left (szKernelH a)) from by unfold szKernelH; exact (subOr_neg1 (by assumption)).trans (sz5_e (by assumption) (by assumption) (by assumption) (by assumption)))]), (Mv.pick (S1.trans (T10.trans (S19.trans (T33.trans (S41.trans T55))))) [] rfl), subOr_i64 p0 p1⟩
         · skip
           refine wp_skip (x_normal (wp_seq (wp_region_lit (l_op (f_mv F57 rfl rfl rfl rfl rfl fun _ F60 => ?_)))))
           refine l_op (f_as F60 rfl rfl rfl rfl rfl fun _ F61 => ?_)
           have F62 : Fr 36 [(4, .int .i64 (subOr (subOr (subOr (subOr (subOr left (szCells a.store)) (szTxsH a.txs)) (szDiskH a.disk)) (szEntriesH a.history)) (szStrs a.seen)))] _ := F61.cut rfl
           clear F46 F49 F50 F51 F53 F54 F56 F57 F60 F61
           refine s_end (x_normal (wp_ret ?_))
           refine x_done (v := .int .i64 (subOr (subOr (subOr (subOr (subOr left (szCells a.store)) (szTxsH a.txs)) (szDiskH a.disk)) (szEntriesH a.history)) (szStrs a.seen))) F62 (results_1 Tryz.results4 (.tmp (F62.ev 4 rfl))) ?_
           exact ⟨(by rw [(show (subOr (subOr (subOr (subOr (subOr left (szCells a.store)) (szTxsH a.txs)) (szDiskH a.disk)) (szEntriesH a.history)) (szStrs a.seen)) = (subOr left (szKernelH a)) from by unfold szKernelH; exact sz5_e (by assumption) (by assumption) (by assumption) (by assumption))]), (Mv.pick (S1.trans (T10.trans (S19.trans (T33.trans (S41.trans T55))))) [] rfl), subOr_i64 p0 p1⟩
theorem laws_toKernel_c {w : World} {H : Nat → Prop} {a : KernH} {a_Sa : Option Addr} {a_Sn a_Sc : Nat} {Q18 : Option Addr} {Q20 Q19 : Nat} {Q9 : Option Addr} {Q11 Q10 : Nat} {Q12 : Option Addr} {Q14 Q13 : Nat} {Q15 : Option Addr} {Q17 Q16 : Nat} (Q45 : RdA 2 encC okC H w (.slice a_Sa a_Sn a_Sc) a.store) (Q46 : RdA 10 encTx okTx H w (.slice Q18 Q20 Q19) a.txs) (Q63 : NRa inTx H w a.txs) (Q42 : RdA 3 encSlot okSlot H w (.slice Q9 Q11 Q10) a.disk.slots) (Q61 : NRa inSlot H w a.disk.slots) (Q56 : okS a.disk.journal.text) (Q55 : i64ok a.disk.journal.sure) (Q58 : i64ok a.seq) (Q57 : i64ok a.next) (Q59 : i64ok a.time) (Q43 : RdA 8 encEntry okEntry H w (.slice Q12 Q14 Q13) a.history) (Q62 : NRa inEntry H w a.history) (Q44 : RdA 1 encS okS H w (.slice Q15 Q17 Q16) a.seen) (p0 : a.store.length ≤ 1048576) (p1 : txsFit 1048576 (a.txs.map TxH.d)) (p2 : slotsFit 1048576 (a.disk.slots.map SlotH.d)) (p3 : entriesFit 1048576 (a.history.map EntryH.d)) (p4 : a.seen.length ≤ 1048576) :
    Calls Tryz.prog 6 #[.agg #[.slice a_Sa a_Sn a_Sc, .slice Q18 Q20 Q19, .slice Q9 Q11 Q10, .string a.disk.journal.text, .int .i64 a.disk.journal.sure, .int .i64 a.seq, .int .i64 a.next, .int .i64 a.time, .slice Q12 Q14 Q13, .slice Q15 Q17 Q16, .bool a.room]] w fun e w' => ∃ (DT : List TxH), ∃ (DS : List SlotH), ∃ (DE : List EntryH), ∃ (Q27 : Option Addr), ∃ (Q29 : Nat), ∃ (Q28 : Nat), ∃ (Q39 : Option Addr), ∃ (Q41 : Nat), ∃ (Q40 : Nat), ∃ (Q30 : Option Addr), ∃ (Q32 : Nat), ∃ (Q31 : Nat), ∃ (Q33 : Option Addr), ∃ (Q35 : Nat), ∃ (Q34 : Nat), ∃ (Q36 : Option Addr), ∃ (Q38 : Nat), ∃ (Q37 : Nat), e = .returned (.agg #[.slice Q27 Q29 Q28, .slice Q39 Q41 Q40, .slice Q30 Q32 Q31, .string a.disk.journal.text, .int .i64 a.disk.journal.sure, .int .i64 a.seq, .int .i64 a.next, .int .i64 a.time, .slice Q33 Q35 Q34, .slice Q36 Q38 Q37, .bool a.room]) ∧ Mv [] w [ow 90 2 encC okC (.slice Q27 Q29 Q28) a.store, ow 58 10 encTx okTx (.slice Q39 Q41 Q40) DT, gr inTx DT, ow 92 3 encSlot okSlot (.slice Q30 Q32 Q31) DS, gr inSlot DS, ow 102 8 encEntry okEntry (.slice Q33 Q35 Q34) DE, gr inEntry DE, ow 9 1 encS okS (.slice Q36 Q38 Q37) a.seen] w' ∧ okS a.disk.journal.text ∧ DT.map TxH.d = a.txs.map TxH.d ∧ DS.map SlotH.d = a.disk.slots.map SlotH.d ∧ DE.map EntryH.d = a.history.map EntryH.d ∧ i64ok a.disk.journal.sure ∧ i64ok a.seq ∧ i64ok a.next ∧ i64ok a.time := by
 have uU : True := (fun _ _ _ _ _ _ _ => trivial) Q55 Q58 Q57 Q59 p0 p2 p4
 clear uU
 have Q53 : RdA 2 encC okC (V H w []) w (.slice a_Sa a_Sn a_Sc) a.store := RdA.start Q45 (fun _ _ => fps_nil _)
 obtain ⟨Q72, Q67, Q92, Q97⟩ := RdA.inv Q45
 have Q54 : RdA 10 encTx okTx (V H w []) w (.slice Q18 Q20 Q19) a.txs := RdA.start Q46 (fun _ _ => fps_nil _)
 obtain ⟨Q73, Q68, Q93, Q98⟩ := RdA.inv Q46
 have Q50 : RdA 3 encSlot okSlot (V H w []) w (.slice Q9 Q11 Q10) a.disk.slots := RdA.start Q42 (fun _ _ => fps_nil _)
 obtain ⟨Q69, Q64, Q89, Q94⟩ := RdA.inv Q42
 have Q51 : RdA 8 encEntry okEntry (V H w []) w (.slice Q12 Q14 Q13) a.history := RdA.start Q43 (fun _ _ => fps_nil _)
 obtain ⟨Q70, Q65, Q90, Q95⟩ := RdA.inv Q43
 have Q52 : RdA 1 encS okS (V H w []) w (.slice Q15 Q17 Q16) a.seen := RdA.start Q44 (fun _ _ => fps_nil _)
 obtain ⟨Q71, Q66, Q91, Q96⟩ := RdA.inv Q44
 have Q49 : NRa inTx (V H w []) w a.txs := NRa.start Q63 (fun _ _ => fps_nil _)
 have Q47 : NRa inSlot (V H w []) w a.disk.slots := NRa.start Q61 (fun _ _ => fps_nil _)
 have Q48 : NRa inEntry (V H w []) w a.history := NRa.start Q62 (fun _ _ => fps_nil _)
 refine calls_enter 37 Tryz.func6 rfl Tryz.ntmps6 (Nat.le_of_ble_eq_true rfl) (fun _ F0i => ?_)
 have F0 : Fr 37 [(0, .agg #[.slice a_Sa a_Sn a_Sc, .slice Q18 Q20 Q19, .slice Q9 Q11 Q10, .string a.disk.journal.text, .int .i64 a.disk.journal.sure, .int .i64 a.seq, .int .i64 a.next, .int .i64 a.time, .slice Q12 Q14 Q13, .slice Q15 Q17 Q16, .bool a.room])] _ := F0i
 clear F0i
 refine wp_seq (wp_region_lit (l_op (f_box F0 (At.nil w) rfl rfl rfl (F0.ev 0 rfl) rfl rfl fun b1 _ w1 F2 S1 => ?_)))
 refine l_op (f_alloc F2 S1.at' ZI_43 rfl rfl rfl rfl rfl fun b3 _ w3 F4 S3 => ?_)
 have T5 : Mv _ _ [bx b3 [.slice none 0 0, .slice none 0 0, .slice none 0 0, .string (⟨#[]⟩ : ByteArray), .int .i64 0, .int .i64 0, .int .i64 0, .int .i64 0, .slice none 0 0, .slice none 0 0, .bool false] 43, bx b1 [.slice a_Sa a_Sn a_Sc, .slice Q18 Q20 Q19, .slice Q9 Q11 Q10, .string a.disk.journal.text, .int .i64 a.disk.journal.sure, .int .i64 a.seq, .int .i64 a.next, .int .i64 a.time, .slice Q12 Q14 Q13, .slice Q15 Q17 Q16, .bool a.room] 32] _ := S3
 refine s_end (x_normal (wp_seq (wp_region_lit (l_op (f_alloc F4 T5.at' ZI_43 rfl rfl rfl rfl rfl fun b6 _ w6 F7 S6 => ?_)))))
 refine s_end (x_normal (wp_seq (wp_region_lit (l_op (f_val F7 rfl rfl (r_field FI_32_0 rfl (F7.ev 1 rfl) rfl) rfl fun _ F8 => ?_)))))
 refine l_op (f_val (v := .slice a_Sa a_Sn a_Sc) F8 rfl rfl (r_loadB S6.at' 2 TI_22 rfl rfl (F8.ev 4 rfl) rfl rfl (fun _ => rfl) rfl) rfl fun _ F9 => ?_)
 refine l_op (f_call F9 CF_19 rfl rfl rfl rfl (lc (F9.ev 5 rfl) rfl) (laws_toCellS_c (a := a.store) (RdA.mv (Nat.succ_pos _) Q53 (S1.trans (T5.trans S6))) (by first | assumption | omega | (simp <;> omega))) ?_)
 rintro _ w10 ⟨Q0, Q2, Q1, rfl, m10⟩
 refine ⟨_, rfl, fun _ F11 => ?_⟩
 have S10 : Mv _ _ [ow 90 2 encC okC (.slice Q0 Q2 Q1) a.store, bx b6 [.slice none 0 0, .slice none 0 0, .slice none 0 0, .string (⟨#[]⟩ : ByteArray), .int .i64 0, .int .i64 0, .int .i64 0, .int .i64 0, .slice none 0 0, .slice none 0 0, .bool false] 43, bx b3 [.slice none 0 0, .slice none 0 0, .slice none 0 0, .string (⟨#[]⟩ : ByteArray), .int .i64 0, .int .i64 0, .int .i64 0, .int .i64 0, .slice none 0 0, .slice none 0 0, .bool false] 43, bx b1 [.slice a_Sa a_Sn a_Sc, .slice Q18 Q20 Q19, .slice Q9 Q11 Q10, .string a.disk.journal.text, .int .i64 a.disk.journal.sure, .int .i64 a.seq, .int .i64 a.next, .int .i64 a.time, .slice Q12 Q14 Q13, .slice Q15 Q17 Q16, .bool a.room] 32] _ := At.frame S6.at' [] rfl m10
 obtain ⟨Q74, Q79, Q84⟩ := At.ownInv S10.at' ET_35.hk 0 rfl
 clear m10
 refine l_op (f_val F11 rfl rfl (r_field FI_43_0 rfl (F11.ev 3 rfl) rfl) rfl fun _ F12 => ?_)
 refine l_op (s_store S10.at' 1 TI_35 rfl rfl rfl rfl rfl (F12.ev 7 rfl) (F12.ev 6 rfl) rfl rfl rfl rfl rfl fun w13 S13 => ?_)
 have T14 : Mv _ _ [bx b6 [.slice Q0 Q2 Q1, .slice none 0 0, .slice none 0 0, .string (⟨#[]⟩ : ByteArray), .int .i64 0, .int .i64 0, .int .i64 0, .int .i64 0, .slice none 0 0, .slice none 0 0, .bool false] 43, ow 90 2 encC okC (.slice Q0 Q2 Q1) a.store, bx b3 [.slice none 0 0, .slice none 0 0, .slice none 0 0, .string (⟨#[]⟩ : ByteArray), .int .i64 0, .int .i64 0, .int .i64 0, .int .i64 0, .slice none 0 0, .slice none 0 0, .bool false] 43, bx b1 [.slice a_Sa a_Sn a_Sc, .slice Q18 Q20 Q19, .slice Q9 Q11 Q10, .string a.disk.journal.text, .int .i64 a.disk.journal.sure, .int .i64 a.seq, .int .i64 a.next, .int .i64 a.time, .slice Q12 Q14 Q13, .slice Q15 Q17 Q16, .bool a.room] 32] _ := S13
 refine s_end (x_normal (wp_seq (wp_region_lit (l_op (f_val F12 rfl rfl (r_field FI_32_1 rfl (F12.ev 1 rfl) rfl) rfl fun _ F15 => ?_)))))
 refine l_op (f_val (v := .slice Q18 Q20 Q19) F15 rfl rfl (r_loadB T14.at' 3 TI_23 rfl rfl (F15.ev 8 rfl) rfl rfl (fun _ => rfl) rfl) rfl fun _ F16 => ?_)
 refine l_op (f_call F16 CF_20 rfl rfl rfl rfl (lc (F16.ev 9 rfl) rfl) (laws_toTxS_c (a := a.txs) (RdA.mv (Nat.succ_pos _) Q54 (S1.trans (T5.trans (S6.trans (S10.trans T14))))) (NRa.mv Q49 (S1.trans (T5.trans (S6.trans (S10.trans T14))))) (by exact p1.len) (by first | assumption | omega | (simp <;> omega))) ?_)
 rintro _ w17 ⟨D_17, Q3, Q5, Q4, rfl, m17, q17_0, q17_1⟩
 refine ⟨_, rfl, fun _ F18 => ?_⟩
 have S17 : Mv _ _ [ow 58 10 encTx okTx (.slice Q3 Q5 Q4) D_17, gr inTx D_17, bx b6 [.slice Q0 Q2 Q1, .slice none 0 0, .slice none 0 0, .string (⟨#[]⟩ : ByteArray), .int .i64 0, .int .i64 0, .int .i64 0, .int .i64 0, .slice none 0 0, .slice none 0 0, .bool false] 43, ow 90 2 encC okC (.slice Q0 Q2 Q1) a.store, bx b3 [.slice none 0 0, .slice none 0 0, .slice none 0 0, .string (⟨#[]⟩ : ByteArray), .int .i64 0, .int .i64 0, .int .i64 0, .int .i64 0, .slice none 0 0, .slice none 0 0, .bool false] 43, bx b1 [.slice a_Sa a_Sn a_Sc, .slice Q18 Q20 Q19, .slice Q9 Q11 Q10, .string a.disk.journal.text, .int .i64 a.disk.journal.sure, .int .i64 a.seq, .int .i64 a.next, .int .i64 a.time, .slice Q12 Q14 Q13, .slice Q15 Q17 Q16, .bool a.room] 32] _ := At.frame T14.at' [] rfl m17
 obtain ⟨Q75, Q80, Q85⟩ := At.ownInv S17.at' ET_36.hk 0 rfl
 clear m17
 refine l_op (f_val F18 rfl rfl (r_field FI_43_1 rfl (F18.ev 3 rfl) rfl) rfl fun _ F19 => ?_)
 refine l_op (s_store S17.at' 2 TI_36 rfl rfl rfl rfl rfl (F19.ev 11 rfl) (F19.ev 10 rfl) rfl rfl rfl rfl rfl fun w20 S20 => ?_)
 have F21 : Fr 37 [(11, .pointer (some ⟨b6, 1, none⟩)), (10, .slice Q3 Q5 Q4), (3, .pointer (some ⟨b6, 0, none⟩)), (2, .pointer (some ⟨b3, 0, none⟩)), (1, .pointer (some ⟨b1, 0, none⟩))] _ := F19.cut rfl
 clear F0 F2 F4 F7 F8 F9 F11 F12 F15 F16 F18 F19
 have T22 : Mv _ _ [bx b6 [.slice Q0 Q2 Q1, .slice Q3 Q5 Q4, .slice none 0 0, .string (⟨#[]⟩ : ByteArray), .int .i64 0, .int .i64 0, .int .i64 0, .int .i64 0, .slice none 0 0, .slice none 0 0, .bool false] 43, ow 58 10 encTx okTx (.slice Q3 Q5 Q4) D_17, gr inTx D_17, ow 90 2 encC okC (.slice Q0 Q2 Q1) a.store, bx b3 [.slice none 0 0, .slice none 0 0, .slice none 0 0, .string (⟨#[]⟩ : ByteArray), .int .i64 0, .int .i64 0, .int .i64 0, .int .i64 0, .slice none 0 0, .slice none 0 0, .bool false] 43, bx b1 [.slice a_Sa a_Sn a_Sc, .slice Q18 Q20 Q19, .slice Q9 Q11 Q10, .string a.disk.journal.text, .int .i64 a.disk.journal.sure, .int .i64 a.seq, .int .i64 a.next, .int .i64 a.time, .slice Q12 Q14 Q13, .slice Q15 Q17 Q16, .bool a.room] 32] _ := S20
 refine s_end (x_normal (wp_seq (wp_region_lit (l_op (f_val F21 rfl rfl (r_field FI_32_2 rfl (F21.ev 1 rfl) rfl) rfl fun _ F23 => ?_)))))
 refine l_op (f_val (v := .agg #[.slice Q9 Q11 Q10, .string a.disk.journal.text, .int .i64 a.disk.journal.sure]) F23 rfl rfl (r_loadB T22.at' 5 TI_28 rfl rfl (F23.ev 12 rfl) rfl rfl (fun h => nomatch h) rfl) rfl fun _ F24 => ?_)
 refine l_op (f_call F24 CF_21 rfl rfl rfl rfl (lc (F24.ev 13 rfl) rfl) (laws_toDisk_c (a := a.disk) (RdA.mv (Nat.succ_pos _) Q50 (S1.trans (T5.trans (S6.trans (S10.trans (T14.trans (S17.trans T22))))))) (NRa.mv Q47 (S1.trans (T5.trans (S6.trans (S10.trans (T14.trans (S17.trans T22))))))) Q56 (by first | assumption | exact ⟨by omega, by omega⟩ | (unfold i64ok at *; omega) | (simp only [i64ok]; omega)) (by first | assumption | omega | (simp <;> omega))) ?_)
 rintro _ w25 ⟨D_25, Q6, Q8, Q7, rfl, m25, Q60, q25_0, q25_1, q25_2⟩
 refine ⟨_, rfl, fun _ F26 => ?_⟩
 have S25 : Mv _ _ [ow 92 3 encSlot okSlot (.slice Q6 Q8 Q7) D_25, gr inSlot D_25, bx b6 [.slice Q0 Q2 Q1, .slice Q3 Q5 Q4, .slice none 0 0, .string (⟨#[]⟩ : ByteArray), .int .i64 0, .int .i64 0, .int .i64 0, .int .i64 0, .slice none 0 0, .slice none 0 0, .bool false] 43, ow 58 10 encTx okTx (.slice Q3 Q5 Q4) D_17, gr inTx D_17, ow 90 2 encC okC (.slice Q0 Q2 Q1) a.store, bx b3 [.slice none 0 0, .slice none 0 0, .slice none 0 0, .string (⟨#[]⟩ : ByteArray), .int .i64 0, .int .i64 0, .int .i64 0, .int .i64 0, .slice none 0 0, .slice none 0 0, .bool false] 43, bx b1 [.slice a_Sa a_Sn a_Sc, .slice Q18 Q20 Q19, .slice Q9 Q11 Q10, .string a.disk.journal.text, .int .i64 a.disk.journal.sure, .int .i64 a.seq, .int .i64 a.next, .int .i64 a.time, .slice Q12 Q14 Q13, .slice Q15 Q17 Q16, .bool a.room] 32] _ := At.frame T22.at' [] rfl m25
 obtain ⟨Q76, Q81, Q86⟩ := At.ownInv S25.at' ET_37.hk 0 rfl
 clear m25
 refine l_op (f_val F26 rfl rfl (r_field FI_43_2 rfl (F26.ev 3 rfl) rfl) rfl fun _ F27 => ?_)
 refine l_op (s_store S25.at' 2 TI_40 rfl rfl rfl rfl rfl (F27.ev 15 rfl) (F27.ev 14 rfl) rfl rfl rfl rfl rfl fun w28 S28 => ?_)
 have T29 : Mv _ _ [bx b6 [.slice Q0 Q2 Q1, .slice Q3 Q5 Q4, .slice Q6 Q8 Q7, .string a.disk.journal.text, .int .i64 a.disk.journal.sure, .int .i64 0, .int .i64 0, .int .i64 0, .slice none 0 0, .slice none 0 0, .bool false] 43, ow 92 3 encSlot okSlot (.slice Q6 Q8 Q7) D_25, gr inSlot D_25, ow 58 10 encTx okTx (.slice Q3 Q5 Q4) D_17, gr inTx D_17, ow 90 2 encC okC (.slice Q0 Q2 Q1) a.store, bx b3 [.slice none 0 0, .slice none 0 0, .slice none 0 0, .string (⟨#[]⟩ : ByteArray), .int .i64 0, .int .i64 0, .int .i64 0, .int .i64 0, .slice none 0 0, .slice none 0 0, .bool false] 43, bx b1 [.slice a_Sa a_Sn a_Sc, .slice Q18 Q20 Q19, .slice Q9 Q11 Q10, .string a.disk.journal.text, .int .i64 a.disk.journal.sure, .int .i64 a.seq, .int .i64 a.next, .int .i64 a.time, .slice Q12 Q14 Q13, .slice Q15 Q17 Q16, .bool a.room] 32] _ := S28
 refine s_end (x_normal (wp_seq (wp_region_lit (l_op (f_val F27 rfl rfl (r_field FI_32_3 rfl (F27.ev 1 rfl) rfl) rfl fun _ F30 => ?_)))))
 refine l_op (f_val (v := .int .i64 a.seq) F30 rfl rfl (r_loadB T29.at' 7 TI_3 rfl rfl (F30.ev 16 rfl) rfl rfl (fun _ => rfl) rfl) rfl fun _ F31 => ?_)
 refine l_op (f_val F31 rfl rfl (r_field FI_43_3 rfl (F31.ev 3 rfl) rfl) rfl fun _ F32 => ?_)
 refine l_op (s_store T29.at' 0 TI_3 rfl rfl rfl rfl rfl (F32.ev 18 rfl) (F32.ev 17 rfl) rfl rfl rfl rfl rfl fun w33 S33 => ?_)
 refine s_end (x_normal (wp_seq (wp_region_lit (l_op (f_val F32 rfl rfl (r_field FI_32_4 rfl (F32.ev 1 rfl) rfl) rfl fun _ F34 => ?_)))))
 refine l_op (f_val (v := .int .i64 a.next) F34 rfl rfl (r_loadB S33.at' 7 TI_3 rfl rfl (F34.ev 19 rfl) rfl rfl (fun _ => rfl) rfl) rfl fun _ F35 => ?_)
 refine l_op (f_val F35 rfl rfl (r_field FI_43_4 rfl (F35.ev 3 rfl) rfl) rfl fun _ F36 => ?_)
 refine l_op (s_store S33.at' 0 TI_3 rfl rfl rfl rfl rfl (F36.ev 21 rfl) (F36.ev 20 rfl) rfl rfl rfl rfl rfl fun w37 S37 => ?_)
 have F38 : Fr 37 [(21, .pointer (some ⟨b6, 6, none⟩)), (20, .int .i64 a.next), (3, .pointer (some ⟨b6, 0, none⟩)), (2, .pointer (some ⟨b3, 0, none⟩)), (1, .pointer (some ⟨b1, 0, none⟩))] _ := F36.cut rfl
 clear F21 F23 F24 F26 F27 F30 F31 F32 F34 F35 F36
 have T39 : Mv _ _ [bx b6 [.slice Q0 Q2 Q1, .slice Q3 Q5 Q4, .slice Q6 Q8 Q7, .string a.disk.journal.text, .int .i64 a.disk.journal.sure, .int .i64 a.seq, .int .i64 a.next, .int .i64 0, .slice none 0 0, .slice none 0 0, .bool false] 43, ow 92 3 encSlot okSlot (.slice Q6 Q8 Q7) D_25, gr inSlot D_25, ow 58 10 encTx okTx (.slice Q3 Q5 Q4) D_17, gr inTx D_17, ow 90 2 encC okC (.slice Q0 Q2 Q1) a.store, bx b3 [.slice none 0 0, .slice none 0 0, .slice none 0 0, .string (⟨#[]⟩ : ByteArray), .int .i64 0, .int .i64 0, .int .i64 0, .int .i64 0, .slice none 0 0, .slice none 0 0, .bool false] 43, bx b1 [.slice a_Sa a_Sn a_Sc, .slice Q18 Q20 Q19, .slice Q9 Q11 Q10, .string a.disk.journal.text, .int .i64 a.disk.journal.sure, .int .i64 a.seq, .int .i64 a.next, .int .i64 a.time, .slice Q12 Q14 Q13, .slice Q15 Q17 Q16, .bool a.room] 32] _ := S37
 refine s_end (x_normal (wp_seq (wp_region_lit (l_op (f_val F38 rfl rfl (r_field FI_32_5 rfl (F38.ev 1 rfl) rfl) rfl fun _ F40 => ?_)))))
 refine l_op (f_val (v := .int .i64 a.time) F40 rfl rfl (r_loadB T39.at' 7 TI_3 rfl rfl (F40.ev 22 rfl) rfl rfl (fun _ => rfl) rfl) rfl fun _ F41 => ?_)
 refine l_op (f_val F41 rfl rfl (r_field FI_43_5 rfl (F41.ev 3 rfl) rfl) rfl fun _ F42 => ?_)
 refine l_op (s_store T39.at' 0 TI_3 rfl rfl rfl rfl rfl (F42.ev 24 rfl) (F42.ev 23 rfl) rfl rfl rfl rfl rfl fun w43 S43 => ?_)
 refine s_end (x_normal (wp_seq (wp_region_lit (l_op (f_val F42 rfl rfl (r_field FI_32_6 rfl (F42.ev 1 rfl) rfl) rfl fun _ F44 => ?_)))))
 refine l_op (f_val (v := .slice Q12 Q14 Q13) F44 rfl rfl (r_loadB S43.at' 7 TI_29 rfl rfl (F44.ev 25 rfl) rfl rfl (fun _ => rfl) rfl) rfl fun _ F45 => ?_)
 refine l_op (f_call F45 CF_22 rfl rfl rfl rfl (lc (F45.ev 26 rfl) rfl) (laws_toEntryS_c (a := a.history) (RdA.mv (Nat.succ_pos _) Q51 (S1.trans (T5.trans (S6.trans (S10.trans (T14.trans (S17.trans (T22.trans (S25.trans (T29.trans (S33.trans (T39.trans S43)))))))))))) (NRa.mv Q48 (S1.trans (T5.trans (S6.trans (S10.trans (T14.trans (S17.trans (T22.trans (S25.trans (T29.trans (S33.trans (T39.trans S43)))))))))))) (by exact p3.len) (by first | assumption | omega | (simp <;> omega))) ?_)
 rintro _ w46 ⟨D_46, Q21, Q23, Q22, rfl, m46, q46_0, q46_1⟩
 refine ⟨_, rfl, fun _ F47 => ?_⟩
 have S46 : Mv _ _ [ow 102 8 encEntry okEntry (.slice Q21 Q23 Q22) D_46, gr inEntry D_46, bx b6 [.slice Q0 Q2 Q1, .slice Q3 Q5 Q4, .slice Q6 Q8 Q7, .string a.disk.journal.text, .int .i64 a.disk.journal.sure, .int .i64 a.seq, .int .i64 a.next, .int .i64 a.time, .slice none 0 0, .slice none 0 0, .bool false] 43, ow 92 3 encSlot okSlot (.slice Q6 Q8 Q7) D_25, gr inSlot D_25, ow 58 10 encTx okTx (.slice Q3 Q5 Q4) D_17, gr inTx D_17, ow 90 2 encC okC (.slice Q0 Q2 Q1) a.store, bx b3 [.slice none 0 0, .slice none 0 0, .slice none 0 0, .string (⟨#[]⟩ : ByteArray), .int .i64 0, .int .i64 0, .int .i64 0, .int .i64 0, .slice none 0 0, .slice none 0 0, .bool false] 43, bx b1 [.slice a_Sa a_Sn a_Sc, .slice Q18 Q20 Q19, .slice Q9 Q11 Q10, .string a.disk.journal.text, .int .i64 a.disk.journal.sure, .int .i64 a.seq, .int .i64 a.next, .int .i64 a.time, .slice Q12 Q14 Q13, .slice Q15 Q17 Q16, .bool a.room] 32] _ := At.frame S43.at' [] rfl m46
 obtain ⟨Q77, Q82, Q87⟩ := At.ownInv S46.at' ET_41.hk 0 rfl
 clear m46
 refine l_op (f_val F47 rfl rfl (r_field FI_43_6 rfl (F47.ev 3 rfl) rfl) rfl fun _ F48 => ?_)
 refine l_op (s_store S46.at' 2 TI_41 rfl rfl rfl rfl rfl (F48.ev 28 rfl) (F48.ev 27 rfl) rfl rfl rfl rfl rfl fun w49 S49 => ?_)
 have T50 : Mv _ _ [bx b6 [.slice Q0 Q2 Q1, .slice Q3 Q5 Q4, .slice Q6 Q8 Q7, .string a.disk.journal.text, .int .i64 a.disk.journal.sure, .int .i64 a.seq, .int .i64 a.next, .int .i64 a.time, .slice Q21 Q23 Q22, .slice none 0 0, .bool false] 43, ow 102 8 encEntry okEntry (.slice Q21 Q23 Q22) D_46, gr inEntry D_46, ow 92 3 encSlot okSlot (.slice Q6 Q8 Q7) D_25, gr inSlot D_25, ow 58 10 encTx okTx (.slice Q3 Q5 Q4) D_17, gr inTx D_17, ow 90 2 encC okC (.slice Q0 Q2 Q1) a.store, bx b3 [.slice none 0 0, .slice none 0 0, .slice none 0 0, .string (⟨#[]⟩ : ByteArray), .int .i64 0, .int .i64 0, .int .i64 0, .int .i64 0, .slice none 0 0, .slice none 0 0, .bool false] 43, bx b1 [.slice a_Sa a_Sn a_Sc, .slice Q18 Q20 Q19, .slice Q9 Q11 Q10, .string a.disk.journal.text, .int .i64 a.disk.journal.sure, .int .i64 a.seq, .int .i64 a.next, .int .i64 a.time, .slice Q12 Q14 Q13, .slice Q15 Q17 Q16, .bool a.room] 32] _ := S49
 refine s_end (x_normal (wp_seq (wp_region_lit (l_op (f_val F48 rfl rfl (r_field FI_32_7 rfl (F48.ev 1 rfl) rfl) rfl fun _ F51 => ?_)))))
 refine l_op (f_val (v := .slice Q15 Q17 Q16) F51 rfl rfl (r_loadB T50.at' 9 TI_30 rfl rfl (F51.ev 29 rfl) rfl rfl (fun _ => rfl) rfl) rfl fun _ F52 => ?_)
 refine l_op (f_call F52 CF_23 rfl rfl rfl rfl (lc (F52.ev 30 rfl) rfl) (laws_toStringS_c (a := a.seen) (RdA.mv (Nat.succ_pos _) Q52 (S1.trans (T5.trans (S6.trans (S10.trans (T14.trans (S17.trans (T22.trans (S25.trans (T29.trans (S33.trans (T39.trans (S43.trans (S46.trans T50)))))))))))))) (by first | assumption | omega | (simp <;> omega))) ?_)
 rintro _ w53 ⟨Q24, Q26, Q25, rfl, m53⟩
 refine ⟨_, rfl, fun _ F54 => ?_⟩
 have S53 : Mv _ _ [ow 9 1 encS okS (.slice Q24 Q26 Q25) a.seen, bx b6 [.slice Q0 Q2 Q1, .slice Q3 Q5 Q4, .slice Q6 Q8 Q7, .string a.disk.journal.text, .int .i64 a.disk.journal.sure, .int .i64 a.seq, .int .i64 a.next, .int .i64 a.time, .slice Q21 Q23 Q22, .slice none 0 0, .bool false] 43, ow 102 8 encEntry okEntry (.slice Q21 Q23 Q22) D_46, gr inEntry D_46, ow 92 3 encSlot okSlot (.slice Q6 Q8 Q7) D_25, gr inSlot D_25, ow 58 10 encTx okTx (.slice Q3 Q5 Q4) D_17, gr inTx D_17, ow 90 2 encC okC (.slice Q0 Q2 Q1) a.store, bx b3 [.slice none 0 0, .slice none 0 0, .slice none 0 0, .string (⟨#[]⟩ : ByteArray), .int .i64 0, .int .i64 0, .int .i64 0, .int .i64 0, .slice none 0 0, .slice none 0 0, .bool false] 43, bx b1 [.slice a_Sa a_Sn a_Sc, .slice Q18 Q20 Q19, .slice Q9 Q11 Q10, .string a.disk.journal.text, .int .i64 a.disk.journal.sure, .int .i64 a.seq, .int .i64 a.next, .int .i64 a.time, .slice Q12 Q14 Q13, .slice Q15 Q17 Q16, .bool a.room] 32] _ := At.frame T50.at' [] rfl m53
 obtain ⟨Q78, Q83, Q88⟩ := At.ownInv S53.at' ET_30.hk 0 rfl
 clear m53
 refine l_op (f_val F54 rfl rfl (r_field FI_43_7 rfl (F54.ev 3 rfl) rfl) rfl fun _ F55 => ?_)
 refine l_op (s_store S53.at' 1 TI_30 rfl rfl rfl rfl rfl (F55.ev 32 rfl) (F55.ev 31 rfl) rfl rfl rfl rfl rfl fun w56 S56 => ?_)
 have F57 : Fr 37 [(32, .pointer (some ⟨b6, 9, none⟩)), (31, .slice Q24 Q26 Q25), (3, .pointer (some ⟨b6, 0, none⟩)), (2, .pointer (some ⟨b3, 0, none⟩)), (1, .pointer (some ⟨b1, 0, none⟩))] _ := F55.cut rfl
 clear F38 F40 F41 F42 F44 F45 F47 F48 F51 F52 F54 F55
 have T58 : Mv _ _ [bx b6 [.slice Q0 Q2 Q1, .slice Q3 Q5 Q4, .slice Q6 Q8 Q7, .string a.disk.journal.text, .int .i64 a.disk.journal.sure, .int .i64 a.seq, .int .i64 a.next, .int .i64 a.time, .slice Q21 Q23 Q22, .slice Q24 Q26 Q25, .bool false] 43, ow 9 1 encS okS (.slice Q24 Q26 Q25) a.seen, ow 102 8 encEntry okEntry (.slice Q21 Q23 Q22) D_46, gr inEntry D_46, ow 92 3 encSlot okSlot (.slice Q6 Q8 Q7) D_25, gr inSlot D_25, ow 58 10 encTx okTx (.slice Q3 Q5 Q4) D_17, gr inTx D_17, ow 90 2 encC okC (.slice Q0 Q2 Q1) a.store, bx b3 [.slice none 0 0, .slice none 0 0, .slice none 0 0, .string (⟨#[]⟩ : ByteArray), .int .i64 0, .int .i64 0, .int .i64 0, .int .i64 0, .slice none 0 0, .slice none 0 0, .bool false] 43, bx b1 [.slice a_Sa a_Sn a_Sc, .slice Q18 Q20 Q19, .slice Q9 Q11 Q10, .string a.disk.journal.text, .int .i64 a.disk.journal.sure, .int .i64 a.seq, .int .i64 a.next, .int .i64 a.time, .slice Q12 Q14 Q13, .slice Q15 Q17 Q16, .bool a.room] 32] _ := S56
 refine s_end (x_normal (wp_seq (wp_region_lit (l_op (f_val F57 rfl rfl (r_field FI_32_8 rfl (F57.ev 1 rfl) rfl) rfl fun _ F59 => ?_)))))
 refine l_op (f_val (v := .bool a.room) F59 rfl rfl (r_loadB T58.at' 10 TI_4 rfl rfl (F59.ev 33 rfl) rfl rfl (fun _ => rfl) rfl) rfl fun _ F60 => ?_)
 refine l_op (f_val F60 rfl rfl (r_field FI_43_8 rfl (F60.ev 3 rfl) rfl) rfl fun _ F61 => ?_)
 refine l_op (s_store T58.at' 0 TI_4 rfl rfl rfl rfl rfl (F61.ev 35 rfl) (F61.ev 34 rfl) rfl rfl rfl rfl rfl fun w62 S62 => ?_)
 refine s_end (x_normal (wp_seq (wp_region_lit (l_op (f_val (v := .agg #[.slice Q0 Q2 Q1, .slice Q3 Q5 Q4, .slice Q6 Q8 Q7, .string a.disk.journal.text, .int .i64 a.disk.journal.sure, .int .i64 a.seq, .int .i64 a.next, .int .i64 a.time, .slice Q21 Q23 Q22, .slice Q24 Q26 Q25, .bool a.room]) F61 rfl rfl (r_loadB S62.at' 0 TI_43 rfl rfl (F61.ev 3 rfl) rfl rfl (fun h => nomatch h) rfl) rfl fun _ F63 => ?_)))))
 refine l_op (s_store S62.at' 9 TI_43 rfl rfl rfl rfl rfl (F63.ev 2 rfl) (F63.ev 36 rfl) rfl rfl rfl rfl rfl fun w64 S64 => ?_)
 have T65 : Mv _ _ [bx b3 [.slice Q0 Q2 Q1, .slice Q3 Q5 Q4, .slice Q6 Q8 Q7, .string a.disk.journal.text, .int .i64 a.disk.journal.sure, .int .i64 a.seq, .int .i64 a.next, .int .i64 a.time, .slice Q21 Q23 Q22, .slice Q24 Q26 Q25, .bool a.room] 43, bx b6 [.slice Q0 Q2 Q1, .slice Q3 Q5 Q4, .slice Q6 Q8 Q7, .string a.disk.journal.text, .int .i64 a.disk.journal.sure, .int .i64 a.seq, .int .i64 a.next, .int .i64 a.time, .slice Q21 Q23 Q22, .slice Q24 Q26 Q25, .bool a.room] 43, ow 9 1 encS okS (.slice Q24 Q26 Q25) a.seen, ow 102 8 encEntry okEntry (.slice Q21 Q23 Q22) D_46, gr inEntry D_46, ow 92 3 encSlot okSlot (.slice Q6 Q8 Q7) D_25, gr inSlot D_25, ow 58 10 encTx okTx (.slice Q3 Q5 Q4) D_17, gr inTx D_17, ow 90 2 encC okC (.slice Q0 Q2 Q1) a.store, bx b1 [.slice a_Sa a_Sn a_Sc, .slice Q18 Q20 Q19, .slice Q9 Q11 Q10, .string a.disk.journal.text, .int .i64 a.disk.journal.sure, .int .i64 a.seq, .int .i64 a.next, .int .i64 a.time, .slice Q12 Q14 Q13, .slice Q15 Q17 Q16, .bool a.room] 32] _ := S64
 refine s_end (x_normal (wp_ret ?_))
 refine x_done (v := .agg #[.slice Q0 Q2 Q1, .slice Q3 Q5 Q4, .slice Q6 Q8 Q7, .string a.disk.journal.text, .int .i64 a.disk.journal.sure, .int .i64 a.seq, .int .i64 a.next, .int .i64 a.time, .slice Q21 Q23 Q22, .slice Q24 Q26 Q25, .bool a.room]) F63 (results_1 Tryz.results6 (.cell (F63.ev 2 rfl) (run_loadVar' TI_43 _ [.slice Q0 Q2 Q1, .slice Q3 Q5 Q4, .slice Q6 Q8 Q7, .string a.disk.journal.text, .int .i64 a.disk.journal.sure, .int .i64 a.seq, .int .i64 a.next, .int .i64 a.time, .slice Q21 Q23 Q22, .slice Q24 Q26 Q25, .bool a.room] rfl (fun h => nomatch h) (At.cells T65.at' 0 rfl 0 [.slice Q0 Q2 Q1, .slice Q3 Q5 Q4, .slice Q6 Q8 Q7, .string a.disk.journal.text, .int .i64 a.disk.journal.sure, .int .i64 a.seq, .int .i64 a.next, .int .i64 a.time, .slice Q21 Q23 Q22, .slice Q24 Q26 Q25, .bool a.room] rfl)))) ?_
 exact ⟨D_17, D_25, D_46, Q0, Q2, Q1, Q3, Q5, Q4, Q6, Q8, Q7, Q21, Q23, Q22, Q24, Q26, Q25, rfl, (Mv.pick (S1.trans (T5.trans (S6.trans (S10.trans (T14.trans (S17.trans (T22.trans (S25.trans (T29.trans (S33.trans (T39.trans (S43.trans (S46.trans (T50.trans (S53.trans (T58.trans (S62.trans T65))))))))))))))))) [9, 7, 8, 5, 6, 3, 4, 2] rfl), Q60, by first | assumption | exact w64_ok _ | omega | (unfold i64ok; omega), by first | assumption | exact w64_ok _ | omega | (unfold i64ok; omega), by first | assumption | exact w64_ok _ | omega | (unfold i64ok; omega), by first | assumption | exact w64_ok _ | omega | (unfold i64ok; omega), by first | assumption | exact w64_ok _ | omega | (unfold i64ok; omega), by first | assumption | exact w64_ok _ | omega | (unfold i64ok; omega), by first | assumption | exact w64_ok _ | omega | (unfold i64ok; omega)⟩
theorem laws_eqKernel_c {w : World} {H : Nat → Prop} {a : KernH} {a_Sa : Option Addr} {a_Sn a_Sc : Nat} {Q9 : Option Addr} {Q11 Q10 : Nat} {Q0 : Option Addr} {Q2 Q1 : Nat} {Q3 : Option Addr} {Q5 Q4 : Nat} {Q6 : Option Addr} {Q8 Q7 : Nat} {b : KernH} {b_Sa : Option Addr} {b_Sn b_Sc : Nat} {Q21 : Option Addr} {Q23 Q22 : Nat} {Q12 : Option Addr} {Q14 Q13 : Nat} {Q15 : Option Addr} {Q17 Q16 : Nat} {Q18 : Option Addr} {Q20 Q19 : Nat} (Q27 : Rd 2 encC okC H w (.slice a_Sa a_Sn a_Sc) a.store) (Q28 : Rd 10 encTx okTx H w (.slice Q9 Q11 Q10) a.txs) (Q62 : NRd inTx H w a.txs) (Q24 : Rd 3 encSlot okSlot H w (.slice Q0 Q2 Q1) a.disk.slots) (Q60 : NRd inSlot H w a.disk.slots) (Q51 : okS a.disk.journal.text) (Q50 : i64ok a.disk.journal.sure) (Q53 : i64ok a.seq) (Q52 : i64ok a.next) (Q54 : i64ok a.time) (Q25 : Rd 8 encEntry okEntry H w (.slice Q3 Q5 Q4) a.history) (Q61 : NRd inEntry H w a.history) (Q26 : Rd 1 encS okS H w (.slice Q6 Q8 Q7) a.seen) (Q32 : Rd 2 encC okC H w (.slice b_Sa b_Sn b_Sc) b.store) (Q33 : Rd 10 encTx okTx H w (.slice Q21 Q23 Q22) b.txs) (Q65 : NRd inTx H w b.txs) (Q29 : Rd 3 encSlot okSlot H w (.slice Q12 Q14 Q13) b.disk.slots) (Q63 : NRd inSlot H w b.disk.slots) (Q56 : okS b.disk.journal.text) (Q55 : i64ok b.disk.journal.sure) (Q58 : i64ok b.seq) (Q57 : i64ok b.next) (Q59 : i64ok b.time) (Q30 : Rd 8 encEntry okEntry H w (.slice Q15 Q17 Q16) b.history) (Q64 : NRd inEntry H w b.history) (Q31 : Rd 1 encS okS H w (.slice Q18 Q20 Q19) b.seen) (p0 : a.store = b.store) (p1 : a.txs.map TxH.d = b.txs.map TxH.d) (p2 : a.disk.slots.map SlotH.d = b.disk.slots.map SlotH.d) (p3 : a.disk.journal = b.disk.journal) (p4 : a.seq = b.seq) (p5 : a.next = b.next) (p6 : a.time = b.time) (p7 : a.history.map EntryH.d = b.history.map EntryH.d) (p8 : a.seen = b.seen) (p9 : a.room = b.room) :
    Calls Tryz.prog 8 #[.agg #[.slice a_Sa a_Sn a_Sc, .slice Q9 Q11 Q10, .slice Q0 Q2 Q1, .string a.disk.journal.text, .int .i64 a.disk.journal.sure, .int .i64 a.seq, .int .i64 a.next, .int .i64 a.time, .slice Q3 Q5 Q4, .slice Q6 Q8 Q7, .bool a.room], .agg #[.slice b_Sa b_Sn b_Sc, .slice Q21 Q23 Q22, .slice Q12 Q14 Q13, .string b.disk.journal.text, .int .i64 b.disk.journal.sure, .int .i64 b.seq, .int .i64 b.next, .int .i64 b.time, .slice Q15 Q17 Q16, .slice Q18 Q20 Q19, .bool b.room]] w fun e w' => e = .returned (.bool true) ∧ Mv [] w [] w' := by
 have uU : True := (fun _ _ _ _ _ _ _ _ _ _ _ _ _ _ => trivial) Q50 Q53 Q52 Q54 Q55 Q58 Q57 Q59 p0 p1 p2 p3 p7 p8
 clear uU
 have Q43 : Rd 2 encC okC (V H w []) w (.slice a_Sa a_Sn a_Sc) a.store := Rd.start Q27 (fun _ _ => fps_nil _)
 obtain ⟨Q79, Q69, Q89, Q99⟩ := Rd.inv Q27
 have Q44 : Rd 10 encTx okTx (V H w []) w (.slice Q9 Q11 Q10) a.txs := Rd.start Q28 (fun _ _ => fps_nil _)
 obtain ⟨Q80, Q70, Q90, Q100⟩ := Rd.inv Q28
 have Q40 : Rd 3 encSlot okSlot (V H w []) w (.slice Q0 Q2 Q1) a.disk.slots := Rd.start Q24 (fun _ _ => fps_nil _)
 obtain ⟨Q76, Q66, Q86, Q96⟩ := Rd.inv Q24
 have Q41 : Rd 8 encEntry okEntry (V H w []) w (.slice Q3 Q5 Q4) a.history := Rd.start Q25 (fun _ _ => fps_nil _)
 obtain ⟨Q77, Q67, Q87, Q97⟩ := Rd.inv Q25
 have Q42 : Rd 1 encS okS (V H w []) w (.slice Q6 Q8 Q7) a.seen := Rd.start Q26 (fun _ _ => fps_nil _)
 obtain ⟨Q78, Q68, Q88, Q98⟩ := Rd.inv Q26
 have Q48 : Rd 2 encC okC (V H w []) w (.slice b_Sa b_Sn b_Sc) b.store := Rd.start Q32 (fun _ _ => fps_nil _)
 obtain ⟨Q84, Q74, Q94, Q104⟩ := Rd.inv Q32
 have Q49 : Rd 10 encTx okTx (V H w []) w (.slice Q21 Q23 Q22) b.txs := Rd.start Q33 (fun _ _ => fps_nil _)
 obtain ⟨Q85, Q75, Q95, Q105⟩ := Rd.inv Q33
 have Q45 : Rd 3 encSlot okSlot (V H w []) w (.slice Q12 Q14 Q13) b.disk.slots := Rd.start Q29 (fun _ _ => fps_nil _)
 obtain ⟨Q81, Q71, Q91, Q101⟩ := Rd.inv Q29
 have Q46 : Rd 8 encEntry okEntry (V H w []) w (.slice Q15 Q17 Q16) b.history := Rd.start Q30 (fun _ _ => fps_nil _)
 obtain ⟨Q82, Q72, Q92, Q102⟩ := Rd.inv Q30
 have Q47 : Rd 1 encS okS (V H w []) w (.slice Q18 Q20 Q19) b.seen := Rd.start Q31 (fun _ _ => fps_nil _)
 obtain ⟨Q83, Q73, Q93, Q103⟩ := Rd.inv Q31
 have Q36 : NRd inTx (V H w []) w a.txs := NRd.start Q62 (fun _ _ => fps_nil _)
 have Q34 : NRd inSlot (V H w []) w a.disk.slots := NRd.start Q60 (fun _ _ => fps_nil _)
 have Q35 : NRd inEntry (V H w []) w a.history := NRd.start Q61 (fun _ _ => fps_nil _)
 have Q39 : NRd inTx (V H w []) w b.txs := NRd.start Q65 (fun _ _ => fps_nil _)
 have Q37 : NRd inSlot (V H w []) w b.disk.slots := NRd.start Q63 (fun _ _ => fps_nil _)
 have Q38 : NRd inEntry (V H w []) w b.history := NRd.start Q64 (fun _ _ => fps_nil _)
 refine calls_enter 55 Tryz.func8 rfl Tryz.ntmps8 (Nat.le_of_ble_eq_true rfl) (fun _ F0i => ?_)
 have F0 : Fr 55 [(0, .agg #[.slice a_Sa a_Sn a_Sc, .slice Q9 Q11 Q10, .slice Q0 Q2 Q1, .string a.disk.journal.text, .int .i64 a.disk.journal.sure, .int .i64 a.seq, .int .i64 a.next, .int .i64 a.time, .slice Q3 Q5 Q4, .slice Q6 Q8 Q7, .bool a.room]), (1, .agg #[.slice b_Sa b_Sn b_Sc, .slice Q21 Q23 Q22, .slice Q12 Q14 Q13, .string b.disk.journal.text, .int .i64 b.disk.journal.sure, .int .i64 b.seq, .int .i64 b.next, .int .i64 b.time, .slice Q15 Q17 Q16, .slice Q18 Q20 Q19, .bool b.room])] _ := F0i
 clear F0i
 refine wp_seq (wp_region_lit (l_op (f_box F0 (At.nil w) rfl rfl rfl (F0.ev 0 rfl) rfl rfl fun b1 _ w1 F2 S1 => ?_)))
 refine l_op (f_box F2 S1.at' rfl rfl rfl (F2.ev 1 rfl) rfl rfl fun b3 _ w3 F4 S3 => ?_)
 refine l_op (f_val F4 rfl rfl (r_assign rfl rfl) rfl fun _ F5 => ?_)
 have T6 : Mv _ _ [bx b3 [.slice b_Sa b_Sn b_Sc, .slice Q21 Q23 Q22, .slice Q12 Q14 Q13, .string b.disk.journal.text, .int .i64 b.disk.journal.sure, .int .i64 b.seq, .int .i64 b.next, .int .i64 b.time, .slice Q15 Q17 Q16, .slice Q18 Q20 Q19, .bool b.room] 43, bx b1 [.slice a_Sa a_Sn a_Sc, .slice Q9 Q11 Q10, .slice Q0 Q2 Q1, .string a.disk.journal.text, .int .i64 a.disk.journal.sure, .int .i64 a.seq, .int .i64 a.next, .int .i64 a.time, .slice Q3 Q5 Q4, .slice Q6 Q8 Q7, .bool a.room] 43] _ := S3
 refine s_end (x_normal (wp_seq (wp_seq (wp_region_lit (l_op (f_val F5 rfl rfl (r_field FI_43_0 rfl (F5.ev 2 rfl) rfl) rfl fun _ F7 => ?_))))))
 refine l_op (f_val (v := .slice a_Sa a_Sn a_Sc) F7 rfl rfl (r_loadB T6.at' 1 TI_35 rfl rfl (F7.ev 5 rfl) rfl rfl (fun _ => rfl) rfl) rfl fun _ F8 => ?_)
 refine l_op (f_val F8 rfl rfl (r_field FI_43_0 rfl (F8.ev 3 rfl) rfl) rfl fun _ F9 => ?_)
 refine l_op (f_val (v := .slice b_Sa b_Sn b_Sc) F9 rfl rfl (r_loadB T6.at' 0 TI_35 rfl rfl (F9.ev 7 rfl) rfl rfl (fun _ => rfl) rfl) rfl fun _ F10 => ?_)
 refine l_op (f_call F10 CF_29 rfl rfl rfl rfl (lc (F10.ev 6 rfl) (lc (F10.ev 8 rfl) rfl)) (laws_eqCellS_c (a := a.store) (b := b.store) (Rd.mv (Nat.succ_pos _) Q43 (S1.trans T6)) (Rd.mv (Nat.succ_pos _) Q48 (S1.trans T6)) (by first | assumption | omega | (simp <;> omega))) ?_)
 rintro _ w11 ⟨rfl, m11⟩
 refine ⟨_, rfl, fun _ F12 => ?_⟩
 have S11 := At.frame0 T6.at' m11
 clear m11
 refine l_op (f_val F12 rfl rfl (r_not rfl (F12.ev 9 rfl)) rfl fun _ F13 => ?_)
 have F14 : Fr 55 [(10, .bool false), (3, .pointer (some ⟨b3, 0, none⟩)), (2, .pointer (some ⟨b1, 0, none⟩))] _ := F13.cut rfl
 clear F0 F2 F4 F5 F7 F8 F9 F10 F12 F13
 refine s_end (x_normal (wp_cond_false (F14.ev 10 rfl) (wp_skip (x_normal (wp_seq (wp_seq (wp_region_lit (l_op (f_val F14 rfl rfl (r_field FI_43_1 rfl (F14.ev 2 rfl) rfl) rfl fun _ F15 => ?_)))))))))
 refine l_op (f_val (v := .slice Q9 Q11 Q10) F15 rfl rfl (r_loadB S11.at' 1 TI_36 rfl rfl (F15.ev 11 rfl) rfl rfl (fun _ => rfl) rfl) rfl fun _ F16 => ?_)
 refine l_op (f_val F16 rfl rfl (r_field FI_43_1 rfl (F16.ev 3 rfl) rfl) rfl fun _ F17 => ?_)
 refine l_op (f_val (v := .slice Q21 Q23 Q22) F17 rfl rfl (r_loadB S11.at' 0 TI_36 rfl rfl (F17.ev 13 rfl) rfl rfl (fun _ => rfl) rfl) rfl fun _ F18 => ?_)
 refine l_op (f_call F18 CF_30 rfl rfl rfl rfl (lc (F18.ev 12 rfl) (lc (F18.ev 14 rfl) rfl)) (laws_eqTxS_c (a := a.txs) (b := b.txs) (Rd.mv (Nat.succ_pos _) Q44 (S1.trans (T6.trans S11))) (NRd.mv Q36 (S1.trans (T6.trans S11))) (Rd.mv (Nat.succ_pos _) Q49 (S1.trans (T6.trans S11))) (NRd.mv Q39 (S1.trans (T6.trans S11))) (by first | assumption | omega | (simp <;> omega))) ?_)
 rintro _ w19 ⟨rfl, m19⟩
 refine ⟨_, rfl, fun _ F20 => ?_⟩
 have S19 := At.frame0 S11.at' m19
 clear m19
 refine l_op (f_val F20 rfl rfl (r_not rfl (F20.ev 15 rfl)) rfl fun _ F21 => ?_)
 have T22 : Mv _ _ [bx b3 [.slice b_Sa b_Sn b_Sc, .slice Q21 Q23 Q22, .slice Q12 Q14 Q13, .string b.disk.journal.text, .int .i64 b.disk.journal.sure, .int .i64 b.seq, .int .i64 b.next, .int .i64 b.time, .slice Q15 Q17 Q16, .slice Q18 Q20 Q19, .bool b.room] 43, bx b1 [.slice a_Sa a_Sn a_Sc, .slice Q9 Q11 Q10, .slice Q0 Q2 Q1, .string a.disk.journal.text, .int .i64 a.disk.journal.sure, .int .i64 a.seq, .int .i64 a.next, .int .i64 a.time, .slice Q3 Q5 Q4, .slice Q6 Q8 Q7, .bool a.room] 43] _ := S19
 refine s_end (x_normal (wp_cond_false (F21.ev 16 rfl) (wp_skip (x_normal (wp_seq (wp_seq (wp_region_lit (l_op (f_val F21 rfl rfl (r_field FI_43_2 rfl (F21.ev 2 rfl) rfl) rfl fun _ F23 => ?_)))))))))
 refine l_op (f_val (v := .agg #[.slice Q0 Q2 Q1, .string a.disk.journal.text, .int .i64 a.disk.journal.sure]) F23 rfl rfl (r_loadB T22.at' 1 TI_40 rfl rfl (F23.ev 17 rfl) rfl rfl (fun h => nomatch h) rfl) rfl fun _ F24 => ?_)
 refine l_op (f_val F24 rfl rfl (r_field FI_43_2 rfl (F24.ev 3 rfl) rfl) rfl fun _ F25 => ?_)
 refine l_op (f_val (v := .agg #[.slice Q12 Q14 Q13, .string b.disk.journal.text, .int .i64 b.disk.journal.sure]) F25 rfl rfl (r_loadB T22.at' 0 TI_40 rfl rfl (F25.ev 19 rfl) rfl rfl (fun h => nomatch h) rfl) rfl fun _ F26 => ?_)
 refine l_op (f_call F26 CF_31 rfl rfl rfl rfl (lc (F26.ev 18 rfl) (lc (F26.ev 20 rfl) rfl)) (laws_eqDisk_c (a := a.disk) (b := b.disk) (Rd.mv (Nat.succ_pos _) Q40 (S1.trans (T6.trans (S11.trans T22)))) (NRd.mv Q34 (S1.trans (T6.trans (S11.trans T22)))) Q51 (by first | assumption | exact ⟨by omega, by omega⟩ | (unfold i64ok at *; omega) | (simp only [i64ok]; omega)) (Rd.mv (Nat.succ_pos _) Q45 (S1.trans (T6.trans (S11.trans T22)))) (NRd.mv Q37 (S1.trans (T6.trans (S11.trans T22)))) Q56 (by first | assumption | exact ⟨by omega, by omega⟩ | (unfold i64ok at *; omega) | (simp only [i64ok]; omega)) (by first | assumption | omega | (simp <;> omega)) (by first | assumption | omega | (simp <;> omega))) ?_)
 rintro _ w27 ⟨rfl, m27⟩
 refine ⟨_, rfl, fun _ F28 => ?_⟩
 have S27 := At.frame0 T22.at' m27
 clear m27
 refine l_op (f_val F28 rfl rfl (r_not rfl (F28.ev 21 rfl)) rfl fun _ F29 => ?_)
 have F30 : Fr 55 [(22, .bool false), (3, .pointer (some ⟨b3, 0, none⟩)), (2, .pointer (some ⟨b1, 0, none⟩))] _ := F29.cut rfl
 clear F14 F15 F16 F17 F18 F20 F21 F23 F24 F25 F26 F28 F29
 refine s_end (x_normal (wp_cond_false (F30.ev 22 rfl) (wp_skip (x_normal (wp_seq (wp_seq (wp_region_lit (l_op (f_val F30 rfl rfl (r_field FI_43_3 rfl (F30.ev 2 rfl) rfl) rfl fun _ F31 => ?_)))))))))
 refine l_op (f_val (v := .int .i64 a.seq) F31 rfl rfl (r_loadB S27.at' 1 TI_3 rfl rfl (F31.ev 23 rfl) rfl rfl (fun _ => rfl) rfl) rfl fun _ F32 => ?_)
 refine l_op (f_val F32 rfl rfl (r_field FI_43_3 rfl (F32.ev 3 rfl) rfl) rfl fun _ F33 => ?_)
 refine l_op (f_val (v := .int .i64 b.seq) F33 rfl rfl (r_loadB S27.at' 0 TI_3 rfl rfl (F33.ev 25 rfl) rfl rfl (fun _ => rfl) rfl) rfl fun _ F34 => ?_)
 refine l_op (f_val F34 rfl rfl (r_cmp (b := decide (a.seq ≠ b.seq)) (.inr (.inl rfl)) rfl (F34.ev 24 rfl) (F34.ev 26 rfl) (dec_of (by omega))) rfl fun _ F35 => ?_)
 rw [show (decide (a.seq ≠ b.seq)) = false from decide_eq_false (fun h => h p4)] at F35
 refine s_end (x_normal (wp_cond_false (F35.ev 27 rfl) (wp_skip (x_normal (wp_seq (wp_seq (wp_region_lit (l_op (f_val F35 rfl rfl (r_field FI_43_4 rfl (F35.ev 2 rfl) rfl) rfl fun _ F36 => ?_)))))))))
 refine l_op (f_val (v := .int .i64 a.next) F36 rfl rfl (r_loadB S27.at' 1 TI_3 rfl rfl (F36.ev 28 rfl) rfl rfl (fun _ => rfl) rfl) rfl fun _ F37 => ?_)
 refine l_op (f_val F37 rfl rfl (r_field FI_43_4 rfl (F37.ev 3 rfl) rfl) rfl fun _ F38 => ?_)
 refine l_op (f_val (v := .int .i64 b.next) F38 rfl rfl (r_loadB S27.at' 0 TI_3 rfl rfl (F38.ev 30 rfl) rfl rfl (fun _ => rfl) rfl) rfl fun _ F39 => ?_)
 refine l_op (f_val F39 rfl rfl (r_cmp (b := decide (a.next ≠ b.next)) (.inr (.inl rfl)) rfl (F39.ev 29 rfl) (F39.ev 31 rfl) (dec_of (by omega))) rfl fun _ F40 => ?_)
 rw [show (decide (a.next ≠ b.next)) = false from decide_eq_false (fun h => h p5)] at F40
 have F41 : Fr 55 [(32, .bool false), (3, .pointer (some ⟨b3, 0, none⟩)), (2, .pointer (some ⟨b1, 0, none⟩))] _ := F40.cut rfl
 clear F30 F31 F32 F33 F34 F35 F36 F37 F38 F39 F40
 refine s_end (x_normal (wp_cond_false (F41.ev 32 rfl) (wp_skip (x_normal (wp_seq (wp_seq (wp_region_lit (l_op (f_val F41 rfl rfl (r_field FI_43_5 rfl (F41.ev 2 rfl) rfl) rfl fun _ F42 => ?_)))))))))
 refine l_op (f_val (v := .int .i64 a.time) F42 rfl rfl (r_loadB S27.at' 1 TI_3 rfl rfl (F42.ev 33 rfl) rfl rfl (fun _ => rfl) rfl) rfl fun _ F43 => ?_)
 refine l_op (f_val F43 rfl rfl (r_field FI_43_5 rfl (F43.ev 3 rfl) rfl) rfl fun _ F44 => ?_)
 refine l_op (f_val (v := .int .i64 b.time) F44 rfl rfl (r_loadB S27.at' 0 TI_3 rfl rfl (F44.ev 35 rfl) rfl rfl (fun _ => rfl) rfl) rfl fun _ F45 => ?_)
 refine l_op (f_val F45 rfl rfl (r_cmp (b := decide (a.time ≠ b.time)) (.inr (.inl rfl)) rfl (F45.ev 34 rfl) (F45.ev 36 rfl) (dec_of (by omega))) rfl fun _ F46 => ?_)
 rw [show (decide (a.time ≠ b.time)) = false from decide_eq_false (fun h => h p6)] at F46
 refine s_end (x_normal (wp_cond_false (F46.ev 37 rfl) (wp_skip (x_normal (wp_seq (wp_seq (wp_region_lit (l_op (f_val F46 rfl rfl (r_field FI_43_6 rfl (F46.ev 2 rfl) rfl) rfl fun _ F47 => ?_)))))))))
 refine l_op (f_val (v := .slice Q3 Q5 Q4) F47 rfl rfl (r_loadB S27.at' 1 TI_41 rfl rfl (F47.ev 38 rfl) rfl rfl (fun _ => rfl) rfl) rfl fun _ F48 => ?_)
 refine l_op (f_val F48 rfl rfl (r_field FI_43_6 rfl (F48.ev 3 rfl) rfl) rfl fun _ F49 => ?_)
 refine l_op (f_val (v := .slice Q15 Q17 Q16) F49 rfl rfl (r_loadB S27.at' 0 TI_41 rfl rfl (F49.ev 40 rfl) rfl rfl (fun _ => rfl) rfl) rfl fun _ F50 => ?_)
 refine l_op (f_call F50 CF_32 rfl rfl rfl rfl (lc (F50.ev 39 rfl) (lc (F50.ev 41 rfl) rfl)) (laws_eqEntryS_c (a := a.history) (b := b.history) (Rd.mv (Nat.succ_pos _) Q41 (S1.trans (T6.trans (S11.trans (T22.trans S27))))) (NRd.mv Q35 (S1.trans (T6.trans (S11.trans (T22.trans S27))))) (Rd.mv (Nat.succ_pos _) Q46 (S1.trans (T6.trans (S11.trans (T22.trans S27))))) (NRd.mv Q38 (S1.trans (T6.trans (S11.trans (T22.trans S27))))) (by first | assumption | omega | (simp <;> omega))) ?_)
 rintro _ w51 ⟨rfl, m51⟩
 refine ⟨_, rfl, fun _ F52 => ?_⟩
 have S51 := At.frame0 S27.at' m51
 clear m51
 refine l_op (f_val F52 rfl rfl (r_not rfl (F52.ev 42 rfl)) rfl fun _ F53 => ?_)
 have F54 : Fr 55 [(43, .bool false), (3, .pointer (some ⟨b3, 0, none⟩)), (2, .pointer (some ⟨b1, 0, none⟩))] _ := F53.cut rfl
 clear F41 F42 F43 F44 F45 F46 F47 F48 F49 F50 F52 F53
 have T55 : Mv _ _ [bx b3 [.slice b_Sa b_Sn b_Sc, .slice Q21 Q23 Q22, .slice Q12 Q14 Q13, .string b.disk.journal.text, .int .i64 b.disk.journal.sure, .int .i64 b.seq, .int .i64 b.next, .int .i64 b.time, .slice Q15 Q17 Q16, .slice Q18 Q20 Q19, .bool b.room] 43, bx b1 [.slice a_Sa a_Sn a_Sc, .slice Q9 Q11 Q10, .slice Q0 Q2 Q1, .string a.disk.journal.text, .int .i64 a.disk.journal.sure, .int .i64 a.seq, .int .i64 a.next, .int .i64 a.time, .slice Q3 Q5 Q4, .slice Q6 Q8 Q7, .bool a.room] 43] _ := S51
 refine s_end (x_normal (wp_cond_false (F54.ev 43 rfl) (wp_skip (x_normal (wp_seq (wp_seq (wp_region_lit (l_op (f_val F54 rfl rfl (r_field FI_43_7 rfl (F54.ev 2 rfl) rfl) rfl fun _ F56 => ?_)))))))))
 refine l_op (f_val (v := .slice Q6 Q8 Q7) F56 rfl rfl (r_loadB T55.at' 1 TI_30 rfl rfl (F56.ev 44 rfl) rfl rfl (fun _ => rfl) rfl) rfl fun _ F57 => ?_)
 refine l_op (f_val F57 rfl rfl (r_field FI_43_7 rfl (F57.ev 3 rfl) rfl) rfl fun _ F58 => ?_)
 refine l_op (f_val (v := .slice Q18 Q20 Q19) F58 rfl rfl (r_loadB T55.at' 0 TI_30 rfl rfl (F58.ev 46 rfl) rfl rfl (fun _ => rfl) rfl) rfl fun _ F59 => ?_)
 refine l_op (f_call F59 CF_33 rfl rfl rfl rfl (lc (F59.ev 45 rfl) (lc (F59.ev 47 rfl) rfl)) (laws_eqStringS_c (a := a.seen) (b := b.seen) (Rd.mv (Nat.succ_pos _) Q42 (S1.trans (T6.trans (S11.trans (T22.trans (S27.trans T55)))))) (Rd.mv (Nat.succ_pos _) Q47 (S1.trans (T6.trans (S11.trans (T22.trans (S27.trans T55)))))) (by first | assumption | omega | (simp <;> omega))) ?_)
 rintro _ w60 ⟨rfl, m60⟩
 refine ⟨_, rfl, fun _ F61 => ?_⟩
 have S60 := At.frame0 T55.at' m60
 clear m60
 refine l_op (f_val F61 rfl rfl (r_not rfl (F61.ev 48 rfl)) rfl fun _ F62 => ?_)
 refine s_end (x_normal (wp_cond_false (F62.ev 49 rfl) (wp_skip (x_normal (wp_seq (wp_seq (wp_region_lit (l_op (f_val F62 rfl rfl (r_field FI_43_8 rfl (F62.ev 2 rfl) rfl) rfl fun _ F63 => ?_)))))))))
 refine l_op (f_val (v := .bool a.room) F63 rfl rfl (r_loadB S60.at' 1 TI_4 rfl rfl (F63.ev 50 rfl) rfl rfl (fun _ => rfl) rfl) rfl fun _ F64 => ?_)
 refine l_op (f_val F64 rfl rfl (r_field FI_43_8 rfl (F64.ev 3 rfl) rfl) rfl fun _ F65 => ?_)
 refine l_op (f_val (v := .bool b.room) F65 rfl rfl (r_loadB S60.at' 0 TI_4 rfl rfl (F65.ev 52 rfl) rfl rfl (fun _ => rfl) rfl) rfl fun _ F66 => ?_)
 refine l_op (f_val F66 rfl rfl (r_cmpb (b := (a.room != b.room)) Tryz.underlying4 (.inr rfl) rfl (F66.ev 51 rfl) (F66.ev 53 rfl) rfl) rfl fun _ F67 => ?_)
 rw [show (a.room != b.room) = false from by rw [p9]; exact bne_self_eq_false _] at F67
 have F68 : Fr 55 [(54, .bool false)] _ := F67.cut rfl
 clear F54 F56 F57 F58 F59 F61 F62 F63 F64 F65 F66 F67
 refine s_end (x_normal (wp_cond_false (F68.ev 54 rfl) (wp_skip (x_normal (wp_seq (wp_region_lit (l_op (f_val F68 rfl rfl (r_assign rfl rfl) rfl fun _ F69 => ?_))))))))
 refine s_end (x_normal (wp_ret ?_))
 refine x_done (v := .bool true) F69 (results_1 Tryz.results8 (.tmp (F69.ev 4 rfl))) ?_
 exact ⟨rfl, (Mv.pick (S1.trans (T6.trans (S11.trans (T22.trans (S27.trans (T55.trans S60)))))) [] rfl)⟩
end Go.Proofs.YtgfilegkabbliaaGreat
