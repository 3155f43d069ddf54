/-
  Walks: a mark is set.
-/
import Derived.Test.YtgfilegkabbliaaGenXb
import Derived.Test.YtgfilegkabbliaaGenXc
namespace Go.Proofs.Ytgfilegkabbliaa
open Go.ChangeShapes Go.WideShapes Go.ChangeAt Go.RowKit
set_option maxRecDepth 100000
set_option maxHeartbeats 1000000
theorem spec_l17Copy_c {w : World} {H : Nat → Prop} {x : TxD} {x_calls_a : Option Addr} {x_calls_n x_calls_c : Nat} {x_answers_a : Option Addr} {x_answers_n x_answers_c : Nat} {x_Ra : Option Addr} {x_Rn x_Rc : Nat} {x_Wa : Option Addr} {x_Wn x_Wc : Nat} {x_marks_a : Option Addr} {x_marks_n x_marks_c : Nat} (h_x_id : i64ok x.id) (h_x_age : i64ok x.age) (h_x_proc : i64ok x.proc) (h_x_began : i64ok x.began) (v_x_calls : Rd 6 encK okK H w (.slice x_calls_a x_calls_n x_calls_c) x.calls) (v_x_answers : Rd 3 encR okR H w (.slice x_answers_a x_answers_n x_answers_c) x.answers) (v_x_touch_reads : Rd 1 encS okS H w (.slice x_Ra x_Rn x_Rc) x.touch.reads) (v_x_touch_writes : Rd 1 encS okS H w (.slice x_Wa x_Wn x_Wc) x.touch.writes) (v_x_marks : Rd 1 encI okI H w (.slice x_marks_a x_marks_n x_marks_c) x.marks) (h_x_state : i64ok x.state) (p0 : x.calls.length ≤ 2097152) (p1 : x.answers.length ≤ 2097152) (p2 : x.touch.reads.length ≤ 2097152) (p3 : x.touch.writes.length ≤ 2097152) (p4 : x.marks.length ≤ 2097152) :
    Calls Try.prog 90 #[.agg #[.int .i64 x.id, .int .i64 x.age, .int .i64 x.proc, .int .i64 x.began, .slice x_calls_a x_calls_n x_calls_c, .slice x_answers_a x_answers_n x_answers_c, .slice x_Ra x_Rn x_Rc, .slice x_Wa x_Wn x_Wc, .slice x_marks_a x_marks_n x_marks_c, .int .i64 x.state]] w fun e w' => ∃ (r0_calls_a : Option Addr), ∃ (r0_calls_n : Nat), ∃ (r0_calls_c : Nat), ∃ (r0_answers_a : Option Addr), ∃ (r0_answers_n : Nat), ∃ (r0_answers_c : Nat), ∃ (r0_Ra : Option Addr), ∃ (r0_Rn : Nat), ∃ (r0_Rc : Nat), ∃ (r0_Wa : Option Addr), ∃ (r0_Wn : Nat), ∃ (r0_Wc : Nat), ∃ (r0_marks_a : Option Addr), ∃ (r0_marks_n : Nat), ∃ (r0_marks_c : Nat), e = .returned (.agg #[.int .i64 x.id, .int .i64 x.age, .int .i64 x.proc, .int .i64 x.began, .slice r0_calls_a r0_calls_n r0_calls_c, .slice r0_answers_a r0_answers_n r0_answers_c, .slice r0_Ra r0_Rn r0_Rc, .slice r0_Wa r0_Wn r0_Wc, .slice r0_marks_a r0_marks_n r0_marks_c, .int .i64 x.state]) ∧ Mv [] w [ow 148 6 encK okK (.slice r0_calls_a r0_calls_n r0_calls_c) x.calls, ow 151 3 encR okR (.slice r0_answers_a r0_answers_n r0_answers_c) x.answers, ow 9 1 encS okS (.slice r0_Ra r0_Rn r0_Rc) x.touch.reads, ow 9 1 encS okS (.slice r0_Wa r0_Wn r0_Wc) x.touch.writes, ow 3 1 encI okI (.slice r0_marks_a r0_marks_n r0_marks_c) x.marks] w' := by
 have uU : True := (fun _ _ _ _ _ _ _ _ _ _ => trivial) h_x_id h_x_age h_x_proc h_x_began h_x_state p0 p1 p2 p3 p4
 clear uU
 have V_v_x_calls : Rd 6 encK okK (V H w []) w (.slice x_calls_a x_calls_n x_calls_c) x.calls := Rd.start v_x_calls (fun _ _ => fps_nil _)
 obtain ⟨ln_x_calls, le_x_calls, mx_x_calls, ni_x_calls⟩ := Rd.inv v_x_calls
 have V_v_x_answers : Rd 3 encR okR (V H w []) w (.slice x_answers_a x_answers_n x_answers_c) x.answers := Rd.start v_x_answers (fun _ _ => fps_nil _)
 obtain ⟨ln_x_answers, le_x_answers, mx_x_answers, ni_x_answers⟩ := Rd.inv v_x_answers
 have V_v_x_touch_reads : Rd 1 encS okS (V H w []) w (.slice x_Ra x_Rn x_Rc) x.touch.reads := Rd.start v_x_touch_reads (fun _ _ => fps_nil _)
 obtain ⟨ln_x_touch_reads, le_x_touch_reads, mx_x_touch_reads, ni_x_touch_reads⟩ := Rd.inv v_x_touch_reads
 have V_v_x_touch_writes : Rd 1 encS okS (V H w []) w (.slice x_Wa x_Wn x_Wc) x.touch.writes := Rd.start v_x_touch_writes (fun _ _ => fps_nil _)
 obtain ⟨ln_x_touch_writes, le_x_touch_writes, mx_x_touch_writes, ni_x_touch_writes⟩ := Rd.inv v_x_touch_writes
 have V_v_x_marks : Rd 1 encI okI (V H w []) w (.slice x_marks_a x_marks_n x_marks_c) x.marks := Rd.start v_x_marks (fun _ _ => fps_nil _)
 obtain ⟨ln_x_marks, le_x_marks, mx_x_marks, ni_x_marks⟩ := Rd.inv v_x_marks
 refine calls_enter 31 Try.func90 rfl Try.ntmps90 (Nat.le_of_ble_eq_true rfl) (fun _ F0i => ?_)
 have F0 : Fr 31 [(0, .agg #[.int .i64 x.id, .int .i64 x.age, .int .i64 x.proc, .int .i64 x.began, .slice x_calls_a x_calls_n x_calls_c, .slice x_answers_a x_answers_n x_answers_c, .slice x_Ra x_Rn x_Rc, .slice x_Wa x_Wn x_Wc, .slice x_marks_a x_marks_n x_marks_c, .int .i64 x.state])] _ := F0i
 clear F0i
 refine wp_seq (wp_region_lit (l_op (f_box F0 (At.nil w) rfl rfl rfl (F0.ev 0 rfl) rfl rfl fun b1 _ w1 F2 S1 => ?_)))
 refine l_op (f_alloc F2 S1.at' ZI_71 rfl rfl rfl rfl rfl fun b3 _ w3 F4 S3 => ?_)
 have F5 : Fr 31 [(2, .pointer (some ⟨b3, 0, none⟩)), (1, .pointer (some ⟨b1, 0, none⟩))] _ := F4.cut rfl
 clear F0 F2 F4
 have T6 : Mv _ _ [bx b3 [.int .i64 0, .int .i64 0, .int .i64 0, .int .i64 0, .slice none 0 0, .slice none 0 0, .slice none 0 0, .slice none 0 0, .slice none 0 0, .int .i64 0] 71, bx b1 [.int .i64 x.id, .int .i64 x.age, .int .i64 x.proc, .int .i64 x.began, .slice x_calls_a x_calls_n x_calls_c, .slice x_answers_a x_answers_n x_answers_c, .slice x_Ra x_Rn x_Rc, .slice x_Wa x_Wn x_Wc, .slice x_marks_a x_marks_n x_marks_c, .int .i64 x.state] 71] _ := S3
 refine s_end (x_normal (wp_seq (wp_region_lit (l_op (f_buildSl (ok := okK) (vs := []) F5 T6.at' (([] : List CallD)) ET_66 rfl rfl rfl rfl rfl rfl rfl rfl rfl (by simp) fun b7 _ w7 F8 S7 => ?_)))))
 refine l_op (f_val F8 rfl rfl (r_field FI_71_4 rfl (F8.ev 1 rfl) rfl) rfl fun _ F9 => ?_)
 refine l_op (f_val (v := .slice x_calls_a x_calls_n x_calls_c) F9 rfl rfl (r_loadB S7.at' 2 TI_66 rfl rfl (F9.ev 4 rfl) rfl rfl (fun _ => rfl) rfl) rfl fun _ F10 => ?_)
 refine l_op (f_app (news := x.calls) F10 S7.at' 0 ET_66 rfl rfl rfl rfl rfl rfl (F10.ev 3 rfl) (F10.ev 5 rfl) ((Rd.mv (Nat.succ_pos _) V_v_x_calls (S1.trans (T6.trans S7)))).1 (by ((repeat (first | rw [List.length_append] | rw [List.length_cons] | rw [List.length_nil] | rw [List.length_take] | rw [List.length_drop])) <;> omega)) fun A11 N11 C11 _ w11 F12 S11 l11 => ?_)
 refine l_op (f_val F12 rfl rfl (r_field FI_71_4 rfl (F12.ev 1 rfl) rfl) rfl fun _ F13 => ?_)
 refine l_op (s_store S11.at' 2 TI_66 rfl rfl rfl rfl rfl (F13.ev 7 rfl) (F13.ev 6 rfl) rfl rfl rfl rfl rfl fun w14 S14 => ?_)
 have F15 : Fr 31 [(7, .pointer (some ⟨b1, 4, none⟩)), (6, .slice A11 N11 C11), (2, .pointer (some ⟨b3, 0, none⟩)), (1, .pointer (some ⟨b1, 0, none⟩))] _ := F13.cut rfl
 clear F5 F8 F9 F10 F12 F13
 have T16 : Mv _ _ [bx b1 [.int .i64 x.id, .int .i64 x.age, .int .i64 x.proc, .int .i64 x.began, .slice A11 N11 C11, .slice x_answers_a x_answers_n x_answers_c, .slice x_Ra x_Rn x_Rc, .slice x_Wa x_Wn x_Wc, .slice x_marks_a x_marks_n x_marks_c, .int .i64 x.state] 71, ow 148 6 encK okK (.slice A11 N11 C11) (([] : List CallD) ++ x.calls), bx b3 [.int .i64 0, .int .i64 0, .int .i64 0, .int .i64 0, .slice none 0 0, .slice none 0 0, .slice none 0 0, .slice none 0 0, .slice none 0 0, .int .i64 0] 71] _ := S14
 refine s_end (x_normal (wp_seq (wp_region_lit (l_op (f_buildSl (ok := okR) (vs := []) F15 T16.at' (([] : List AnsD)) ET_67 rfl rfl rfl rfl rfl rfl rfl rfl rfl (by simp) fun b17 _ w17 F18 S17 => ?_)))))
 refine l_op (f_val F18 rfl rfl (r_field FI_71_5 rfl (F18.ev 1 rfl) rfl) rfl fun _ F19 => ?_)
 refine l_op (f_val (v := .slice x_answers_a x_answers_n x_answers_c) F19 rfl rfl (r_loadB S17.at' 1 TI_67 rfl rfl (F19.ev 9 rfl) rfl rfl (fun _ => rfl) rfl) rfl fun _ F20 => ?_)
 refine l_op (f_app (news := x.answers) F20 S17.at' 0 ET_67 rfl rfl rfl rfl rfl rfl (F20.ev 8 rfl) (F20.ev 10 rfl) ((Rd.mv (Nat.succ_pos _) V_v_x_answers (S1.trans (T6.trans (S7.trans (S11.trans (T16.trans S17))))))).1 (by ((repeat (first | rw [List.length_append] | rw [List.length_cons] | rw [List.length_nil] | rw [List.length_take] | rw [List.length_drop])) <;> omega)) fun A21 N21 C21 _ w21 F22 S21 l21 => ?_)
 refine l_op (f_val F22 rfl rfl (r_field FI_71_5 rfl (F22.ev 1 rfl) rfl) rfl fun _ F23 => ?_)
 refine l_op (s_store S21.at' 1 TI_67 rfl rfl rfl rfl rfl (F23.ev 12 rfl) (F23.ev 11 rfl) rfl rfl rfl rfl rfl fun w24 S24 => ?_)
 have F25 : Fr 31 [(12, .pointer (some ⟨b1, 5, none⟩)), (11, .slice A21 N21 C21), (2, .pointer (some ⟨b3, 0, none⟩)), (1, .pointer (some ⟨b1, 0, none⟩))] _ := F23.cut rfl
 clear F15 F18 F19 F20 F22 F23
 have T26 : Mv _ _ [bx b1 [.int .i64 x.id, .int .i64 x.age, .int .i64 x.proc, .int .i64 x.began, .slice A11 N11 C11, .slice A21 N21 C21, .slice x_Ra x_Rn x_Rc, .slice x_Wa x_Wn x_Wc, .slice x_marks_a x_marks_n x_marks_c, .int .i64 x.state] 71, ow 151 3 encR okR (.slice A21 N21 C21) (([] : List AnsD) ++ x.answers), ow 148 6 encK okK (.slice A11 N11 C11) (([] : List CallD) ++ x.calls), bx b3 [.int .i64 0, .int .i64 0, .int .i64 0, .int .i64 0, .slice none 0 0, .slice none 0 0, .slice none 0 0, .slice none 0 0, .slice none 0 0, .int .i64 0] 71] _ := S24
 refine s_end (x_normal (wp_seq ?_))
 refine x_draw (fun aZ wZ => ∃ (b33 : Nat), ∃ (A36 : Option Addr), ∃ (N36 : Nat), ∃ (C36 : Nat), ∃ (b38 : Nat), ∃ (A41 : Option Addr), ∃ (N41 : Nat), ∃ (C41 : Nat), Fr 31 [(1, .pointer (some ⟨b1, 0, none⟩)), (2, .pointer (some ⟨b3, 0, none⟩))] aZ ∧ Mv [bx b1 [.int .i64 x.id, .int .i64 x.age, .int .i64 x.proc, .int .i64 x.began, .slice A11 N11 C11, .slice A21 N21 C21, .slice x_Ra x_Rn x_Rc, .slice x_Wa x_Wn x_Wc, .slice x_marks_a x_marks_n x_marks_c, .int .i64 x.state] 71, ow 151 3 encR okR (.slice A21 N21 C21) (([] : List AnsD) ++ x.answers), ow 148 6 encK okK (.slice A11 N11 C11) (([] : List CallD) ++ x.calls), bx b3 [.int .i64 0, .int .i64 0, .int .i64 0, .int .i64 0, .slice none 0 0, .slice none 0 0, .slice none 0 0, .slice none 0 0, .slice none 0 0, .int .i64 0] 71] w24 [bx b1 [.int .i64 x.id, .int .i64 x.age, .int .i64 x.proc, .int .i64 x.began, .slice A11 N11 C11, .slice A21 N21 C21, .slice A36 N36 C36, .slice A41 N41 C41, .slice x_marks_a x_marks_n x_marks_c, .int .i64 x.state] 71, ow 151 3 encR okR (.slice A21 N21 C21) (([] : List AnsD) ++ x.answers), ow 148 6 encK okK (.slice A11 N11 C11) (([] : List CallD) ++ x.calls), bx b3 [.int .i64 0, .int .i64 0, .int .i64 0, .int .i64 0, .slice none 0 0, .slice none 0 0, .slice none 0 0, .slice none 0 0, .slice none 0 0, .int .i64 0] 71, ow 9 1 encS okS (.slice A36 N36 C36) (([] : List ByteArray) ++ x.touch.reads), ow 9 1 encS okS (.slice A41 N41 C41) (([] : List ByteArray) ++ x.touch.writes)] wZ) [] mixed T26.at' (listed := #[false, false, false, false, false, false, false, false, false, false, false, false, false]) rfl (fun w28 S28 => ?_) [] rfl ?_
 · skip
   refine g_take F25 rfl (i := 1) (listed' := #[false, true, false, false, false, false, false, false, false, false, false, false, false]) rfl (by kernel_rfl) (by kernel_rfl) (by kernel_rfl) (fun _ _ _ h => h) (Sd.of (Mv.refl S28.at') [] rfl) rfl rfl rfl rfl (fun _ hz => (r_field FI_71_6 rfl (F25.ev 1 rfl) rfl)) fun _ F29 => ?_
   refine g_take F29 rfl (i := 2) (listed' := #[false, true, true, false, false, false, false, false, false, false, false, false, false]) rfl (by kernel_rfl) (by kernel_rfl) (by kernel_rfl) (fun _ _ _ h => h) (Sd.of (Mv.refl S28.at') [] rfl) rfl rfl rfl rfl (fun _ hz => (r_field FI_69_0 rfl (F29.ev 14 rfl) rfl)) fun _ F30 => ?_
   refine g_take F30 rfl (i := 6) (listed' := #[false, true, true, false, false, false, true, false, false, false, false, false, false]) rfl (by kernel_rfl) (by kernel_rfl) (by kernel_rfl) (fun _ _ _ h => h) (Sd.of (Mv.refl S28.at') [] rfl) rfl rfl rfl rfl (fun _ hz => (r_field FI_71_6 rfl (F30.ev 1 rfl) rfl)) fun _ F31 => ?_
   refine g_take F31 rfl (i := 7) (listed' := #[false, true, true, false, false, false, true, true, false, false, false, false, false]) rfl (by kernel_rfl) (by kernel_rfl) (by kernel_rfl) (fun _ _ _ h => h) (Sd.of (Mv.refl S28.at') [] rfl) rfl rfl rfl rfl (fun _ hz => (r_field FI_69_1 rfl (F31.ev 19 rfl) rfl)) fun _ F32 => ?_
   refine d_all (rs := [0, 3, 5, 8]) rfl (by kernel_rfl) (by simp) (d_cons (i := 0) (listed' := #[true, true, true, false, false, false, true, true, false, false, false, false, false]) rfl rfl ?_ (d_cons (i := 3) (listed' := #[false, true, true, true, false, false, true, true, false, false, false, false, false]) rfl rfl ?_ (d_cons (i := 5) (listed' := #[false, true, true, false, false, true, true, true, false, false, false, false, false]) rfl rfl ?_ (d_cons (i := 8) (listed' := #[false, true, true, false, false, false, true, true, true, false, false, false, false]) rfl rfl ?_ d_nil))))
   · skip
     refine f_buildSl (ok := okS) (vs := []) F32 S28.at' (([] : List ByteArray)) ET_62 rfl rfl rfl rfl rfl rfl rfl rfl rfl (by simp) fun b33 _ w33 F34 S33 => ?_
     refine ⟨Sd.of S33 [] rfl, ?_⟩
     refine d_all (rs := [3, 5, 8]) rfl (by kernel_rfl) (by simp) (d_cons (i := 3) (listed' := #[true, true, true, true, false, false, true, true, false, false, false, false, false]) rfl rfl ?_ (d_cons (i := 5) (listed' := #[true, true, true, false, false, true, true, true, false, false, false, false, false]) rfl rfl ?_ (d_cons (i := 8) (listed' := #[true, true, true, false, false, false, true, true, true, false, false, false, false]) rfl rfl ?_ d_nil)))
     · skip
       refine f_val (v := .slice x_Ra x_Rn x_Rc) F34 rfl rfl (r_loadB S33.at' 1 TI_62 rfl rfl (F34.ev 15 rfl) rfl rfl (fun _ => rfl) rfl) rfl fun _ F35 => ?_
       refine ⟨Sd.of S33 [] rfl, ?_⟩
       refine d_all (rs := [4, 5, 8]) rfl (by kernel_rfl) (by simp) (d_cons (i := 4) (listed' := #[true, true, true, true, true, false, true, true, false, false, false, false, false]) rfl rfl ?_ (d_cons (i := 5) (listed' := #[true, true, true, true, false, true, true, true, false, false, false, false, false]) rfl rfl ?_ (d_cons (i := 8) (listed' := #[true, true, true, true, false, false, true, true, true, false, false, false, false]) rfl rfl ?_ d_nil)))
       · skip
         refine f_app (news := x.touch.reads) F35 S33.at' 0 ET_62 rfl rfl rfl rfl rfl rfl (F35.ev 13 rfl) (F35.ev 16 rfl) ((Rd.mv (Nat.succ_pos _) V_v_x_touch_reads (S1.trans (T6.trans (S7.trans (S11.trans (T16.trans (S17.trans (S21.trans (T26.trans (S28.trans S33))))))))))).1 (by ((repeat (first | rw [List.length_append] | rw [List.length_cons] | rw [List.length_nil] | rw [List.length_take] | rw [List.length_drop])) <;> omega)) fun A36 N36 C36 _ w36 F37 S36 l36 => ?_
         refine ⟨Sd.of (S33.trans S36) [] rfl, ?_⟩
         refine d_all (rs := [5, 8]) rfl (by kernel_rfl) (by simp) (d_cons (i := 5) (listed' := #[true, true, true, true, true, true, true, true, false, false, false, false, false]) rfl rfl ?_ (d_cons (i := 8) (listed' := #[true, true, true, true, true, false, true, true, true, false, false, false, false]) rfl rfl ?_ d_nil))
         · skip
           refine f_buildSl (ok := okS) (vs := []) F37 S36.at' (([] : List ByteArray)) ET_62 rfl rfl rfl rfl rfl rfl rfl rfl rfl (by simp) fun b38 _ w38 F39 S38 => ?_
           refine ⟨Sd.of (S33.trans (S36.trans S38)) [] rfl, ?_⟩
           refine d_one (i := 8) (listed' := #[true, true, true, true, true, true, true, true, true, false, false, false, false]) rfl (by kernel_rfl) rfl rfl ?_
           refine f_val (v := .slice x_Wa x_Wn x_Wc) F39 rfl rfl (r_loadB S38.at' 2 TI_62 rfl rfl (F39.ev 20 rfl) rfl rfl (fun _ => rfl) rfl) rfl fun _ F40 => ?_
           refine ⟨Sd.of (S33.trans (S36.trans S38)) [] rfl, ?_⟩
           refine d_one (i := 9) (listed' := #[true, true, true, true, true, true, true, true, true, true, false, false, false]) rfl (by kernel_rfl) rfl rfl ?_
           refine f_app (news := x.touch.writes) F40 S38.at' 0 ET_62 rfl rfl rfl rfl rfl rfl (F40.ev 18 rfl) (F40.ev 21 rfl) ((Rd.mv (Nat.succ_pos _) V_v_x_touch_writes (S1.trans (T6.trans (S7.trans (S11.trans (T16.trans (S17.trans (S21.trans (T26.trans (S28.trans (S33.trans (S36.trans S38))))))))))))).1 (by ((repeat (first | rw [List.length_append] | rw [List.length_cons] | rw [List.length_nil] | rw [List.length_take] | rw [List.length_drop])) <;> omega)) fun A41 N41 C41 _ w41 F42 S41 l41 => ?_
           refine ⟨Sd.of (S33.trans (S36.trans (S38.trans S41))) [] rfl, ?_⟩
           refine g_take (v := .agg #[.slice A36 N36 C36, .slice A41 N41 C41]) F42 rfl (i := 10) (listed' := #[true, true, true, true, true, true, true, true, true, true, true, false, false]) rfl (by kernel_rfl) (by kernel_rfl) (by kernel_rfl) (fun _ _ _ h => h) (Sd.of (S33.trans (S36.trans (S38.trans S41))) [] rfl) rfl rfl rfl rfl (fun _ hz => (r_build BI_69 rfl (lc (pr2 (F42.ev 17 rfl)) (lc (pr2 (F42.ev 22 rfl)) rfl)) rfl)) fun _ F43 => ?_
           refine g_take F43 rfl (i := 11) (listed' := #[true, true, true, true, true, true, true, true, true, true, true, true, false]) rfl (by kernel_rfl) (by kernel_rfl) (by kernel_rfl) (fun _ _ _ h => h) (Sd.of (S33.trans (S36.trans (S38.trans S41))) [] rfl) rfl rfl rfl rfl (fun _ hz => (r_field FI_71_6 rfl (F43.ev 1 rfl) rfl)) fun _ F44 => ?_
           refine d_one (i := 12) (listed' := #[true, true, true, true, true, true, true, true, true, true, true, true, true]) rfl (by kernel_rfl) rfl rfl ?_
           refine s_store S41.at' 2 TI_69 rfl rfl rfl rfl rfl (F44.ev 24 rfl) (F44.ev 23 rfl) rfl rfl rfl rfl rfl fun w45 S45 => ?_
           refine ⟨Sd.of (S33.trans (S36.trans (S38.trans (S41.trans S45)))) [] rfl, ?_⟩
           refine wpAnyH_done (by kernel_rfl) (x_normal ?_) _
           exact ⟨b33, A36, N36, C36, b38, A41, N41, C41, F44.cut rfl, ((S28.trans (S33.trans (S36.trans (S38.trans (S41.trans S45))))).pick [0, 3, 4, 5, 2, 1] rfl)⟩
         · skip
           refine f_val (v := .slice x_Wa x_Wn x_Wc) F37 rfl rfl (r_loadB S36.at' 1 TI_62 rfl rfl (F37.ev 20 rfl) rfl rfl (fun _ => rfl) rfl) rfl fun _ F46 => ?_
           refine ⟨Sd.of (S33.trans S36) [] rfl, ?_⟩
           refine d_one (i := 5) (listed' := #[true, true, true, true, true, true, true, true, true, false, false, false, false]) rfl (by kernel_rfl) rfl rfl ?_
           refine f_buildSl (ok := okS) (vs := []) F46 S36.at' (([] : List ByteArray)) ET_62 rfl rfl rfl rfl rfl rfl rfl rfl rfl (by simp) fun b47 _ w47 F48 S47 => ?_
           refine ⟨Sd.of (S33.trans (S36.trans S47)) [] rfl, ?_⟩
           refine d_one (i := 9) (listed' := #[true, true, true, true, true, true, true, true, true, true, false, false, false]) rfl (by kernel_rfl) rfl rfl ?_
           refine f_app (news := x.touch.writes) F48 S47.at' 0 ET_62 rfl rfl rfl rfl rfl rfl (F48.ev 18 rfl) (F48.ev 21 rfl) ((Rd.mv (Nat.succ_pos _) V_v_x_touch_writes (S1.trans (T6.trans (S7.trans (S11.trans (T16.trans (S17.trans (S21.trans (T26.trans (S28.trans (S33.trans (S36.trans S47))))))))))))).1 (by ((repeat (first | rw [List.length_append] | rw [List.length_cons] | rw [List.length_nil] | rw [List.length_take] | rw [List.length_drop])) <;> omega)) fun A49 N49 C49 _ w49 F50 S49 l49 => ?_
           refine ⟨Sd.of (S33.trans (S36.trans (S47.trans S49))) [] rfl, ?_⟩
           refine g_take (v := .agg #[.slice A36 N36 C36, .slice A49 N49 C49]) F50 rfl (i := 10) (listed' := #[true, true, true, true, true, true, true, true, true, true, true, false, false]) rfl (by kernel_rfl) (by kernel_rfl) (by kernel_rfl) (fun _ _ _ h => h) (Sd.of (S33.trans (S36.trans (S47.trans S49))) [] rfl) rfl rfl rfl rfl (fun _ hz => (r_build BI_69 rfl (lc (pr2 (F50.ev 17 rfl)) (lc (pr2 (F50.ev 22 rfl)) rfl)) rfl)) fun _ F51 => ?_
           refine g_take F51 rfl (i := 11) (listed' := #[true, true, true, true, true, true, true, true, true, true, true, true, false]) rfl (by kernel_rfl) (by kernel_rfl) (by kernel_rfl) (fun _ _ _ h => h) (Sd.of (S33.trans (S36.trans (S47.trans S49))) [] rfl) rfl rfl rfl rfl (fun _ hz => (r_field FI_71_6 rfl (F51.ev 1 rfl) rfl)) fun _ F52 => ?_
           refine d_one (i := 12) (listed' := #[true, true, true, true, true, true, true, true, true, true, true, true, true]) rfl (by kernel_rfl) rfl rfl ?_
           refine s_store S49.at' 2 TI_69 rfl rfl rfl rfl rfl (F52.ev 24 rfl) (F52.ev 23 rfl) rfl rfl rfl rfl rfl fun w53 S53 => ?_
           refine ⟨Sd.of (S33.trans (S36.trans (S47.trans (S49.trans S53)))) [] rfl, ?_⟩
           refine wpAnyH_done (by kernel_rfl) (x_normal ?_) _
           exact ⟨b33, A36, N36, C36, b47, A49, N49, C49, F52.cut rfl, ((S28.trans (S33.trans (S36.trans (S47.trans (S49.trans S53))))).pick [0, 3, 4, 5, 2, 1] rfl)⟩
       · skip
         refine f_buildSl (ok := okS) (vs := []) F35 S33.at' (([] : List ByteArray)) ET_62 rfl rfl rfl rfl rfl rfl rfl rfl rfl (by simp) fun b54 _ w54 F55 S54 => ?_
         refine ⟨Sd.of (S33.trans S54) [] rfl, ?_⟩
         refine d_all (rs := [4, 8]) rfl (by kernel_rfl) (by simp) (d_cons (i := 4) (listed' := #[true, true, true, true, true, true, true, true, false, false, false, false, false]) rfl rfl ?_ (d_cons (i := 8) (listed' := #[true, true, true, true, false, true, true, true, true, false, false, false, false]) rfl rfl ?_ d_nil))
         · skip
           refine f_app (news := x.touch.reads) F55 S54.at' 1 ET_62 rfl rfl rfl rfl rfl rfl (F55.ev 13 rfl) (F55.ev 16 rfl) ((Rd.mv (Nat.succ_pos _) V_v_x_touch_reads (S1.trans (T6.trans (S7.trans (S11.trans (T16.trans (S17.trans (S21.trans (T26.trans (S28.trans (S33.trans S54)))))))))))).1 (by ((repeat (first | rw [List.length_append] | rw [List.length_cons] | rw [List.length_nil] | rw [List.length_take] | rw [List.length_drop])) <;> omega)) fun A56 N56 C56 _ w56 F57 S56 l56 => ?_
           refine ⟨Sd.of (S33.trans (S54.trans S56)) [] rfl, ?_⟩
           refine d_one (i := 8) (listed' := #[true, true, true, true, true, true, true, true, true, false, false, false, false]) rfl (by kernel_rfl) rfl rfl ?_
           refine f_val (v := .slice x_Wa x_Wn x_Wc) F57 rfl rfl (r_loadB S56.at' 2 TI_62 rfl rfl (F57.ev 20 rfl) rfl rfl (fun _ => rfl) rfl) rfl fun _ F58 => ?_
           refine ⟨Sd.of (S33.trans (S54.trans S56)) [] rfl, ?_⟩
           refine d_one (i := 9) (listed' := #[true, true, true, true, true, true, true, true, true, true, false, false, false]) rfl (by kernel_rfl) rfl rfl ?_
           refine f_app (news := x.touch.writes) F58 S56.at' 1 ET_62 rfl rfl rfl rfl rfl rfl (F58.ev 18 rfl) (F58.ev 21 rfl) ((Rd.mv (Nat.succ_pos _) V_v_x_touch_writes (S1.trans (T6.trans (S7.trans (S11.trans (T16.trans (S17.trans (S21.trans (T26.trans (S28.trans (S33.trans (S54.trans S56))))))))))))).1 (by ((repeat (first | rw [List.length_append] | rw [List.length_cons] | rw [List.length_nil] | rw [List.length_take] | rw [List.length_drop])) <;> omega)) fun A59 N59 C59 _ w59 F60 S59 l59 => ?_
           refine ⟨Sd.of (S33.trans (S54.trans (S56.trans S59))) [] rfl, ?_⟩
           refine g_take (v := .agg #[.slice A56 N56 C56, .slice A59 N59 C59]) F60 rfl (i := 10) (listed' := #[true, true, true, true, true, true, true, true, true, true, true, false, false]) rfl (by kernel_rfl) (by kernel_rfl) (by kernel_rfl) (fun _ _ _ h => h) (Sd.of (S33.trans (S54.trans (S56.trans S59))) [] rfl) rfl rfl rfl rfl (fun _ hz => (r_build BI_69 rfl (lc (pr2 (F60.ev 17 rfl)) (lc (pr2 (F60.ev 22 rfl)) rfl)) rfl)) fun _ F61 => ?_
           refine g_take F61 rfl (i := 11) (listed' := #[true, true, true, true, true, true, true, true, true, true, true, true, false]) rfl (by kernel_rfl) (by kernel_rfl) (by kernel_rfl) (fun _ _ _ h => h) (Sd.of (S33.trans (S54.trans (S56.trans S59))) [] rfl) rfl rfl rfl rfl (fun _ hz => (r_field FI_71_6 rfl (F61.ev 1 rfl) rfl)) fun _ F62 => ?_
           refine d_one (i := 12) (listed' := #[true, true, true, true, true, true, true, true, true, true, true, true, true]) rfl (by kernel_rfl) rfl rfl ?_
           refine s_store S59.at' 2 TI_69 rfl rfl rfl rfl rfl (F62.ev 24 rfl) (F62.ev 23 rfl) rfl rfl rfl rfl rfl fun w63 S63 => ?_
           refine ⟨Sd.of (S33.trans (S54.trans (S56.trans (S59.trans S63)))) [] rfl, ?_⟩
           refine wpAnyH_done (by kernel_rfl) (x_normal ?_) _
           exact ⟨b33, A56, N56, C56, b54, A59, N59, C59, F62.cut rfl, ((S28.trans (S33.trans (S54.trans (S56.trans (S59.trans S63))))).pick [0, 3, 4, 5, 2, 1] rfl)⟩
         · skip
           refine f_val (v := .slice x_Wa x_Wn x_Wc) F55 rfl rfl (r_loadB S54.at' 2 TI_62 rfl rfl (F55.ev 20 rfl) rfl rfl (fun _ => rfl) rfl) rfl fun _ F64 => ?_
           refine ⟨Sd.of (S33.trans S54) [] rfl, ?_⟩
           refine d_one (i := 4) (listed' := #[true, true, true, true, true, true, true, true, true, false, false, false, false]) rfl (by kernel_rfl) rfl rfl ?_
           refine f_app (news := x.touch.reads) F64 S54.at' 1 ET_62 rfl rfl rfl rfl rfl rfl (F64.ev 13 rfl) (F64.ev 16 rfl) ((Rd.mv (Nat.succ_pos _) V_v_x_touch_reads (S1.trans (T6.trans (S7.trans (S11.trans (T16.trans (S17.trans (S21.trans (T26.trans (S28.trans (S33.trans S54)))))))))))).1 (by ((repeat (first | rw [List.length_append] | rw [List.length_cons] | rw [List.length_nil] | rw [List.length_take] | rw [List.length_drop])) <;> omega)) fun A65 N65 C65 _ w65 F66 S65 l65 => ?_
           refine ⟨Sd.of (S33.trans (S54.trans S65)) [] rfl, ?_⟩
           refine d_one (i := 9) (listed' := #[true, true, true, true, true, true, true, true, true, true, false, false, false]) rfl (by kernel_rfl) rfl rfl ?_
           refine f_app (news := x.touch.writes) F66 S65.at' 1 ET_62 rfl rfl rfl rfl rfl rfl (F66.ev 18 rfl) (F66.ev 21 rfl) ((Rd.mv (Nat.succ_pos _) V_v_x_touch_writes (S1.trans (T6.trans (S7.trans (S11.trans (T16.trans (S17.trans (S21.trans (T26.trans (S28.trans (S33.trans (S54.trans S65))))))))))))).1 (by ((repeat (first | rw [List.length_append] | rw [List.length_cons] | rw [List.length_nil] | rw [List.length_take] | rw [List.length_drop])) <;> omega)) fun A67 N67 C67 _ w67 F68 S67 l67 => ?_
           refine ⟨Sd.of (S33.trans (S54.trans (S65.trans S67))) [] rfl, ?_⟩
           refine g_take (v := .agg #[.slice A65 N65 C65, .slice A67 N67 C67]) F68 rfl (i := 10) (listed' := #[true, true, true, true, true, true, true, true, true, true, true, false, false]) rfl (by kernel_rfl) (by kernel_rfl) (by kernel_rfl) (fun _ _ _ h => h) (Sd.of (S33.trans (S54.trans (S65.trans S67))) [] rfl) rfl rfl rfl rfl (fun _ hz => (r_build BI_69 rfl (lc (pr2 (F68.ev 17 rfl)) (lc (pr2 (F68.ev 22 rfl)) rfl)) rfl)) fun _ F69 => ?_
           refine g_take F69 rfl (i := 11) (listed' := #[true, true, true, true, true, true, true, true, true, true, true, true, false]) rfl (by kernel_rfl) (by kernel_rfl) (by kernel_rfl) (fun _ _ _ h => h) (Sd.of (S33.trans (S54.trans (S65.trans S67))) [] rfl) rfl rfl rfl rfl (fun _ hz => (r_field FI_71_6 rfl (F69.ev 1 rfl) rfl)) fun _ F70 => ?_
           refine d_one (i := 12) (listed' := #[true, true, true, true, true, true, true, true, true, true, true, true, true]) rfl (by kernel_rfl) rfl rfl ?_
           refine s_store S67.at' 2 TI_69 rfl rfl rfl rfl rfl (F70.ev 24 rfl) (F70.ev 23 rfl) rfl rfl rfl rfl rfl fun w71 S71 => ?_
           refine ⟨Sd.of (S33.trans (S54.trans (S65.trans (S67.trans S71)))) [] rfl, ?_⟩
           refine wpAnyH_done (by kernel_rfl) (x_normal ?_) _
           exact ⟨b33, A65, N65, C65, b54, A67, N67, C67, F70.cut rfl, ((S28.trans (S33.trans (S54.trans (S65.trans (S67.trans S71))))).pick [0, 3, 4, 5, 2, 1] rfl)⟩
       · skip
         refine f_val (v := .slice x_Wa x_Wn x_Wc) F35 rfl rfl (r_loadB S33.at' 1 TI_62 rfl rfl (F35.ev 20 rfl) rfl rfl (fun _ => rfl) rfl) rfl fun _ F72 => ?_
         refine ⟨Sd.of S33 [] rfl, ?_⟩
         refine d_all (rs := [4, 5]) rfl (by kernel_rfl) (by simp) (d_cons (i := 4) (listed' := #[true, true, true, true, true, false, true, true, true, false, false, false, false]) rfl rfl ?_ (d_cons (i := 5) (listed' := #[true, true, true, true, false, true, true, true, true, false, false, false, false]) rfl rfl ?_ d_nil))
         · skip
           refine f_app (news := x.touch.reads) F72 S33.at' 0 ET_62 rfl rfl rfl rfl rfl rfl (F72.ev 13 rfl) (F72.ev 16 rfl) ((Rd.mv (Nat.succ_pos _) V_v_x_touch_reads (S1.trans (T6.trans (S7.trans (S11.trans (T16.trans (S17.trans (S21.trans (T26.trans (S28.trans S33))))))))))).1 (by ((repeat (first | rw [List.length_append] | rw [List.length_cons] | rw [List.length_nil] | rw [List.length_take] | rw [List.length_drop])) <;> omega)) fun A73 N73 C73 _ w73 F74 S73 l73 => ?_
           refine ⟨Sd.of (S33.trans S73) [] rfl, ?_⟩
           refine d_one (i := 5) (listed' := #[true, true, true, true, true, true, true, true, true, false, false, false, false]) rfl (by kernel_rfl) rfl rfl ?_
           refine f_buildSl (ok := okS) (vs := []) F74 S73.at' (([] : List ByteArray)) ET_62 rfl rfl rfl rfl rfl rfl rfl rfl rfl (by simp) fun b75 _ w75 F76 S75 => ?_
           refine ⟨Sd.of (S33.trans (S73.trans S75)) [] rfl, ?_⟩
           refine d_one (i := 9) (listed' := #[true, true, true, true, true, true, true, true, true, true, false, false, false]) rfl (by kernel_rfl) rfl rfl ?_
           refine f_app (news := x.touch.writes) F76 S75.at' 0 ET_62 rfl rfl rfl rfl rfl rfl (F76.ev 18 rfl) (F76.ev 21 rfl) ((Rd.mv (Nat.succ_pos _) V_v_x_touch_writes (S1.trans (T6.trans (S7.trans (S11.trans (T16.trans (S17.trans (S21.trans (T26.trans (S28.trans (S33.trans (S73.trans S75))))))))))))).1 (by ((repeat (first | rw [List.length_append] | rw [List.length_cons] | rw [List.length_nil] | rw [List.length_take] | rw [List.length_drop])) <;> omega)) fun A77 N77 C77 _ w77 F78 S77 l77 => ?_
           refine ⟨Sd.of (S33.trans (S73.trans (S75.trans S77))) [] rfl, ?_⟩
           refine g_take (v := .agg #[.slice A73 N73 C73, .slice A77 N77 C77]) F78 rfl (i := 10) (listed' := #[true, true, true, true, true, true, true, true, true, true, true, false, false]) rfl (by kernel_rfl) (by kernel_rfl) (by kernel_rfl) (fun _ _ _ h => h) (Sd.of (S33.trans (S73.trans (S75.trans S77))) [] rfl) rfl rfl rfl rfl (fun _ hz => (r_build BI_69 rfl (lc (pr2 (F78.ev 17 rfl)) (lc (pr2 (F78.ev 22 rfl)) rfl)) rfl)) fun _ F79 => ?_
           refine g_take F79 rfl (i := 11) (listed' := #[true, true, true, true, true, true, true, true, true, true, true, true, false]) rfl (by kernel_rfl) (by kernel_rfl) (by kernel_rfl) (fun _ _ _ h => h) (Sd.of (S33.trans (S73.trans (S75.trans S77))) [] rfl) rfl rfl rfl rfl (fun _ hz => (r_field FI_71_6 rfl (F79.ev 1 rfl) rfl)) fun _ F80 => ?_
           refine d_one (i := 12) (listed' := #[true, true, true, true, true, true, true, true, true, true, true, true, true]) rfl (by kernel_rfl) rfl rfl ?_
           refine s_store S77.at' 2 TI_69 rfl rfl rfl rfl rfl (F80.ev 24 rfl) (F80.ev 23 rfl) rfl rfl rfl rfl rfl fun w81 S81 => ?_
           refine ⟨Sd.of (S33.trans (S73.trans (S75.trans (S77.trans S81)))) [] rfl, ?_⟩
           refine wpAnyH_done (by kernel_rfl) (x_normal ?_) _
           exact ⟨b33, A73, N73, C73, b75, A77, N77, C77, F80.cut rfl, ((S28.trans (S33.trans (S73.trans (S75.trans (S77.trans S81))))).pick [0, 3, 4, 5, 2, 1] rfl)⟩
         · skip
           refine f_buildSl (ok := okS) (vs := []) F72 S33.at' (([] : List ByteArray)) ET_62 rfl rfl rfl rfl rfl rfl rfl rfl rfl (by simp) fun b82 _ w82 F83 S82 => ?_
           refine ⟨Sd.of (S33.trans S82) [] rfl, ?_⟩
           refine d_one (i := 4) (listed' := #[true, true, true, true, true, true, true, true, true, false, false, false, false]) rfl (by kernel_rfl) rfl rfl ?_
           refine f_app (news := x.touch.reads) F83 S82.at' 1 ET_62 rfl rfl rfl rfl rfl rfl (F83.ev 13 rfl) (F83.ev 16 rfl) ((Rd.mv (Nat.succ_pos _) V_v_x_touch_reads (S1.trans (T6.trans (S7.trans (S11.trans (T16.trans (S17.trans (S21.trans (T26.trans (S28.trans (S33.trans S82)))))))))))).1 (by ((repeat (first | rw [List.length_append] | rw [List.length_cons] | rw [List.length_nil] | rw [List.length_take] | rw [List.length_drop])) <;> omega)) fun A84 N84 C84 _ w84 F85 S84 l84 => ?_
           refine ⟨Sd.of (S33.trans (S82.trans S84)) [] rfl, ?_⟩
           refine d_one (i := 9) (listed' := #[true, true, true, true, true, true, true, true, true, true, false, false, false]) rfl (by kernel_rfl) rfl rfl ?_
           refine f_app (news := x.touch.writes) F85 S84.at' 1 ET_62 rfl rfl rfl rfl rfl rfl (F85.ev 18 rfl) (F85.ev 21 rfl) ((Rd.mv (Nat.succ_pos _) V_v_x_touch_writes (S1.trans (T6.trans (S7.trans (S11.trans (T16.trans (S17.trans (S21.trans (T26.trans (S28.trans (S33.trans (S82.trans S84))))))))))))).1 (by ((repeat (first | rw [List.length_append] | rw [List.length_cons] | rw [List.length_nil] | rw [List.length_take] | rw [List.length_drop])) <;> omega)) fun A86 N86 C86 _ w86 F87 S86 l86 => ?_
           refine ⟨Sd.of (S33.trans (S82.trans (S84.trans S86))) [] rfl, ?_⟩
           refine g_take (v := .agg #[.slice A84 N84 C84, .slice A86 N86 C86]) F87 rfl (i := 10) (listed' := #[true, true, true, true, true, true, true, true, true, true, true, false, false]) rfl (by kernel_rfl) (by kernel_rfl) (by kernel_rfl) (fun _ _ _ h => h) (Sd.of (S33.trans (S82.trans (S84.trans S86))) [] rfl) rfl rfl rfl rfl (fun _ hz => (r_build BI_69 rfl (lc (pr2 (F87.ev 17 rfl)) (lc (pr2 (F87.ev 22 rfl)) rfl)) rfl)) fun _ F88 => ?_
           refine g_take F88 rfl (i := 11) (listed' := #[true, true, true, true, true, true, true, true, true, true, true, true, false]) rfl (by kernel_rfl) (by kernel_rfl) (by kernel_rfl) (fun _ _ _ h => h) (Sd.of (S33.trans (S82.trans (S84.trans S86))) [] rfl) rfl rfl rfl rfl (fun _ hz => (r_field FI_71_6 rfl (F88.ev 1 rfl) rfl)) fun _ F89 => ?_
           refine d_one (i := 12) (listed' := #[true, true, true, true, true, true, true, true, true, true, true, true, true]) rfl (by kernel_rfl) rfl rfl ?_
           refine s_store S86.at' 2 TI_69 rfl rfl rfl rfl rfl (F89.ev 24 rfl) (F89.ev 23 rfl) rfl rfl rfl rfl rfl fun w90 S90 => ?_
           refine ⟨Sd.of (S33.trans (S82.trans (S84.trans (S86.trans S90)))) [] rfl, ?_⟩
           refine wpAnyH_done (by kernel_rfl) (x_normal ?_) _
           exact ⟨b33, A84, N84, C84, b82, A86, N86, C86, F89.cut rfl, ((S28.trans (S33.trans (S82.trans (S84.trans (S86.trans S90))))).pick [0, 3, 4, 5, 2, 1] rfl)⟩
     · skip
       refine f_buildSl (ok := okS) (vs := []) F34 S33.at' (([] : List ByteArray)) ET_62 rfl rfl rfl rfl rfl rfl rfl rfl rfl (by simp) fun b91 _ w91 F92 S91 => ?_
       refine ⟨Sd.of (S33.trans S91) [] rfl, ?_⟩
       refine d_all (rs := [3, 8]) rfl (by kernel_rfl) (by simp) (d_cons (i := 3) (listed' := #[true, true, true, true, false, true, true, true, false, false, false, false, false]) rfl rfl ?_ (d_cons (i := 8) (listed' := #[true, true, true, false, false, true, true, true, true, false, false, false, false]) rfl rfl ?_ d_nil))
       · skip
         refine f_val (v := .slice x_Ra x_Rn x_Rc) F92 rfl rfl (r_loadB S91.at' 2 TI_62 rfl rfl (F92.ev 15 rfl) rfl rfl (fun _ => rfl) rfl) rfl fun _ F93 => ?_
         refine ⟨Sd.of (S33.trans S91) [] rfl, ?_⟩
         refine d_all (rs := [4, 8]) rfl (by kernel_rfl) (by simp) (d_cons (i := 4) (listed' := #[true, true, true, true, true, true, true, true, false, false, false, false, false]) rfl rfl ?_ (d_cons (i := 8) (listed' := #[true, true, true, true, false, true, true, true, true, false, false, false, false]) rfl rfl ?_ d_nil))
         · skip
           refine f_app (news := x.touch.reads) F93 S91.at' 1 ET_62 rfl rfl rfl rfl rfl rfl (F93.ev 13 rfl) (F93.ev 16 rfl) ((Rd.mv (Nat.succ_pos _) V_v_x_touch_reads (S1.trans (T6.trans (S7.trans (S11.trans (T16.trans (S17.trans (S21.trans (T26.trans (S28.trans (S33.trans S91)))))))))))).1 (by ((repeat (first | rw [List.length_append] | rw [List.length_cons] | rw [List.length_nil] | rw [List.length_take] | rw [List.length_drop])) <;> omega)) fun A94 N94 C94 _ w94 F95 S94 l94 => ?_
           refine ⟨Sd.of (S33.trans (S91.trans S94)) [] rfl, ?_⟩
           refine d_one (i := 8) (listed' := #[true, true, true, true, true, true, true, true, true, false, false, false, false]) rfl (by kernel_rfl) rfl rfl ?_
           refine f_val (v := .slice x_Wa x_Wn x_Wc) F95 rfl rfl (r_loadB S94.at' 2 TI_62 rfl rfl (F95.ev 20 rfl) rfl rfl (fun _ => rfl) rfl) rfl fun _ F96 => ?_
           refine ⟨Sd.of (S33.trans (S91.trans S94)) [] rfl, ?_⟩
           refine d_one (i := 9) (listed' := #[true, true, true, true, true, true, true, true, true, true, false, false, false]) rfl (by kernel_rfl) rfl rfl ?_
           refine f_app (news := x.touch.writes) F96 S94.at' 1 ET_62 rfl rfl rfl rfl rfl rfl (F96.ev 18 rfl) (F96.ev 21 rfl) ((Rd.mv (Nat.succ_pos _) V_v_x_touch_writes (S1.trans (T6.trans (S7.trans (S11.trans (T16.trans (S17.trans (S21.trans (T26.trans (S28.trans (S33.trans (S91.trans S94))))))))))))).1 (by ((repeat (first | rw [List.length_append] | rw [List.length_cons] | rw [List.length_nil] | rw [List.length_take] | rw [List.length_drop])) <;> omega)) fun A97 N97 C97 _ w97 F98 S97 l97 => ?_
           refine ⟨Sd.of (S33.trans (S91.trans (S94.trans S97))) [] rfl, ?_⟩
           refine g_take (v := .agg #[.slice A94 N94 C94, .slice A97 N97 C97]) F98 rfl (i := 10) (listed' := #[true, true, true, true, true, true, true, true, true, true, true, false, false]) rfl (by kernel_rfl) (by kernel_rfl) (by kernel_rfl) (fun _ _ _ h => h) (Sd.of (S33.trans (S91.trans (S94.trans S97))) [] rfl) rfl rfl rfl rfl (fun _ hz => (r_build BI_69 rfl (lc (pr2 (F98.ev 17 rfl)) (lc (pr2 (F98.ev 22 rfl)) rfl)) rfl)) fun _ F99 => ?_
           refine g_take F99 rfl (i := 11) (listed' := #[true, true, true, true, true, true, true, true, true, true, true, true, false]) rfl (by kernel_rfl) (by kernel_rfl) (by kernel_rfl) (fun _ _ _ h => h) (Sd.of (S33.trans (S91.trans (S94.trans S97))) [] rfl) rfl rfl rfl rfl (fun _ hz => (r_field FI_71_6 rfl (F99.ev 1 rfl) rfl)) fun _ F100 => ?_
           refine d_one (i := 12) (listed' := #[true, true, true, true, true, true, true, true, true, true, true, true, true]) rfl (by kernel_rfl) rfl rfl ?_
           refine s_store S97.at' 2 TI_69 rfl rfl rfl rfl rfl (F100.ev 24 rfl) (F100.ev 23 rfl) rfl rfl rfl rfl rfl fun w101 S101 => ?_
           refine ⟨Sd.of (S33.trans (S91.trans (S94.trans (S97.trans S101)))) [] rfl, ?_⟩
           refine wpAnyH_done (by kernel_rfl) (x_normal ?_) _
           exact ⟨b33, A94, N94, C94, b91, A97, N97, C97, F100.cut rfl, ((S28.trans (S33.trans (S91.trans (S94.trans (S97.trans S101))))).pick [0, 3, 4, 5, 2, 1] rfl)⟩
         · skip
           refine f_val (v := .slice x_Wa x_Wn x_Wc) F93 rfl rfl (r_loadB S91.at' 2 TI_62 rfl rfl (F93.ev 20 rfl) rfl rfl (fun _ => rfl) rfl) rfl fun _ F102 => ?_
           refine ⟨Sd.of (S33.trans S91) [] rfl, ?_⟩
           refine d_one (i := 4) (listed' := #[true, true, true, true, true, true, true, true, true, false, false, false, false]) rfl (by kernel_rfl) rfl rfl ?_
           refine f_app (news := x.touch.reads) F102 S91.at' 1 ET_62 rfl rfl rfl rfl rfl rfl (F102.ev 13 rfl) (F102.ev 16 rfl) ((Rd.mv (Nat.succ_pos _) V_v_x_touch_reads (S1.trans (T6.trans (S7.trans (S11.trans (T16.trans (S17.trans (S21.trans (T26.trans (S28.trans (S33.trans S91)))))))))))).1 (by ((repeat (first | rw [List.length_append] | rw [List.length_cons] | rw [List.length_nil] | rw [List.length_take] | rw [List.length_drop])) <;> omega)) fun A103 N103 C103 _ w103 F104 S103 l103 => ?_
           refine ⟨Sd.of (S33.trans (S91.trans S103)) [] rfl, ?_⟩
           refine d_one (i := 9) (listed' := #[true, true, true, true, true, true, true, true, true, true, false, false, false]) rfl (by kernel_rfl) rfl rfl ?_
           refine f_app (news := x.touch.writes) F104 S103.at' 1 ET_62 rfl rfl rfl rfl rfl rfl (F104.ev 18 rfl) (F104.ev 21 rfl) ((Rd.mv (Nat.succ_pos _) V_v_x_touch_writes (S1.trans (T6.trans (S7.trans (S11.trans (T16.trans (S17.trans (S21.trans (T26.trans (S28.trans (S33.trans (S91.trans S103))))))))))))).1 (by ((repeat (first | rw [List.length_append] | rw [List.length_cons] | rw [List.length_nil] | rw [List.length_take] | rw [List.length_drop])) <;> omega)) fun A105 N105 C105 _ w105 F106 S105 l105 => ?_
           refine ⟨Sd.of (S33.trans (S91.trans (S103.trans S105))) [] rfl, ?_⟩
           refine g_take (v := .agg #[.slice A103 N103 C103, .slice A105 N105 C105]) F106 rfl (i := 10) (listed' := #[true, true, true, true, true, true, true, true, true, true, true, false, false]) rfl (by kernel_rfl) (by kernel_rfl) (by kernel_rfl) (fun _ _ _ h => h) (Sd.of (S33.trans (S91.trans (S103.trans S105))) [] rfl) rfl rfl rfl rfl (fun _ hz => (r_build BI_69 rfl (lc (pr2 (F106.ev 17 rfl)) (lc (pr2 (F106.ev 22 rfl)) rfl)) rfl)) fun _ F107 => ?_
           refine g_take F107 rfl (i := 11) (listed' := #[true, true, true, true, true, true, true, true, true, true, true, true, false]) rfl (by kernel_rfl) (by kernel_rfl) (by kernel_rfl) (fun _ _ _ h => h) (Sd.of (S33.trans (S91.trans (S103.trans S105))) [] rfl) rfl rfl rfl rfl (fun _ hz => (r_field FI_71_6 rfl (F107.ev 1 rfl) rfl)) fun _ F108 => ?_
           refine d_one (i := 12) (listed' := #[true, true, true, true, true, true, true, true, true, true, true, true, true]) rfl (by kernel_rfl) rfl rfl ?_
           refine s_store S105.at' 2 TI_69 rfl rfl rfl rfl rfl (F108.ev 24 rfl) (F108.ev 23 rfl) rfl rfl rfl rfl rfl fun w109 S109 => ?_
           refine ⟨Sd.of (S33.trans (S91.trans (S103.trans (S105.trans S109)))) [] rfl, ?_⟩
           refine wpAnyH_done (by kernel_rfl) (x_normal ?_) _
           exact ⟨b33, A103, N103, C103, b91, A105, N105, C105, F108.cut rfl, ((S28.trans (S33.trans (S91.trans (S103.trans (S105.trans S109))))).pick [0, 3, 4, 5, 2, 1] rfl)⟩
       · skip
         refine f_val (v := .slice x_Wa x_Wn x_Wc) F92 rfl rfl (r_loadB S91.at' 2 TI_62 rfl rfl (F92.ev 20 rfl) rfl rfl (fun _ => rfl) rfl) rfl fun _ F110 => ?_
         refine ⟨Sd.of (S33.trans S91) [] rfl, ?_⟩
         refine d_one (i := 3) (listed' := #[true, true, true, true, false, true, true, true, true, false, false, false, false]) rfl (by kernel_rfl) rfl rfl ?_
         refine f_val (v := .slice x_Ra x_Rn x_Rc) F110 rfl rfl (r_loadB S91.at' 2 TI_62 rfl rfl (F110.ev 15 rfl) rfl rfl (fun _ => rfl) rfl) rfl fun _ F111 => ?_
         refine ⟨Sd.of (S33.trans S91) [] rfl, ?_⟩
         refine d_one (i := 4) (listed' := #[true, true, true, true, true, true, true, true, true, false, false, false, false]) rfl (by kernel_rfl) rfl rfl ?_
         refine f_app (news := x.touch.reads) F111 S91.at' 1 ET_62 rfl rfl rfl rfl rfl rfl (F111.ev 13 rfl) (F111.ev 16 rfl) ((Rd.mv (Nat.succ_pos _) V_v_x_touch_reads (S1.trans (T6.trans (S7.trans (S11.trans (T16.trans (S17.trans (S21.trans (T26.trans (S28.trans (S33.trans S91)))))))))))).1 (by ((repeat (first | rw [List.length_append] | rw [List.length_cons] | rw [List.length_nil] | rw [List.length_take] | rw [List.length_drop])) <;> omega)) fun A112 N112 C112 _ w112 F113 S112 l112 => ?_
         refine ⟨Sd.of (S33.trans (S91.trans S112)) [] rfl, ?_⟩
         refine d_one (i := 9) (listed' := #[true, true, true, true, true, true, true, true, true, true, false, false, false]) rfl (by kernel_rfl) rfl rfl ?_
         refine f_app (news := x.touch.writes) F113 S112.at' 1 ET_62 rfl rfl rfl rfl rfl rfl (F113.ev 18 rfl) (F113.ev 21 rfl) ((Rd.mv (Nat.succ_pos _) V_v_x_touch_writes (S1.trans (T6.trans (S7.trans (S11.trans (T16.trans (S17.trans (S21.trans (T26.trans (S28.trans (S33.trans (S91.trans S112))))))))))))).1 (by ((repeat (first | rw [List.length_append] | rw [List.length_cons] | rw [List.length_nil] | rw [List.length_take] | rw [List.length_drop])) <;> omega)) fun A114 N114 C114 _ w114 F115 S114 l114 => ?_
         refine ⟨Sd.of (S33.trans (S91.trans (S112.trans S114))) [] rfl, ?_⟩
         refine g_take (v := .agg #[.slice A112 N112 C112, .slice A114 N114 C114]) F115 rfl (i := 10) (listed' := #[true, true, true, true, true, true, true, true, true, true, true, false, false]) rfl (by kernel_rfl) (by kernel_rfl) (by kernel_rfl) (fun _ _ _ h => h) (Sd.of (S33.trans (S91.trans (S112.trans S114))) [] rfl) rfl rfl rfl rfl (fun _ hz => (r_build BI_69 rfl (lc (pr2 (F115.ev 17 rfl)) (lc (pr2 (F115.ev 22 rfl)) rfl)) rfl)) fun _ F116 => ?_
         refine g_take F116 rfl (i := 11) (listed' := #[true, true, true, true, true, true, true, true, true, true, true, true, false]) rfl (by kernel_rfl) (by kernel_rfl) (by kernel_rfl) (fun _ _ _ h => h) (Sd.of (S33.trans (S91.trans (S112.trans S114))) [] rfl) rfl rfl rfl rfl (fun _ hz => (r_field FI_71_6 rfl (F116.ev 1 rfl) rfl)) fun _ F117 => ?_
         refine d_one (i := 12) (listed' := #[true, true, true, true, true, true, true, true, true, true, true, true, true]) rfl (by kernel_rfl) rfl rfl ?_
         refine s_store S114.at' 2 TI_69 rfl rfl rfl rfl rfl (F117.ev 24 rfl) (F117.ev 23 rfl) rfl rfl rfl rfl rfl fun w118 S118 => ?_
         refine ⟨Sd.of (S33.trans (S91.trans (S112.trans (S114.trans S118)))) [] rfl, ?_⟩
         refine wpAnyH_done (by kernel_rfl) (x_normal ?_) _
         exact ⟨b33, A112, N112, C112, b91, A114, N114, C114, F117.cut rfl, ((S28.trans (S33.trans (S91.trans (S112.trans (S114.trans S118))))).pick [0, 3, 4, 5, 2, 1] rfl)⟩
     · skip
       refine f_val (v := .slice x_Wa x_Wn x_Wc) F34 rfl rfl (r_loadB S33.at' 1 TI_62 rfl rfl (F34.ev 20 rfl) rfl rfl (fun _ => rfl) rfl) rfl fun _ F119 => ?_
       refine ⟨Sd.of S33 [] rfl, ?_⟩
       refine d_all (rs := [3, 5]) rfl (by kernel_rfl) (by simp) (d_cons (i := 3) (listed' := #[true, true, true, true, false, false, true, true, true, false, false, false, false]) rfl rfl ?_ (d_cons (i := 5) (listed' := #[true, true, true, false, false, true, true, true, true, false, false, false, false]) rfl rfl ?_ d_nil))
       · skip
         refine f_val (v := .slice x_Ra x_Rn x_Rc) F119 rfl rfl (r_loadB S33.at' 1 TI_62 rfl rfl (F119.ev 15 rfl) rfl rfl (fun _ => rfl) rfl) rfl fun _ F120 => ?_
         refine ⟨Sd.of S33 [] rfl, ?_⟩
         refine d_all (rs := [4, 5]) rfl (by kernel_rfl) (by simp) (d_cons (i := 4) (listed' := #[true, true, true, true, true, false, true, true, true, false, false, false, false]) rfl rfl ?_ (d_cons (i := 5) (listed' := #[true, true, true, true, false, true, true, true, true, false, false, false, false]) rfl rfl ?_ d_nil))
         · skip
           refine f_app (news := x.touch.reads) F120 S33.at' 0 ET_62 rfl rfl rfl rfl rfl rfl (F120.ev 13 rfl) (F120.ev 16 rfl) ((Rd.mv (Nat.succ_pos _) V_v_x_touch_reads (S1.trans (T6.trans (S7.trans (S11.trans (T16.trans (S17.trans (S21.trans (T26.trans (S28.trans S33))))))))))).1 (by ((repeat (first | rw [List.length_append] | rw [List.length_cons] | rw [List.length_nil] | rw [List.length_take] | rw [List.length_drop])) <;> omega)) fun A121 N121 C121 _ w121 F122 S121 l121 => ?_
           refine ⟨Sd.of (S33.trans S121) [] rfl, ?_⟩
           refine d_one (i := 5) (listed' := #[true, true, true, true, true, true, true, true, true, false, false, false, false]) rfl (by kernel_rfl) rfl rfl ?_
           refine f_buildSl (ok := okS) (vs := []) F122 S121.at' (([] : List ByteArray)) ET_62 rfl rfl rfl rfl rfl rfl rfl rfl rfl (by simp) fun b123 _ w123 F124 S123 => ?_
           refine ⟨Sd.of (S33.trans (S121.trans S123)) [] rfl, ?_⟩
           refine d_one (i := 9) (listed' := #[true, true, true, true, true, true, true, true, true, true, false, false, false]) rfl (by kernel_rfl) rfl rfl ?_
           refine f_app (news := x.touch.writes) F124 S123.at' 0 ET_62 rfl rfl rfl rfl rfl rfl (F124.ev 18 rfl) (F124.ev 21 rfl) ((Rd.mv (Nat.succ_pos _) V_v_x_touch_writes (S1.trans (T6.trans (S7.trans (S11.trans (T16.trans (S17.trans (S21.trans (T26.trans (S28.trans (S33.trans (S121.trans S123))))))))))))).1 (by ((repeat (first | rw [List.length_append] | rw [List.length_cons] | rw [List.length_nil] | rw [List.length_take] | rw [List.length_drop])) <;> omega)) fun A125 N125 C125 _ w125 F126 S125 l125 => ?_
           refine ⟨Sd.of (S33.trans (S121.trans (S123.trans S125))) [] rfl, ?_⟩
           refine g_take (v := .agg #[.slice A121 N121 C121, .slice A125 N125 C125]) F126 rfl (i := 10) (listed' := #[true, true, true, true, true, true, true, true, true, true, true, false, false]) rfl (by kernel_rfl) (by kernel_rfl) (by kernel_rfl) (fun _ _ _ h => h) (Sd.of (S33.trans (S121.trans (S123.trans S125))) [] rfl) rfl rfl rfl rfl (fun _ hz => (r_build BI_69 rfl (lc (pr2 (F126.ev 17 rfl)) (lc (pr2 (F126.ev 22 rfl)) rfl)) rfl)) fun _ F127 => ?_
           refine g_take F127 rfl (i := 11) (listed' := #[true, true, true, true, true, true, true, true, true, true, true, true, false]) rfl (by kernel_rfl) (by kernel_rfl) (by kernel_rfl) (fun _ _ _ h => h) (Sd.of (S33.trans (S121.trans (S123.trans S125))) [] rfl) rfl rfl rfl rfl (fun _ hz => (r_field FI_71_6 rfl (F127.ev 1 rfl) rfl)) fun _ F128 => ?_
           refine d_one (i := 12) (listed' := #[true, true, true, true, true, true, true, true, true, true, true, true, true]) rfl (by kernel_rfl) rfl rfl ?_
           refine s_store S125.at' 2 TI_69 rfl rfl rfl rfl rfl (F128.ev 24 rfl) (F128.ev 23 rfl) rfl rfl rfl rfl rfl fun w129 S129 => ?_
           refine ⟨Sd.of (S33.trans (S121.trans (S123.trans (S125.trans S129)))) [] rfl, ?_⟩
           refine wpAnyH_done (by kernel_rfl) (x_normal ?_) _
           exact ⟨b33, A121, N121, C121, b123, A125, N125, C125, F128.cut rfl, ((S28.trans (S33.trans (S121.trans (S123.trans (S125.trans S129))))).pick [0, 3, 4, 5, 2, 1] rfl)⟩
         · skip
           refine f_buildSl (ok := okS) (vs := []) F120 S33.at' (([] : List ByteArray)) ET_62 rfl rfl rfl rfl rfl rfl rfl rfl rfl (by simp) fun b130 _ w130 F131 S130 => ?_
           refine ⟨Sd.of (S33.trans S130) [] rfl, ?_⟩
           refine d_one (i := 4) (listed' := #[true, true, true, true, true, true, true, true, true, false, false, false, false]) rfl (by kernel_rfl) rfl rfl ?_
           refine f_app (news := x.touch.reads) F131 S130.at' 1 ET_62 rfl rfl rfl rfl rfl rfl (F131.ev 13 rfl) (F131.ev 16 rfl) ((Rd.mv (Nat.succ_pos _) V_v_x_touch_reads (S1.trans (T6.trans (S7.trans (S11.trans (T16.trans (S17.trans (S21.trans (T26.trans (S28.trans (S33.trans S130)))))))))))).1 (by ((repeat (first | rw [List.length_append] | rw [List.length_cons] | rw [List.length_nil] | rw [List.length_take] | rw [List.length_drop])) <;> omega)) fun A132 N132 C132 _ w132 F133 S132 l132 => ?_
           refine ⟨Sd.of (S33.trans (S130.trans S132)) [] rfl, ?_⟩
           refine d_one (i := 9) (listed' := #[true, true, true, true, true, true, true, true, true, true, false, false, false]) rfl (by kernel_rfl) rfl rfl ?_
           refine f_app (news := x.touch.writes) F133 S132.at' 1 ET_62 rfl rfl rfl rfl rfl rfl (F133.ev 18 rfl) (F133.ev 21 rfl) ((Rd.mv (Nat.succ_pos _) V_v_x_touch_writes (S1.trans (T6.trans (S7.trans (S11.trans (T16.trans (S17.trans (S21.trans (T26.trans (S28.trans (S33.trans (S130.trans S132))))))))))))).1 (by ((repeat (first | rw [List.length_append] | rw [List.length_cons] | rw [List.length_nil] | rw [List.length_take] | rw [List.length_drop])) <;> omega)) fun A134 N134 C134 _ w134 F135 S134 l134 => ?_
           refine ⟨Sd.of (S33.trans (S130.trans (S132.trans S134))) [] rfl, ?_⟩
           refine g_take (v := .agg #[.slice A132 N132 C132, .slice A134 N134 C134]) F135 rfl (i := 10) (listed' := #[true, true, true, true, true, true, true, true, true, true, true, false, false]) rfl (by kernel_rfl) (by kernel_rfl) (by kernel_rfl) (fun _ _ _ h => h) (Sd.of (S33.trans (S130.trans (S132.trans S134))) [] rfl) rfl rfl rfl rfl (fun _ hz => (r_build BI_69 rfl (lc (pr2 (F135.ev 17 rfl)) (lc (pr2 (F135.ev 22 rfl)) rfl)) rfl)) fun _ F136 => ?_
           refine g_take F136 rfl (i := 11) (listed' := #[true, true, true, true, true, true, true, true, true, true, true, true, false]) rfl (by kernel_rfl) (by kernel_rfl) (by kernel_rfl) (fun _ _ _ h => h) (Sd.of (S33.trans (S130.trans (S132.trans S134))) [] rfl) rfl rfl rfl rfl (fun _ hz => (r_field FI_71_6 rfl (F136.ev 1 rfl) rfl)) fun _ F137 => ?_
           refine d_one (i := 12) (listed' := #[true, true, true, true, true, true, true, true, true, true, true, true, true]) rfl (by kernel_rfl) rfl rfl ?_
           refine s_store S134.at' 2 TI_69 rfl rfl rfl rfl rfl (F137.ev 24 rfl) (F137.ev 23 rfl) rfl rfl rfl rfl rfl fun w138 S138 => ?_
           refine ⟨Sd.of (S33.trans (S130.trans (S132.trans (S134.trans S138)))) [] rfl, ?_⟩
           refine wpAnyH_done (by kernel_rfl) (x_normal ?_) _
           exact ⟨b33, A132, N132, C132, b130, A134, N134, C134, F137.cut rfl, ((S28.trans (S33.trans (S130.trans (S132.trans (S134.trans S138))))).pick [0, 3, 4, 5, 2, 1] rfl)⟩
       · skip
         refine f_buildSl (ok := okS) (vs := []) F119 S33.at' (([] : List ByteArray)) ET_62 rfl rfl rfl rfl rfl rfl rfl rfl rfl (by simp) fun b139 _ w139 F140 S139 => ?_
         refine ⟨Sd.of (S33.trans S139) [] rfl, ?_⟩
         refine d_one (i := 3) (listed' := #[true, true, true, true, false, true, true, true, true, false, false, false, false]) rfl (by kernel_rfl) rfl rfl ?_
         refine f_val (v := .slice x_Ra x_Rn x_Rc) F140 rfl rfl (r_loadB S139.at' 2 TI_62 rfl rfl (F140.ev 15 rfl) rfl rfl (fun _ => rfl) rfl) rfl fun _ F141 => ?_
         refine ⟨Sd.of (S33.trans S139) [] rfl, ?_⟩
         refine d_one (i := 4) (listed' := #[true, true, true, true, true, true, true, true, true, false, false, false, false]) rfl (by kernel_rfl) rfl rfl ?_
         refine f_app (news := x.touch.reads) F141 S139.at' 1 ET_62 rfl rfl rfl rfl rfl rfl (F141.ev 13 rfl) (F141.ev 16 rfl) ((Rd.mv (Nat.succ_pos _) V_v_x_touch_reads (S1.trans (T6.trans (S7.trans (S11.trans (T16.trans (S17.trans (S21.trans (T26.trans (S28.trans (S33.trans S139)))))))))))).1 (by ((repeat (first | rw [List.length_append] | rw [List.length_cons] | rw [List.length_nil] | rw [List.length_take] | rw [List.length_drop])) <;> omega)) fun A142 N142 C142 _ w142 F143 S142 l142 => ?_
         refine ⟨Sd.of (S33.trans (S139.trans S142)) [] rfl, ?_⟩
         refine d_one (i := 9) (listed' := #[true, true, true, true, true, true, true, true, true, true, false, false, false]) rfl (by kernel_rfl) rfl rfl ?_
         refine f_app (news := x.touch.writes) F143 S142.at' 1 ET_62 rfl rfl rfl rfl rfl rfl (F143.ev 18 rfl) (F143.ev 21 rfl) ((Rd.mv (Nat.succ_pos _) V_v_x_touch_writes (S1.trans (T6.trans (S7.trans (S11.trans (T16.trans (S17.trans (S21.trans (T26.trans (S28.trans (S33.trans (S139.trans S142))))))))))))).1 (by ((repeat (first | rw [List.length_append] | rw [List.length_cons] | rw [List.length_nil] | rw [List.length_take] | rw [List.length_drop])) <;> omega)) fun A144 N144 C144 _ w144 F145 S144 l144 => ?_
         refine ⟨Sd.of (S33.trans (S139.trans (S142.trans S144))) [] rfl, ?_⟩
         refine g_take (v := .agg #[.slice A142 N142 C142, .slice A144 N144 C144]) F145 rfl (i := 10) (listed' := #[true, true, true, true, true, true, true, true, true, true, true, false, false]) rfl (by kernel_rfl) (by kernel_rfl) (by kernel_rfl) (fun _ _ _ h => h) (Sd.of (S33.trans (S139.trans (S142.trans S144))) [] rfl) rfl rfl rfl rfl (fun _ hz => (r_build BI_69 rfl (lc (pr2 (F145.ev 17 rfl)) (lc (pr2 (F145.ev 22 rfl)) rfl)) rfl)) fun _ F146 => ?_
         refine g_take F146 rfl (i := 11) (listed' := #[true, true, true, true, true, true, true, true, true, true, true, true, false]) rfl (by kernel_rfl) (by kernel_rfl) (by kernel_rfl) (fun _ _ _ h => h) (Sd.of (S33.trans (S139.trans (S142.trans S144))) [] rfl) rfl rfl rfl rfl (fun _ hz => (r_field FI_71_6 rfl (F146.ev 1 rfl) rfl)) fun _ F147 => ?_
         refine d_one (i := 12) (listed' := #[true, true, true, true, true, true, true, true, true, true, true, true, true]) rfl (by kernel_rfl) rfl rfl ?_
         refine s_store S144.at' 2 TI_69 rfl rfl rfl rfl rfl (F147.ev 24 rfl) (F147.ev 23 rfl) rfl rfl rfl rfl rfl fun w148 S148 => ?_
         refine ⟨Sd.of (S33.trans (S139.trans (S142.trans (S144.trans S148)))) [] rfl, ?_⟩
         refine wpAnyH_done (by kernel_rfl) (x_normal ?_) _
         exact ⟨b33, A142, N142, C142, b139, A144, N144, C144, F147.cut rfl, ((S28.trans (S33.trans (S139.trans (S142.trans (S144.trans S148))))).pick [0, 3, 4, 5, 2, 1] rfl)⟩
   · skip
     refine f_val (v := .slice x_Ra x_Rn x_Rc) F32 rfl rfl (r_loadB S28.at' 0 TI_62 rfl rfl (F32.ev 15 rfl) rfl rfl (fun _ => rfl) rfl) rfl fun _ F149 => ?_
     refine ⟨Sd.of (Mv.refl S28.at') [] rfl, ?_⟩
     refine d_all (rs := [0, 5, 8]) rfl (by kernel_rfl) (by simp) (d_cons (i := 0) (listed' := #[true, true, true, true, false, false, true, true, false, false, false, false, false]) rfl rfl ?_ (d_cons (i := 5) (listed' := #[false, true, true, true, false, true, true, true, false, false, false, false, false]) rfl rfl ?_ (d_cons (i := 8) (listed' := #[false, true, true, true, false, false, true, true, true, false, false, false, false]) rfl rfl ?_ d_nil)))
     · skip
       refine f_buildSl (ok := okS) (vs := []) F149 S28.at' (([] : List ByteArray)) ET_62 rfl rfl rfl rfl rfl rfl rfl rfl rfl (by simp) fun b150 _ w150 F151 S150 => ?_
       refine ⟨Sd.of S150 [] rfl, ?_⟩
       refine d_all (rs := [4, 5, 8]) rfl (by kernel_rfl) (by simp) (d_cons (i := 4) (listed' := #[true, true, true, true, true, false, true, true, false, false, false, false, false]) rfl rfl ?_ (d_cons (i := 5) (listed' := #[true, true, true, true, false, true, true, true, false, false, false, false, false]) rfl rfl ?_ (d_cons (i := 8) (listed' := #[true, true, true, true, false, false, true, true, true, false, false, false, false]) rfl rfl ?_ d_nil)))
       · skip
         refine f_app (news := x.touch.reads) F151 S150.at' 0 ET_62 rfl rfl rfl rfl rfl rfl (F151.ev 13 rfl) (F151.ev 16 rfl) ((Rd.mv (Nat.succ_pos _) V_v_x_touch_reads (S1.trans (T6.trans (S7.trans (S11.trans (T16.trans (S17.trans (S21.trans (T26.trans (S28.trans S150))))))))))).1 (by ((repeat (first | rw [List.length_append] | rw [List.length_cons] | rw [List.length_nil] | rw [List.length_take] | rw [List.length_drop])) <;> omega)) fun A152 N152 C152 _ w152 F153 S152 l152 => ?_
         refine ⟨Sd.of (S150.trans S152) [] rfl, ?_⟩
         refine d_all (rs := [5, 8]) rfl (by kernel_rfl) (by simp) (d_cons (i := 5) (listed' := #[true, true, true, true, true, true, true, true, false, false, false, false, false]) rfl rfl ?_ (d_cons (i := 8) (listed' := #[true, true, true, true, true, false, true, true, true, false, false, false, false]) rfl rfl ?_ d_nil))
         · skip
           refine f_buildSl (ok := okS) (vs := []) F153 S152.at' (([] : List ByteArray)) ET_62 rfl rfl rfl rfl rfl rfl rfl rfl rfl (by simp) fun b154 _ w154 F155 S154 => ?_
           refine ⟨Sd.of (S150.trans (S152.trans S154)) [] rfl, ?_⟩
           refine d_one (i := 8) (listed' := #[true, true, true, true, true, true, true, true, true, false, false, false, false]) rfl (by kernel_rfl) rfl rfl ?_
           refine f_val (v := .slice x_Wa x_Wn x_Wc) F155 rfl rfl (r_loadB S154.at' 2 TI_62 rfl rfl (F155.ev 20 rfl) rfl rfl (fun _ => rfl) rfl) rfl fun _ F156 => ?_
           refine ⟨Sd.of (S150.trans (S152.trans S154)) [] rfl, ?_⟩
           refine d_one (i := 9) (listed' := #[true, true, true, true, true, true, true, true, true, true, false, false, false]) rfl (by kernel_rfl) rfl rfl ?_
           refine f_app (news := x.touch.writes) F156 S154.at' 0 ET_62 rfl rfl rfl rfl rfl rfl (F156.ev 18 rfl) (F156.ev 21 rfl) ((Rd.mv (Nat.succ_pos _) V_v_x_touch_writes (S1.trans (T6.trans (S7.trans (S11.trans (T16.trans (S17.trans (S21.trans (T26.trans (S28.trans (S150.trans (S152.trans S154))))))))))))).1 (by ((repeat (first | rw [List.length_append] | rw [List.length_cons] | rw [List.length_nil] | rw [List.length_take] | rw [List.length_drop])) <;> omega)) fun A157 N157 C157 _ w157 F158 S157 l157 => ?_
           refine ⟨Sd.of (S150.trans (S152.trans (S154.trans S157))) [] rfl, ?_⟩
           refine g_take (v := .agg #[.slice A152 N152 C152, .slice A157 N157 C157]) F158 rfl (i := 10) (listed' := #[true, true, true, true, true, true, true, true, true, true, true, false, false]) rfl (by kernel_rfl) (by kernel_rfl) (by kernel_rfl) (fun _ _ _ h => h) (Sd.of (S150.trans (S152.trans (S154.trans S157))) [] rfl) rfl rfl rfl rfl (fun _ hz => (r_build BI_69 rfl (lc (pr2 (F158.ev 17 rfl)) (lc (pr2 (F158.ev 22 rfl)) rfl)) rfl)) fun _ F159 => ?_
           refine g_take F159 rfl (i := 11) (listed' := #[true, true, true, true, true, true, true, true, true, true, true, true, false]) rfl (by kernel_rfl) (by kernel_rfl) (by kernel_rfl) (fun _ _ _ h => h) (Sd.of (S150.trans (S152.trans (S154.trans S157))) [] rfl) rfl rfl rfl rfl (fun _ hz => (r_field FI_71_6 rfl (F159.ev 1 rfl) rfl)) fun _ F160 => ?_
           refine d_one (i := 12) (listed' := #[true, true, true, true, true, true, true, true, true, true, true, true, true]) rfl (by kernel_rfl) rfl rfl ?_
           refine s_store S157.at' 2 TI_69 rfl rfl rfl rfl rfl (F160.ev 24 rfl) (F160.ev 23 rfl) rfl rfl rfl rfl rfl fun w161 S161 => ?_
           refine ⟨Sd.of (S150.trans (S152.trans (S154.trans (S157.trans S161)))) [] rfl, ?_⟩
           refine wpAnyH_done (by kernel_rfl) (x_normal ?_) _
           exact ⟨b150, A152, N152, C152, b154, A157, N157, C157, F160.cut rfl, ((S28.trans (S150.trans (S152.trans (S154.trans (S157.trans S161))))).pick [0, 3, 4, 5, 2, 1] rfl)⟩
         · skip
           refine f_val (v := .slice x_Wa x_Wn x_Wc) F153 rfl rfl (r_loadB S152.at' 1 TI_62 rfl rfl (F153.ev 20 rfl) rfl rfl (fun _ => rfl) rfl) rfl fun _ F162 => ?_
           refine ⟨Sd.of (S150.trans S152) [] rfl, ?_⟩
           refine d_one (i := 5) (listed' := #[true, true, true, true, true, true, true, true, true, false, false, false, false]) rfl (by kernel_rfl) rfl rfl ?_
           refine f_buildSl (ok := okS) (vs := []) F162 S152.at' (([] : List ByteArray)) ET_62 rfl rfl rfl rfl rfl rfl rfl rfl rfl (by simp) fun b163 _ w163 F164 S163 => ?_
           refine ⟨Sd.of (S150.trans (S152.trans S163)) [] rfl, ?_⟩
           refine d_one (i := 9) (listed' := #[true, true, true, true, true, true, true, true, true, true, false, false, false]) rfl (by kernel_rfl) rfl rfl ?_
           refine f_app (news := x.touch.writes) F164 S163.at' 0 ET_62 rfl rfl rfl rfl rfl rfl (F164.ev 18 rfl) (F164.ev 21 rfl) ((Rd.mv (Nat.succ_pos _) V_v_x_touch_writes (S1.trans (T6.trans (S7.trans (S11.trans (T16.trans (S17.trans (S21.trans (T26.trans (S28.trans (S150.trans (S152.trans S163))))))))))))).1 (by ((repeat (first | rw [List.length_append] | rw [List.length_cons] | rw [List.length_nil] | rw [List.length_take] | rw [List.length_drop])) <;> omega)) fun A165 N165 C165 _ w165 F166 S165 l165 => ?_
           refine ⟨Sd.of (S150.trans (S152.trans (S163.trans S165))) [] rfl, ?_⟩
           refine g_take (v := .agg #[.slice A152 N152 C152, .slice A165 N165 C165]) F166 rfl (i := 10) (listed' := #[true, true, true, true, true, true, true, true, true, true, true, false, false]) rfl (by kernel_rfl) (by kernel_rfl) (by kernel_rfl) (fun _ _ _ h => h) (Sd.of (S150.trans (S152.trans (S163.trans S165))) [] rfl) rfl rfl rfl rfl (fun _ hz => (r_build BI_69 rfl (lc (pr2 (F166.ev 17 rfl)) (lc (pr2 (F166.ev 22 rfl)) rfl)) rfl)) fun _ F167 => ?_
           refine g_take F167 rfl (i := 11) (listed' := #[true, true, true, true, true, true, true, true, true, true, true, true, false]) rfl (by kernel_rfl) (by kernel_rfl) (by kernel_rfl) (fun _ _ _ h => h) (Sd.of (S150.trans (S152.trans (S163.trans S165))) [] rfl) rfl rfl rfl rfl (fun _ hz => (r_field FI_71_6 rfl (F167.ev 1 rfl) rfl)) fun _ F168 => ?_
           refine d_one (i := 12) (listed' := #[true, true, true, true, true, true, true, true, true, true, true, true, true]) rfl (by kernel_rfl) rfl rfl ?_
           refine s_store S165.at' 2 TI_69 rfl rfl rfl rfl rfl (F168.ev 24 rfl) (F168.ev 23 rfl) rfl rfl rfl rfl rfl fun w169 S169 => ?_
           refine ⟨Sd.of (S150.trans (S152.trans (S163.trans (S165.trans S169)))) [] rfl, ?_⟩
           refine wpAnyH_done (by kernel_rfl) (x_normal ?_) _
           exact ⟨b150, A152, N152, C152, b163, A165, N165, C165, F168.cut rfl, ((S28.trans (S150.trans (S152.trans (S163.trans (S165.trans S169))))).pick [0, 3, 4, 5, 2, 1] rfl)⟩
       · skip
         refine f_buildSl (ok := okS) (vs := []) F151 S150.at' (([] : List ByteArray)) ET_62 rfl rfl rfl rfl rfl rfl rfl rfl rfl (by simp) fun b170 _ w170 F171 S170 => ?_
         refine ⟨Sd.of (S150.trans S170) [] rfl, ?_⟩
         refine d_all (rs := [4, 8]) rfl (by kernel_rfl) (by simp) (d_cons (i := 4) (listed' := #[true, true, true, true, true, true, true, true, false, false, false, false, false]) rfl rfl ?_ (d_cons (i := 8) (listed' := #[true, true, true, true, false, true, true, true, true, false, false, false, false]) rfl rfl ?_ d_nil))
         · skip
           refine f_app (news := x.touch.reads) F171 S170.at' 1 ET_62 rfl rfl rfl rfl rfl rfl (F171.ev 13 rfl) (F171.ev 16 rfl) ((Rd.mv (Nat.succ_pos _) V_v_x_touch_reads (S1.trans (T6.trans (S7.trans (S11.trans (T16.trans (S17.trans (S21.trans (T26.trans (S28.trans (S150.trans S170)))))))))))).1 (by ((repeat (first | rw [List.length_append] | rw [List.length_cons] | rw [List.length_nil] | rw [List.length_take] | rw [List.length_drop])) <;> omega)) fun A172 N172 C172 _ w172 F173 S172 l172 => ?_
           refine ⟨Sd.of (S150.trans (S170.trans S172)) [] rfl, ?_⟩
           refine d_one (i := 8) (listed' := #[true, true, true, true, true, true, true, true, true, false, false, false, false]) rfl (by kernel_rfl) rfl rfl ?_
           refine f_val (v := .slice x_Wa x_Wn x_Wc) F173 rfl rfl (r_loadB S172.at' 2 TI_62 rfl rfl (F173.ev 20 rfl) rfl rfl (fun _ => rfl) rfl) rfl fun _ F174 => ?_
           refine ⟨Sd.of (S150.trans (S170.trans S172)) [] rfl, ?_⟩
           refine d_one (i := 9) (listed' := #[true, true, true, true, true, true, true, true, true, true, false, false, false]) rfl (by kernel_rfl) rfl rfl ?_
           refine f_app (news := x.touch.writes) F174 S172.at' 1 ET_62 rfl rfl rfl rfl rfl rfl (F174.ev 18 rfl) (F174.ev 21 rfl) ((Rd.mv (Nat.succ_pos _) V_v_x_touch_writes (S1.trans (T6.trans (S7.trans (S11.trans (T16.trans (S17.trans (S21.trans (T26.trans (S28.trans (S150.trans (S170.trans S172))))))))))))).1 (by ((repeat (first | rw [List.length_append] | rw [List.length_cons] | rw [List.length_nil] | rw [List.length_take] | rw [List.length_drop])) <;> omega)) fun A175 N175 C175 _ w175 F176 S175 l175 => ?_
           refine ⟨Sd.of (S150.trans (S170.trans (S172.trans S175))) [] rfl, ?_⟩
           refine g_take (v := .agg #[.slice A172 N172 C172, .slice A175 N175 C175]) F176 rfl (i := 10) (listed' := #[true, true, true, true, true, true, true, true, true, true, true, false, false]) rfl (by kernel_rfl) (by kernel_rfl) (by kernel_rfl) (fun _ _ _ h => h) (Sd.of (S150.trans (S170.trans (S172.trans S175))) [] rfl) rfl rfl rfl rfl (fun _ hz => (r_build BI_69 rfl (lc (pr2 (F176.ev 17 rfl)) (lc (pr2 (F176.ev 22 rfl)) rfl)) rfl)) fun _ F177 => ?_
           refine g_take F177 rfl (i := 11) (listed' := #[true, true, true, true, true, true, true, true, true, true, true, true, false]) rfl (by kernel_rfl) (by kernel_rfl) (by kernel_rfl) (fun _ _ _ h => h) (Sd.of (S150.trans (S170.trans (S172.trans S175))) [] rfl) rfl rfl rfl rfl (fun _ hz => (r_field FI_71_6 rfl (F177.ev 1 rfl) rfl)) fun _ F178 => ?_
           refine d_one (i := 12) (listed' := #[true, true, true, true, true, true, true, true, true, true, true, true, true]) rfl (by kernel_rfl) rfl rfl ?_
           refine s_store S175.at' 2 TI_69 rfl rfl rfl rfl rfl (F178.ev 24 rfl) (F178.ev 23 rfl) rfl rfl rfl rfl rfl fun w179 S179 => ?_
           refine ⟨Sd.of (S150.trans (S170.trans (S172.trans (S175.trans S179)))) [] rfl, ?_⟩
           refine wpAnyH_done (by kernel_rfl) (x_normal ?_) _
           exact ⟨b150, A172, N172, C172, b170, A175, N175, C175, F178.cut rfl, ((S28.trans (S150.trans (S170.trans (S172.trans (S175.trans S179))))).pick [0, 3, 4, 5, 2, 1] rfl)⟩
         · skip
           refine f_val (v := .slice x_Wa x_Wn x_Wc) F171 rfl rfl (r_loadB S170.at' 2 TI_62 rfl rfl (F171.ev 20 rfl) rfl rfl (fun _ => rfl) rfl) rfl fun _ F180 => ?_
           refine ⟨Sd.of (S150.trans S170) [] rfl, ?_⟩
           refine d_one (i := 4) (listed' := #[true, true, true, true, true, true, true, true, true, false, false, false, false]) rfl (by kernel_rfl) rfl rfl ?_
           refine f_app (news := x.touch.reads) F180 S170.at' 1 ET_62 rfl rfl rfl rfl rfl rfl (F180.ev 13 rfl) (F180.ev 16 rfl) ((Rd.mv (Nat.succ_pos _) V_v_x_touch_reads (S1.trans (T6.trans (S7.trans (S11.trans (T16.trans (S17.trans (S21.trans (T26.trans (S28.trans (S150.trans S170)))))))))))).1 (by ((repeat (first | rw [List.length_append] | rw [List.length_cons] | rw [List.length_nil] | rw [List.length_take] | rw [List.length_drop])) <;> omega)) fun A181 N181 C181 _ w181 F182 S181 l181 => ?_
           refine ⟨Sd.of (S150.trans (S170.trans S181)) [] rfl, ?_⟩
           refine d_one (i := 9) (listed' := #[true, true, true, true, true, true, true, true, true, true, false, false, false]) rfl (by kernel_rfl) rfl rfl ?_
           refine f_app (news := x.touch.writes) F182 S181.at' 1 ET_62 rfl rfl rfl rfl rfl rfl (F182.ev 18 rfl) (F182.ev 21 rfl) ((Rd.mv (Nat.succ_pos _) V_v_x_touch_writes (S1.trans (T6.trans (S7.trans (S11.trans (T16.trans (S17.trans (S21.trans (T26.trans (S28.trans (S150.trans (S170.trans S181))))))))))))).1 (by ((repeat (first | rw [List.length_append] | rw [List.length_cons] | rw [List.length_nil] | rw [List.length_take] | rw [List.length_drop])) <;> omega)) fun A183 N183 C183 _ w183 F184 S183 l183 => ?_
           refine ⟨Sd.of (S150.trans (S170.trans (S181.trans S183))) [] rfl, ?_⟩
           refine g_take (v := .agg #[.slice A181 N181 C181, .slice A183 N183 C183]) F184 rfl (i := 10) (listed' := #[true, true, true, true, true, true, true, true, true, true, true, false, false]) rfl (by kernel_rfl) (by kernel_rfl) (by kernel_rfl) (fun _ _ _ h => h) (Sd.of (S150.trans (S170.trans (S181.trans S183))) [] rfl) rfl rfl rfl rfl (fun _ hz => (r_build BI_69 rfl (lc (pr2 (F184.ev 17 rfl)) (lc (pr2 (F184.ev 22 rfl)) rfl)) rfl)) fun _ F185 => ?_
           refine g_take F185 rfl (i := 11) (listed' := #[true, true, true, true, true, true, true, true, true, true, true, true, false]) rfl (by kernel_rfl) (by kernel_rfl) (by kernel_rfl) (fun _ _ _ h => h) (Sd.of (S150.trans (S170.trans (S181.trans S183))) [] rfl) rfl rfl rfl rfl (fun _ hz => (r_field FI_71_6 rfl (F185.ev 1 rfl) rfl)) fun _ F186 => ?_
           refine d_one (i := 12) (listed' := #[true, true, true, true, true, true, true, true, true, true, true, true, true]) rfl (by kernel_rfl) rfl rfl ?_
           refine s_store S183.at' 2 TI_69 rfl rfl rfl rfl rfl (F186.ev 24 rfl) (F186.ev 23 rfl) rfl rfl rfl rfl rfl fun w187 S187 => ?_
           refine ⟨Sd.of (S150.trans (S170.trans (S181.trans (S183.trans S187)))) [] rfl, ?_⟩
           refine wpAnyH_done (by kernel_rfl) (x_normal ?_) _
           exact ⟨b150, A181, N181, C181, b170, A183, N183, C183, F186.cut rfl, ((S28.trans (S150.trans (S170.trans (S181.trans (S183.trans S187))))).pick [0, 3, 4, 5, 2, 1] rfl)⟩
       · skip
         refine f_val (v := .slice x_Wa x_Wn x_Wc) F151 rfl rfl (r_loadB S150.at' 1 TI_62 rfl rfl (F151.ev 20 rfl) rfl rfl (fun _ => rfl) rfl) rfl fun _ F188 => ?_
         refine ⟨Sd.of S150 [] rfl, ?_⟩
         refine d_all (rs := [4, 5]) rfl (by kernel_rfl) (by simp) (d_cons (i := 4) (listed' := #[true, true, true, true, true, false, true, true, true, false, false, false, false]) rfl rfl ?_ (d_cons (i := 5) (listed' := #[true, true, true, true, false, true, true, true, true, false, false, false, false]) rfl rfl ?_ d_nil))
         · skip
           refine f_app (news := x.touch.reads) F188 S150.at' 0 ET_62 rfl rfl rfl rfl rfl rfl (F188.ev 13 rfl) (F188.ev 16 rfl) ((Rd.mv (Nat.succ_pos _) V_v_x_touch_reads (S1.trans (T6.trans (S7.trans (S11.trans (T16.trans (S17.trans (S21.trans (T26.trans (S28.trans S150))))))))))).1 (by ((repeat (first | rw [List.length_append] | rw [List.length_cons] | rw [List.length_nil] | rw [List.length_take] | rw [List.length_drop])) <;> omega)) fun A189 N189 C189 _ w189 F190 S189 l189 => ?_
           refine ⟨Sd.of (S150.trans S189) [] rfl, ?_⟩
           refine d_one (i := 5) (listed' := #[true, true, true, true, true, true, true, true, true, false, false, false, false]) rfl (by kernel_rfl) rfl rfl ?_
           refine f_buildSl (ok := okS) (vs := []) F190 S189.at' (([] : List ByteArray)) ET_62 rfl rfl rfl rfl rfl rfl rfl rfl rfl (by simp) fun b191 _ w191 F192 S191 => ?_
           refine ⟨Sd.of (S150.trans (S189.trans S191)) [] rfl, ?_⟩
           refine d_one (i := 9) (listed' := #[true, true, true, true, true, true, true, true, true, true, false, false, false]) rfl (by kernel_rfl) rfl rfl ?_
           refine f_app (news := x.touch.writes) F192 S191.at' 0 ET_62 rfl rfl rfl rfl rfl rfl (F192.ev 18 rfl) (F192.ev 21 rfl) ((Rd.mv (Nat.succ_pos _) V_v_x_touch_writes (S1.trans (T6.trans (S7.trans (S11.trans (T16.trans (S17.trans (S21.trans (T26.trans (S28.trans (S150.trans (S189.trans S191))))))))))))).1 (by ((repeat (first | rw [List.length_append] | rw [List.length_cons] | rw [List.length_nil] | rw [List.length_take] | rw [List.length_drop])) <;> omega)) fun A193 N193 C193 _ w193 F194 S193 l193 => ?_
           refine ⟨Sd.of (S150.trans (S189.trans (S191.trans S193))) [] rfl, ?_⟩
           refine g_take (v := .agg #[.slice A189 N189 C189, .slice A193 N193 C193]) F194 rfl (i := 10) (listed' := #[true, true, true, true, true, true, true, true, true, true, true, false, false]) rfl (by kernel_rfl) (by kernel_rfl) (by kernel_rfl) (fun _ _ _ h => h) (Sd.of (S150.trans (S189.trans (S191.trans S193))) [] rfl) rfl rfl rfl rfl (fun _ hz => (r_build BI_69 rfl (lc (pr2 (F194.ev 17 rfl)) (lc (pr2 (F194.ev 22 rfl)) rfl)) rfl)) fun _ F195 => ?_
           refine g_take F195 rfl (i := 11) (listed' := #[true, true, true, true, true, true, true, true, true, true, true, true, false]) rfl (by kernel_rfl) (by kernel_rfl) (by kernel_rfl) (fun _ _ _ h => h) (Sd.of (S150.trans (S189.trans (S191.trans S193))) [] rfl) rfl rfl rfl rfl (fun _ hz => (r_field FI_71_6 rfl (F195.ev 1 rfl) rfl)) fun _ F196 => ?_
           refine d_one (i := 12) (listed' := #[true, true, true, true, true, true, true, true, true, true, true, true, true]) rfl (by kernel_rfl) rfl rfl ?_
           refine s_store S193.at' 2 TI_69 rfl rfl rfl rfl rfl (F196.ev 24 rfl) (F196.ev 23 rfl) rfl rfl rfl rfl rfl fun w197 S197 => ?_
           refine ⟨Sd.of (S150.trans (S189.trans (S191.trans (S193.trans S197)))) [] rfl, ?_⟩
           refine wpAnyH_done (by kernel_rfl) (x_normal ?_) _
           exact ⟨b150, A189, N189, C189, b191, A193, N193, C193, F196.cut rfl, ((S28.trans (S150.trans (S189.trans (S191.trans (S193.trans S197))))).pick [0, 3, 4, 5, 2, 1] rfl)⟩
         · skip
           refine f_buildSl (ok := okS) (vs := []) F188 S150.at' (([] : List ByteArray)) ET_62 rfl rfl rfl rfl rfl rfl rfl rfl rfl (by simp) fun b198 _ w198 F199 S198 => ?_
           refine ⟨Sd.of (S150.trans S198) [] rfl, ?_⟩
           refine d_one (i := 4) (listed' := #[true, true, true, true, true, true, true, true, true, false, false, false, false]) rfl (by kernel_rfl) rfl rfl ?_
           refine f_app (news := x.touch.reads) F199 S198.at' 1 ET_62 rfl rfl rfl rfl rfl rfl (F199.ev 13 rfl) (F199.ev 16 rfl) ((Rd.mv (Nat.succ_pos _) V_v_x_touch_reads (S1.trans (T6.trans (S7.trans (S11.trans (T16.trans (S17.trans (S21.trans (T26.trans (S28.trans (S150.trans S198)))))))))))).1 (by ((repeat (first | rw [List.length_append] | rw [List.length_cons] | rw [List.length_nil] | rw [List.length_take] | rw [List.length_drop])) <;> omega)) fun A200 N200 C200 _ w200 F201 S200 l200 => ?_
           refine ⟨Sd.of (S150.trans (S198.trans S200)) [] rfl, ?_⟩
           refine d_one (i := 9) (listed' := #[true, true, true, true, true, true, true, true, true, true, false, false, false]) rfl (by kernel_rfl) rfl rfl ?_
           refine f_app (news := x.touch.writes) F201 S200.at' 1 ET_62 rfl rfl rfl rfl rfl rfl (F201.ev 18 rfl) (F201.ev 21 rfl) ((Rd.mv (Nat.succ_pos _) V_v_x_touch_writes (S1.trans (T6.trans (S7.trans (S11.trans (T16.trans (S17.trans (S21.trans (T26.trans (S28.trans (S150.trans (S198.trans S200))))))))))))).1 (by ((repeat (first | rw [List.length_append] | rw [List.length_cons] | rw [List.length_nil] | rw [List.length_take] | rw [List.length_drop])) <;> omega)) fun A202 N202 C202 _ w202 F203 S202 l202 => ?_
           refine ⟨Sd.of (S150.trans (S198.trans (S200.trans S202))) [] rfl, ?_⟩
           refine g_take (v := .agg #[.slice A200 N200 C200, .slice A202 N202 C202]) F203 rfl (i := 10) (listed' := #[true, true, true, true, true, true, true, true, true, true, true, false, false]) rfl (by kernel_rfl) (by kernel_rfl) (by kernel_rfl) (fun _ _ _ h => h) (Sd.of (S150.trans (S198.trans (S200.trans S202))) [] rfl) rfl rfl rfl rfl (fun _ hz => (r_build BI_69 rfl (lc (pr2 (F203.ev 17 rfl)) (lc (pr2 (F203.ev 22 rfl)) rfl)) rfl)) fun _ F204 => ?_
           refine g_take F204 rfl (i := 11) (listed' := #[true, true, true, true, true, true, true, true, true, true, true, true, false]) rfl (by kernel_rfl) (by kernel_rfl) (by kernel_rfl) (fun _ _ _ h => h) (Sd.of (S150.trans (S198.trans (S200.trans S202))) [] rfl) rfl rfl rfl rfl (fun _ hz => (r_field FI_71_6 rfl (F204.ev 1 rfl) rfl)) fun _ F205 => ?_
           refine d_one (i := 12) (listed' := #[true, true, true, true, true, true, true, true, true, true, true, true, true]) rfl (by kernel_rfl) rfl rfl ?_
           refine s_store S202.at' 2 TI_69 rfl rfl rfl rfl rfl (F205.ev 24 rfl) (F205.ev 23 rfl) rfl rfl rfl rfl rfl fun w206 S206 => ?_
           refine ⟨Sd.of (S150.trans (S198.trans (S200.trans (S202.trans S206)))) [] rfl, ?_⟩
           refine wpAnyH_done (by kernel_rfl) (x_normal ?_) _
           exact ⟨b150, A200, N200, C200, b198, A202, N202, C202, F205.cut rfl, ((S28.trans (S150.trans (S198.trans (S200.trans (S202.trans S206))))).pick [0, 3, 4, 5, 2, 1] rfl)⟩
     · skip
       refine f_buildSl (ok := okS) (vs := []) F149 S28.at' (([] : List ByteArray)) ET_62 rfl rfl rfl rfl rfl rfl rfl rfl rfl (by simp) fun b207 _ w207 F208 S207 => ?_
       refine ⟨Sd.of S207 [] rfl, ?_⟩
       refine d_all (rs := [0, 8]) rfl (by kernel_rfl) (by simp) (d_cons (i := 0) (listed' := #[true, true, true, true, false, true, true, true, false, false, false, false, false]) rfl rfl ?_ (d_cons (i := 8) (listed' := #[false, true, true, true, false, true, true, true, true, false, false, false, false]) rfl rfl ?_ d_nil))
       · skip
         refine f_buildSl (ok := okS) (vs := []) F208 S207.at' (([] : List ByteArray)) ET_62 rfl rfl rfl rfl rfl rfl rfl rfl rfl (by simp) fun b209 _ w209 F210 S209 => ?_
         refine ⟨Sd.of (S207.trans S209) [] rfl, ?_⟩
         refine d_all (rs := [4, 8]) rfl (by kernel_rfl) (by simp) (d_cons (i := 4) (listed' := #[true, true, true, true, true, true, true, true, false, false, false, false, false]) rfl rfl ?_ (d_cons (i := 8) (listed' := #[true, true, true, true, false, true, true, true, true, false, false, false, false]) rfl rfl ?_ d_nil))
         · skip
           refine f_app (news := x.touch.reads) F210 S209.at' 0 ET_62 rfl rfl rfl rfl rfl rfl (F210.ev 13 rfl) (F210.ev 16 rfl) ((Rd.mv (Nat.succ_pos _) V_v_x_touch_reads (S1.trans (T6.trans (S7.trans (S11.trans (T16.trans (S17.trans (S21.trans (T26.trans (S28.trans (S207.trans S209)))))))))))).1 (by ((repeat (first | rw [List.length_append] | rw [List.length_cons] | rw [List.length_nil] | rw [List.length_take] | rw [List.length_drop])) <;> omega)) fun A211 N211 C211 _ w211 F212 S211 l211 => ?_
           refine ⟨Sd.of (S207.trans (S209.trans S211)) [] rfl, ?_⟩
           refine d_one (i := 8) (listed' := #[true, true, true, true, true, true, true, true, true, false, false, false, false]) rfl (by kernel_rfl) rfl rfl ?_
           refine f_val (v := .slice x_Wa x_Wn x_Wc) F212 rfl rfl (r_loadB S211.at' 2 TI_62 rfl rfl (F212.ev 20 rfl) rfl rfl (fun _ => rfl) rfl) rfl fun _ F213 => ?_
           refine ⟨Sd.of (S207.trans (S209.trans S211)) [] rfl, ?_⟩
           refine d_one (i := 9) (listed' := #[true, true, true, true, true, true, true, true, true, true, false, false, false]) rfl (by kernel_rfl) rfl rfl ?_
           refine f_app (news := x.touch.writes) F213 S211.at' 1 ET_62 rfl rfl rfl rfl rfl rfl (F213.ev 18 rfl) (F213.ev 21 rfl) ((Rd.mv (Nat.succ_pos _) V_v_x_touch_writes (S1.trans (T6.trans (S7.trans (S11.trans (T16.trans (S17.trans (S21.trans (T26.trans (S28.trans (S207.trans (S209.trans S211))))))))))))).1 (by ((repeat (first | rw [List.length_append] | rw [List.length_cons] | rw [List.length_nil] | rw [List.length_take] | rw [List.length_drop])) <;> omega)) fun A214 N214 C214 _ w214 F215 S214 l214 => ?_
           refine ⟨Sd.of (S207.trans (S209.trans (S211.trans S214))) [] rfl, ?_⟩
           refine g_take (v := .agg #[.slice A211 N211 C211, .slice A214 N214 C214]) F215 rfl (i := 10) (listed' := #[true, true, true, true, true, true, true, true, true, true, true, false, false]) rfl (by kernel_rfl) (by kernel_rfl) (by kernel_rfl) (fun _ _ _ h => h) (Sd.of (S207.trans (S209.trans (S211.trans S214))) [] rfl) rfl rfl rfl rfl (fun _ hz => (r_build BI_69 rfl (lc (pr2 (F215.ev 17 rfl)) (lc (pr2 (F215.ev 22 rfl)) rfl)) rfl)) fun _ F216 => ?_
           refine g_take F216 rfl (i := 11) (listed' := #[true, true, true, true, true, true, true, true, true, true, true, true, false]) rfl (by kernel_rfl) (by kernel_rfl) (by kernel_rfl) (fun _ _ _ h => h) (Sd.of (S207.trans (S209.trans (S211.trans S214))) [] rfl) rfl rfl rfl rfl (fun _ hz => (r_field FI_71_6 rfl (F216.ev 1 rfl) rfl)) fun _ F217 => ?_
           refine d_one (i := 12) (listed' := #[true, true, true, true, true, true, true, true, true, true, true, true, true]) rfl (by kernel_rfl) rfl rfl ?_
           refine s_store S214.at' 2 TI_69 rfl rfl rfl rfl rfl (F217.ev 24 rfl) (F217.ev 23 rfl) rfl rfl rfl rfl rfl fun w218 S218 => ?_
           refine ⟨Sd.of (S207.trans (S209.trans (S211.trans (S214.trans S218)))) [] rfl, ?_⟩
           refine wpAnyH_done (by kernel_rfl) (x_normal ?_) _
           exact ⟨b209, A211, N211, C211, b207, A214, N214, C214, F217.cut rfl, ((S28.trans (S207.trans (S209.trans (S211.trans (S214.trans S218))))).pick [0, 3, 4, 5, 2, 1] rfl)⟩
         · skip
           refine f_val (v := .slice x_Wa x_Wn x_Wc) F210 rfl rfl (r_loadB S209.at' 2 TI_62 rfl rfl (F210.ev 20 rfl) rfl rfl (fun _ => rfl) rfl) rfl fun _ F219 => ?_
           refine ⟨Sd.of (S207.trans S209) [] rfl, ?_⟩
           refine d_one (i := 4) (listed' := #[true, true, true, true, true, true, true, true, true, false, false, false, false]) rfl (by kernel_rfl) rfl rfl ?_
           refine f_app (news := x.touch.reads) F219 S209.at' 0 ET_62 rfl rfl rfl rfl rfl rfl (F219.ev 13 rfl) (F219.ev 16 rfl) ((Rd.mv (Nat.succ_pos _) V_v_x_touch_reads (S1.trans (T6.trans (S7.trans (S11.trans (T16.trans (S17.trans (S21.trans (T26.trans (S28.trans (S207.trans S209)))))))))))).1 (by ((repeat (first | rw [List.length_append] | rw [List.length_cons] | rw [List.length_nil] | rw [List.length_take] | rw [List.length_drop])) <;> omega)) fun A220 N220 C220 _ w220 F221 S220 l220 => ?_
           refine ⟨Sd.of (S207.trans (S209.trans S220)) [] rfl, ?_⟩
           refine d_one (i := 9) (listed' := #[true, true, true, true, true, true, true, true, true, true, false, false, false]) rfl (by kernel_rfl) rfl rfl ?_
           refine f_app (news := x.touch.writes) F221 S220.at' 1 ET_62 rfl rfl rfl rfl rfl rfl (F221.ev 18 rfl) (F221.ev 21 rfl) ((Rd.mv (Nat.succ_pos _) V_v_x_touch_writes (S1.trans (T6.trans (S7.trans (S11.trans (T16.trans (S17.trans (S21.trans (T26.trans (S28.trans (S207.trans (S209.trans S220))))))))))))).1 (by ((repeat (first | rw [List.length_append] | rw [List.length_cons] | rw [List.length_nil] | rw [List.length_take] | rw [List.length_drop])) <;> omega)) fun A222 N222 C222 _ w222 F223 S222 l222 => ?_
           refine ⟨Sd.of (S207.trans (S209.trans (S220.trans S222))) [] rfl, ?_⟩
           refine g_take (v := .agg #[.slice A220 N220 C220, .slice A222 N222 C222]) F223 rfl (i := 10) (listed' := #[true, true, true, true, true, true, true, true, true, true, true, false, false]) rfl (by kernel_rfl) (by kernel_rfl) (by kernel_rfl) (fun _ _ _ h => h) (Sd.of (S207.trans (S209.trans (S220.trans S222))) [] rfl) rfl rfl rfl rfl (fun _ hz => (r_build BI_69 rfl (lc (pr2 (F223.ev 17 rfl)) (lc (pr2 (F223.ev 22 rfl)) rfl)) rfl)) fun _ F224 => ?_
           refine g_take F224 rfl (i := 11) (listed' := #[true, true, true, true, true, true, true, true, true, true, true, true, false]) rfl (by kernel_rfl) (by kernel_rfl) (by kernel_rfl) (fun _ _ _ h => h) (Sd.of (S207.trans (S209.trans (S220.trans S222))) [] rfl) rfl rfl rfl rfl (fun _ hz => (r_field FI_71_6 rfl (F224.ev 1 rfl) rfl)) fun _ F225 => ?_
           refine d_one (i := 12) (listed' := #[true, true, true, true, true, true, true, true, true, true, true, true, true]) rfl (by kernel_rfl) rfl rfl ?_
           refine s_store S222.at' 2 TI_69 rfl rfl rfl rfl rfl (F225.ev 24 rfl) (F225.ev 23 rfl) rfl rfl rfl rfl rfl fun w226 S226 => ?_
           refine ⟨Sd.of (S207.trans (S209.trans (S220.trans (S222.trans S226)))) [] rfl, ?_⟩
           refine wpAnyH_done (by kernel_rfl) (x_normal ?_) _
           exact ⟨b209, A220, N220, C220, b207, A222, N222, C222, F225.cut rfl, ((S28.trans (S207.trans (S209.trans (S220.trans (S222.trans S226))))).pick [0, 3, 4, 5, 2, 1] rfl)⟩
       · skip
         refine f_val (v := .slice x_Wa x_Wn x_Wc) F208 rfl rfl (r_loadB S207.at' 1 TI_62 rfl rfl (F208.ev 20 rfl) rfl rfl (fun _ => rfl) rfl) rfl fun _ F227 => ?_
         refine ⟨Sd.of S207 [] rfl, ?_⟩
         refine d_one (i := 0) (listed' := #[true, true, true, true, false, true, true, true, true, false, false, false, false]) rfl (by kernel_rfl) rfl rfl ?_
         refine f_buildSl (ok := okS) (vs := []) F227 S207.at' (([] : List ByteArray)) ET_62 rfl rfl rfl rfl rfl rfl rfl rfl rfl (by simp) fun b228 _ w228 F229 S228 => ?_
         refine ⟨Sd.of (S207.trans S228) [] rfl, ?_⟩
         refine d_one (i := 4) (listed' := #[true, true, true, true, true, true, true, true, true, false, false, false, false]) rfl (by kernel_rfl) rfl rfl ?_
         refine f_app (news := x.touch.reads) F229 S228.at' 0 ET_62 rfl rfl rfl rfl rfl rfl (F229.ev 13 rfl) (F229.ev 16 rfl) ((Rd.mv (Nat.succ_pos _) V_v_x_touch_reads (S1.trans (T6.trans (S7.trans (S11.trans (T16.trans (S17.trans (S21.trans (T26.trans (S28.trans (S207.trans S228)))))))))))).1 (by ((repeat (first | rw [List.length_append] | rw [List.length_cons] | rw [List.length_nil] | rw [List.length_take] | rw [List.length_drop])) <;> omega)) fun A230 N230 C230 _ w230 F231 S230 l230 => ?_
         refine ⟨Sd.of (S207.trans (S228.trans S230)) [] rfl, ?_⟩
         refine d_one (i := 9) (listed' := #[true, true, true, true, true, true, true, true, true, true, false, false, false]) rfl (by kernel_rfl) rfl rfl ?_
         refine f_app (news := x.touch.writes) F231 S230.at' 1 ET_62 rfl rfl rfl rfl rfl rfl (F231.ev 18 rfl) (F231.ev 21 rfl) ((Rd.mv (Nat.succ_pos _) V_v_x_touch_writes (S1.trans (T6.trans (S7.trans (S11.trans (T16.trans (S17.trans (S21.trans (T26.trans (S28.trans (S207.trans (S228.trans S230))))))))))))).1 (by ((repeat (first | rw [List.length_append] | rw [List.length_cons] | rw [List.length_nil] | rw [List.length_take] | rw [List.length_drop])) <;> omega)) fun A232 N232 C232 _ w232 F233 S232 l232 => ?_
         refine ⟨Sd.of (S207.trans (S228.trans (S230.trans S232))) [] rfl, ?_⟩
         refine g_take (v := .agg #[.slice A230 N230 C230, .slice A232 N232 C232]) F233 rfl (i := 10) (listed' := #[true, true, true, true, true, true, true, true, true, true, true, false, false]) rfl (by kernel_rfl) (by kernel_rfl) (by kernel_rfl) (fun _ _ _ h => h) (Sd.of (S207.trans (S228.trans (S230.trans S232))) [] rfl) rfl rfl rfl rfl (fun _ hz => (r_build BI_69 rfl (lc (pr2 (F233.ev 17 rfl)) (lc (pr2 (F233.ev 22 rfl)) rfl)) rfl)) fun _ F234 => ?_
         refine g_take F234 rfl (i := 11) (listed' := #[true, true, true, true, true, true, true, true, true, true, true, true, false]) rfl (by kernel_rfl) (by kernel_rfl) (by kernel_rfl) (fun _ _ _ h => h) (Sd.of (S207.trans (S228.trans (S230.trans S232))) [] rfl) rfl rfl rfl rfl (fun _ hz => (r_field FI_71_6 rfl (F234.ev 1 rfl) rfl)) fun _ F235 => ?_
         refine d_one (i := 12) (listed' := #[true, true, true, true, true, true, true, true, true, true, true, true, true]) rfl (by kernel_rfl) rfl rfl ?_
         refine s_store S232.at' 2 TI_69 rfl rfl rfl rfl rfl (F235.ev 24 rfl) (F235.ev 23 rfl) rfl rfl rfl rfl rfl fun w236 S236 => ?_
         refine ⟨Sd.of (S207.trans (S228.trans (S230.trans (S232.trans S236)))) [] rfl, ?_⟩
         refine wpAnyH_done (by kernel_rfl) (x_normal ?_) _
         exact ⟨b228, A230, N230, C230, b207, A232, N232, C232, F235.cut rfl, ((S28.trans (S207.trans (S228.trans (S230.trans (S232.trans S236))))).pick [0, 3, 4, 5, 2, 1] rfl)⟩
     · skip
       refine f_val (v := .slice x_Wa x_Wn x_Wc) F149 rfl rfl (r_loadB S28.at' 0 TI_62 rfl rfl (F149.ev 20 rfl) rfl rfl (fun _ => rfl) rfl) rfl fun _ F237 => ?_
       refine ⟨Sd.of (Mv.refl S28.at') [] rfl, ?_⟩
       refine d_all (rs := [0, 5]) rfl (by kernel_rfl) (by simp) (d_cons (i := 0) (listed' := #[true, true, true, true, false, false, true, true, true, false, false, false, false]) rfl rfl ?_ (d_cons (i := 5) (listed' := #[false, true, true, true, false, true, true, true, true, false, false, false, false]) rfl rfl ?_ d_nil))
       · skip
         refine f_buildSl (ok := okS) (vs := []) F237 S28.at' (([] : List ByteArray)) ET_62 rfl rfl rfl rfl rfl rfl rfl rfl rfl (by simp) fun b238 _ w238 F239 S238 => ?_
         refine ⟨Sd.of S238 [] rfl, ?_⟩
         refine d_all (rs := [4, 5]) rfl (by kernel_rfl) (by simp) (d_cons (i := 4) (listed' := #[true, true, true, true, true, false, true, true, true, false, false, false, false]) rfl rfl ?_ (d_cons (i := 5) (listed' := #[true, true, true, true, false, true, true, true, true, false, false, false, false]) rfl rfl ?_ d_nil))
         · skip
           refine f_app (news := x.touch.reads) F239 S238.at' 0 ET_62 rfl rfl rfl rfl rfl rfl (F239.ev 13 rfl) (F239.ev 16 rfl) ((Rd.mv (Nat.succ_pos _) V_v_x_touch_reads (S1.trans (T6.trans (S7.trans (S11.trans (T16.trans (S17.trans (S21.trans (T26.trans (S28.trans S238))))))))))).1 (by ((repeat (first | rw [List.length_append] | rw [List.length_cons] | rw [List.length_nil] | rw [List.length_take] | rw [List.length_drop])) <;> omega)) fun A240 N240 C240 _ w240 F241 S240 l240 => ?_
           refine ⟨Sd.of (S238.trans S240) [] rfl, ?_⟩
           refine d_one (i := 5) (listed' := #[true, true, true, true, true, true, true, true, true, false, false, false, false]) rfl (by kernel_rfl) rfl rfl ?_
           refine f_buildSl (ok := okS) (vs := []) F241 S240.at' (([] : List ByteArray)) ET_62 rfl rfl rfl rfl rfl rfl rfl rfl rfl (by simp) fun b242 _ w242 F243 S242 => ?_
           refine ⟨Sd.of (S238.trans (S240.trans S242)) [] rfl, ?_⟩
           refine d_one (i := 9) (listed' := #[true, true, true, true, true, true, true, true, true, true, false, false, false]) rfl (by kernel_rfl) rfl rfl ?_
           refine f_app (news := x.touch.writes) F243 S242.at' 0 ET_62 rfl rfl rfl rfl rfl rfl (F243.ev 18 rfl) (F243.ev 21 rfl) ((Rd.mv (Nat.succ_pos _) V_v_x_touch_writes (S1.trans (T6.trans (S7.trans (S11.trans (T16.trans (S17.trans (S21.trans (T26.trans (S28.trans (S238.trans (S240.trans S242))))))))))))).1 (by ((repeat (first | rw [List.length_append] | rw [List.length_cons] | rw [List.length_nil] | rw [List.length_take] | rw [List.length_drop])) <;> omega)) fun A244 N244 C244 _ w244 F245 S244 l244 => ?_
           refine ⟨Sd.of (S238.trans (S240.trans (S242.trans S244))) [] rfl, ?_⟩
           refine g_take (v := .agg #[.slice A240 N240 C240, .slice A244 N244 C244]) F245 rfl (i := 10) (listed' := #[true, true, true, true, true, true, true, true, true, true, true, false, false]) rfl (by kernel_rfl) (by kernel_rfl) (by kernel_rfl) (fun _ _ _ h => h) (Sd.of (S238.trans (S240.trans (S242.trans S244))) [] rfl) rfl rfl rfl rfl (fun _ hz => (r_build BI_69 rfl (lc (pr2 (F245.ev 17 rfl)) (lc (pr2 (F245.ev 22 rfl)) rfl)) rfl)) fun _ F246 => ?_
           refine g_take F246 rfl (i := 11) (listed' := #[true, true, true, true, true, true, true, true, true, true, true, true, false]) rfl (by kernel_rfl) (by kernel_rfl) (by kernel_rfl) (fun _ _ _ h => h) (Sd.of (S238.trans (S240.trans (S242.trans S244))) [] rfl) rfl rfl rfl rfl (fun _ hz => (r_field FI_71_6 rfl (F246.ev 1 rfl) rfl)) fun _ F247 => ?_
           refine d_one (i := 12) (listed' := #[true, true, true, true, true, true, true, true, true, true, true, true, true]) rfl (by kernel_rfl) rfl rfl ?_
           refine s_store S244.at' 2 TI_69 rfl rfl rfl rfl rfl (F247.ev 24 rfl) (F247.ev 23 rfl) rfl rfl rfl rfl rfl fun w248 S248 => ?_
           refine ⟨Sd.of (S238.trans (S240.trans (S242.trans (S244.trans S248)))) [] rfl, ?_⟩
           refine wpAnyH_done (by kernel_rfl) (x_normal ?_) _
           exact ⟨b238, A240, N240, C240, b242, A244, N244, C244, F247.cut rfl, ((S28.trans (S238.trans (S240.trans (S242.trans (S244.trans S248))))).pick [0, 3, 4, 5, 2, 1] rfl)⟩
         · skip
           refine f_buildSl (ok := okS) (vs := []) F239 S238.at' (([] : List ByteArray)) ET_62 rfl rfl rfl rfl rfl rfl rfl rfl rfl (by simp) fun b249 _ w249 F250 S249 => ?_
           refine ⟨Sd.of (S238.trans S249) [] rfl, ?_⟩
           refine d_one (i := 4) (listed' := #[true, true, true, true, true, true, true, true, true, false, false, false, false]) rfl (by kernel_rfl) rfl rfl ?_
           refine f_app (news := x.touch.reads) F250 S249.at' 1 ET_62 rfl rfl rfl rfl rfl rfl (F250.ev 13 rfl) (F250.ev 16 rfl) ((Rd.mv (Nat.succ_pos _) V_v_x_touch_reads (S1.trans (T6.trans (S7.trans (S11.trans (T16.trans (S17.trans (S21.trans (T26.trans (S28.trans (S238.trans S249)))))))))))).1 (by ((repeat (first | rw [List.length_append] | rw [List.length_cons] | rw [List.length_nil] | rw [List.length_take] | rw [List.length_drop])) <;> omega)) fun A251 N251 C251 _ w251 F252 S251 l251 => ?_
           refine ⟨Sd.of (S238.trans (S249.trans S251)) [] rfl, ?_⟩
           refine d_one (i := 9) (listed' := #[true, true, true, true, true, true, true, true, true, true, false, false, false]) rfl (by kernel_rfl) rfl rfl ?_
           refine f_app (news := x.touch.writes) F252 S251.at' 1 ET_62 rfl rfl rfl rfl rfl rfl (F252.ev 18 rfl) (F252.ev 21 rfl) ((Rd.mv (Nat.succ_pos _) V_v_x_touch_writes (S1.trans (T6.trans (S7.trans (S11.trans (T16.trans (S17.trans (S21.trans (T26.trans (S28.trans (S238.trans (S249.trans S251))))))))))))).1 (by ((repeat (first | rw [List.length_append] | rw [List.length_cons] | rw [List.length_nil] | rw [List.length_take] | rw [List.length_drop])) <;> omega)) fun A253 N253 C253 _ w253 F254 S253 l253 => ?_
           refine ⟨Sd.of (S238.trans (S249.trans (S251.trans S253))) [] rfl, ?_⟩
           refine g_take (v := .agg #[.slice A251 N251 C251, .slice A253 N253 C253]) F254 rfl (i := 10) (listed' := #[true, true, true, true, true, true, true, true, true, true, true, false, false]) rfl (by kernel_rfl) (by kernel_rfl) (by kernel_rfl) (fun _ _ _ h => h) (Sd.of (S238.trans (S249.trans (S251.trans S253))) [] rfl) rfl rfl rfl rfl (fun _ hz => (r_build BI_69 rfl (lc (pr2 (F254.ev 17 rfl)) (lc (pr2 (F254.ev 22 rfl)) rfl)) rfl)) fun _ F255 => ?_
           refine g_take F255 rfl (i := 11) (listed' := #[true, true, true, true, true, true, true, true, true, true, true, true, false]) rfl (by kernel_rfl) (by kernel_rfl) (by kernel_rfl) (fun _ _ _ h => h) (Sd.of (S238.trans (S249.trans (S251.trans S253))) [] rfl) rfl rfl rfl rfl (fun _ hz => (r_field FI_71_6 rfl (F255.ev 1 rfl) rfl)) fun _ F256 => ?_
           refine d_one (i := 12) (listed' := #[true, true, true, true, true, true, true, true, true, true, true, true, true]) rfl (by kernel_rfl) rfl rfl ?_
           refine s_store S253.at' 2 TI_69 rfl rfl rfl rfl rfl (F256.ev 24 rfl) (F256.ev 23 rfl) rfl rfl rfl rfl rfl fun w257 S257 => ?_
           refine ⟨Sd.of (S238.trans (S249.trans (S251.trans (S253.trans S257)))) [] rfl, ?_⟩
           refine wpAnyH_done (by kernel_rfl) (x_normal ?_) _
           exact ⟨b238, A251, N251, C251, b249, A253, N253, C253, F256.cut rfl, ((S28.trans (S238.trans (S249.trans (S251.trans (S253.trans S257))))).pick [0, 3, 4, 5, 2, 1] rfl)⟩
       · skip
         refine f_buildSl (ok := okS) (vs := []) F237 S28.at' (([] : List ByteArray)) ET_62 rfl rfl rfl rfl rfl rfl rfl rfl rfl (by simp) fun b258 _ w258 F259 S258 => ?_
         refine ⟨Sd.of S258 [] rfl, ?_⟩
         refine d_one (i := 0) (listed' := #[true, true, true, true, false, true, true, true, true, false, false, false, false]) rfl (by kernel_rfl) rfl rfl ?_
         refine f_buildSl (ok := okS) (vs := []) F259 S258.at' (([] : List ByteArray)) ET_62 rfl rfl rfl rfl rfl rfl rfl rfl rfl (by simp) fun b260 _ w260 F261 S260 => ?_
         refine ⟨Sd.of (S258.trans S260) [] rfl, ?_⟩
         refine d_one (i := 4) (listed' := #[true, true, true, true, true, true, true, true, true, false, false, false, false]) rfl (by kernel_rfl) rfl rfl ?_
         refine f_app (news := x.touch.reads) F261 S260.at' 0 ET_62 rfl rfl rfl rfl rfl rfl (F261.ev 13 rfl) (F261.ev 16 rfl) ((Rd.mv (Nat.succ_pos _) V_v_x_touch_reads (S1.trans (T6.trans (S7.trans (S11.trans (T16.trans (S17.trans (S21.trans (T26.trans (S28.trans (S258.trans S260)))))))))))).1 (by ((repeat (first | rw [List.length_append] | rw [List.length_cons] | rw [List.length_nil] | rw [List.length_take] | rw [List.length_drop])) <;> omega)) fun A262 N262 C262 _ w262 F263 S262 l262 => ?_
         refine ⟨Sd.of (S258.trans (S260.trans S262)) [] rfl, ?_⟩
         refine d_one (i := 9) (listed' := #[true, true, true, true, true, true, true, true, true, true, false, false, false]) rfl (by kernel_rfl) rfl rfl ?_
         refine f_app (news := x.touch.writes) F263 S262.at' 1 ET_62 rfl rfl rfl rfl rfl rfl (F263.ev 18 rfl) (F263.ev 21 rfl) ((Rd.mv (Nat.succ_pos _) V_v_x_touch_writes (S1.trans (T6.trans (S7.trans (S11.trans (T16.trans (S17.trans (S21.trans (T26.trans (S28.trans (S258.trans (S260.trans S262))))))))))))).1 (by ((repeat (first | rw [List.length_append] | rw [List.length_cons] | rw [List.length_nil] | rw [List.length_take] | rw [List.length_drop])) <;> omega)) fun A264 N264 C264 _ w264 F265 S264 l264 => ?_
         refine ⟨Sd.of (S258.trans (S260.trans (S262.trans S264))) [] rfl, ?_⟩
         refine g_take (v := .agg #[.slice A262 N262 C262, .slice A264 N264 C264]) F265 rfl (i := 10) (listed' := #[true, true, true, true, true, true, true, true, true, true, true, false, false]) rfl (by kernel_rfl) (by kernel_rfl) (by kernel_rfl) (fun _ _ _ h => h) (Sd.of (S258.trans (S260.trans (S262.trans S264))) [] rfl) rfl rfl rfl rfl (fun _ hz => (r_build BI_69 rfl (lc (pr2 (F265.ev 17 rfl)) (lc (pr2 (F265.ev 22 rfl)) rfl)) rfl)) fun _ F266 => ?_
         refine g_take F266 rfl (i := 11) (listed' := #[true, true, true, true, true, true, true, true, true, true, true, true, false]) rfl (by kernel_rfl) (by kernel_rfl) (by kernel_rfl) (fun _ _ _ h => h) (Sd.of (S258.trans (S260.trans (S262.trans S264))) [] rfl) rfl rfl rfl rfl (fun _ hz => (r_field FI_71_6 rfl (F266.ev 1 rfl) rfl)) fun _ F267 => ?_
         refine d_one (i := 12) (listed' := #[true, true, true, true, true, true, true, true, true, true, true, true, true]) rfl (by kernel_rfl) rfl rfl ?_
         refine s_store S264.at' 2 TI_69 rfl rfl rfl rfl rfl (F267.ev 24 rfl) (F267.ev 23 rfl) rfl rfl rfl rfl rfl fun w268 S268 => ?_
         refine ⟨Sd.of (S258.trans (S260.trans (S262.trans (S264.trans S268)))) [] rfl, ?_⟩
         refine wpAnyH_done (by kernel_rfl) (x_normal ?_) _
         exact ⟨b260, A262, N262, C262, b258, A264, N264, C264, F267.cut rfl, ((S28.trans (S258.trans (S260.trans (S262.trans (S264.trans S268))))).pick [0, 3, 4, 5, 2, 1] rfl)⟩
   · skip
     refine f_buildSl (ok := okS) (vs := []) F32 S28.at' (([] : List ByteArray)) ET_62 rfl rfl rfl rfl rfl rfl rfl rfl rfl (by simp) fun b269 _ w269 F270 S269 => ?_
     refine ⟨Sd.of S269 [] rfl, ?_⟩
     refine d_all (rs := [0, 3, 8]) rfl (by kernel_rfl) (by simp) (d_cons (i := 0) (listed' := #[true, true, true, false, false, true, true, true, false, false, false, false, false]) rfl rfl ?_ (d_cons (i := 3) (listed' := #[false, true, true, true, false, true, true, true, false, false, false, false, false]) rfl rfl ?_ (d_cons (i := 8) (listed' := #[false, true, true, false, false, true, true, true, true, false, false, false, false]) rfl rfl ?_ d_nil)))
     · skip
       refine f_buildSl (ok := okS) (vs := []) F270 S269.at' (([] : List ByteArray)) ET_62 rfl rfl rfl rfl rfl rfl rfl rfl rfl (by simp) fun b271 _ w271 F272 S271 => ?_
       refine ⟨Sd.of (S269.trans S271) [] rfl, ?_⟩
       refine d_all (rs := [3, 8]) rfl (by kernel_rfl) (by simp) (d_cons (i := 3) (listed' := #[true, true, true, true, false, true, true, true, false, false, false, false, false]) rfl rfl ?_ (d_cons (i := 8) (listed' := #[true, true, true, false, false, true, true, true, true, false, false, false, false]) rfl rfl ?_ d_nil))
       · skip
         refine f_val (v := .slice x_Ra x_Rn x_Rc) F272 rfl rfl (r_loadB S271.at' 2 TI_62 rfl rfl (F272.ev 15 rfl) rfl rfl (fun _ => rfl) rfl) rfl fun _ F273 => ?_
         refine ⟨Sd.of (S269.trans S271) [] rfl, ?_⟩
         refine d_all (rs := [4, 8]) rfl (by kernel_rfl) (by simp) (d_cons (i := 4) (listed' := #[true, true, true, true, true, true, true, true, false, false, false, false, false]) rfl rfl ?_ (d_cons (i := 8) (listed' := #[true, true, true, true, false, true, true, true, true, false, false, false, false]) rfl rfl ?_ d_nil))
         · skip
           refine f_app (news := x.touch.reads) F273 S271.at' 0 ET_62 rfl rfl rfl rfl rfl rfl (F273.ev 13 rfl) (F273.ev 16 rfl) ((Rd.mv (Nat.succ_pos _) V_v_x_touch_reads (S1.trans (T6.trans (S7.trans (S11.trans (T16.trans (S17.trans (S21.trans (T26.trans (S28.trans (S269.trans S271)))))))))))).1 (by ((repeat (first | rw [List.length_append] | rw [List.length_cons] | rw [List.length_nil] | rw [List.length_take] | rw [List.length_drop])) <;> omega)) fun A274 N274 C274 _ w274 F275 S274 l274 => ?_
           refine ⟨Sd.of (S269.trans (S271.trans S274)) [] rfl, ?_⟩
           refine d_one (i := 8) (listed' := #[true, true, true, true, true, true, true, true, true, false, false, false, false]) rfl (by kernel_rfl) rfl rfl ?_
           refine f_val (v := .slice x_Wa x_Wn x_Wc) F275 rfl rfl (r_loadB S274.at' 2 TI_62 rfl rfl (F275.ev 20 rfl) rfl rfl (fun _ => rfl) rfl) rfl fun _ F276 => ?_
           refine ⟨Sd.of (S269.trans (S271.trans S274)) [] rfl, ?_⟩
           refine d_one (i := 9) (listed' := #[true, true, true, true, true, true, true, true, true, true, false, false, false]) rfl (by kernel_rfl) rfl rfl ?_
           refine f_app (news := x.touch.writes) F276 S274.at' 1 ET_62 rfl rfl rfl rfl rfl rfl (F276.ev 18 rfl) (F276.ev 21 rfl) ((Rd.mv (Nat.succ_pos _) V_v_x_touch_writes (S1.trans (T6.trans (S7.trans (S11.trans (T16.trans (S17.trans (S21.trans (T26.trans (S28.trans (S269.trans (S271.trans S274))))))))))))).1 (by ((repeat (first | rw [List.length_append] | rw [List.length_cons] | rw [List.length_nil] | rw [List.length_take] | rw [List.length_drop])) <;> omega)) fun A277 N277 C277 _ w277 F278 S277 l277 => ?_
           refine ⟨Sd.of (S269.trans (S271.trans (S274.trans S277))) [] rfl, ?_⟩
           refine g_take (v := .agg #[.slice A274 N274 C274, .slice A277 N277 C277]) F278 rfl (i := 10) (listed' := #[true, true, true, true, true, true, true, true, true, true, true, false, false]) rfl (by kernel_rfl) (by kernel_rfl) (by kernel_rfl) (fun _ _ _ h => h) (Sd.of (S269.trans (S271.trans (S274.trans S277))) [] rfl) rfl rfl rfl rfl (fun _ hz => (r_build BI_69 rfl (lc (pr2 (F278.ev 17 rfl)) (lc (pr2 (F278.ev 22 rfl)) rfl)) rfl)) fun _ F279 => ?_
           refine g_take F279 rfl (i := 11) (listed' := #[true, true, true, true, true, true, true, true, true, true, true, true, false]) rfl (by kernel_rfl) (by kernel_rfl) (by kernel_rfl) (fun _ _ _ h => h) (Sd.of (S269.trans (S271.trans (S274.trans S277))) [] rfl) rfl rfl rfl rfl (fun _ hz => (r_field FI_71_6 rfl (F279.ev 1 rfl) rfl)) fun _ F280 => ?_
           refine d_one (i := 12) (listed' := #[true, true, true, true, true, true, true, true, true, true, true, true, true]) rfl (by kernel_rfl) rfl rfl ?_
           refine s_store S277.at' 2 TI_69 rfl rfl rfl rfl rfl (F280.ev 24 rfl) (F280.ev 23 rfl) rfl rfl rfl rfl rfl fun w281 S281 => ?_
           refine ⟨Sd.of (S269.trans (S271.trans (S274.trans (S277.trans S281)))) [] rfl, ?_⟩
           refine wpAnyH_done (by kernel_rfl) (x_normal ?_) _
           exact ⟨b271, A274, N274, C274, b269, A277, N277, C277, F280.cut rfl, ((S28.trans (S269.trans (S271.trans (S274.trans (S277.trans S281))))).pick [0, 3, 4, 5, 2, 1] rfl)⟩
         · skip
           refine f_val (v := .slice x_Wa x_Wn x_Wc) F273 rfl rfl (r_loadB S271.at' 2 TI_62 rfl rfl (F273.ev 20 rfl) rfl rfl (fun _ => rfl) rfl) rfl fun _ F282 => ?_
           refine ⟨Sd.of (S269.trans S271) [] rfl, ?_⟩
           refine d_one (i := 4) (listed' := #[true, true, true, true, true, true, true, true, true, false, false, false, false]) rfl (by kernel_rfl) rfl rfl ?_
           refine f_app (news := x.touch.reads) F282 S271.at' 0 ET_62 rfl rfl rfl rfl rfl rfl (F282.ev 13 rfl) (F282.ev 16 rfl) ((Rd.mv (Nat.succ_pos _) V_v_x_touch_reads (S1.trans (T6.trans (S7.trans (S11.trans (T16.trans (S17.trans (S21.trans (T26.trans (S28.trans (S269.trans S271)))))))))))).1 (by ((repeat (first | rw [List.length_append] | rw [List.length_cons] | rw [List.length_nil] | rw [List.length_take] | rw [List.length_drop])) <;> omega)) fun A283 N283 C283 _ w283 F284 S283 l283 => ?_
           refine ⟨Sd.of (S269.trans (S271.trans S283)) [] rfl, ?_⟩
           refine d_one (i := 9) (listed' := #[true, true, true, true, true, true, true, true, true, true, false, false, false]) rfl (by kernel_rfl) rfl rfl ?_
           refine f_app (news := x.touch.writes) F284 S283.at' 1 ET_62 rfl rfl rfl rfl rfl rfl (F284.ev 18 rfl) (F284.ev 21 rfl) ((Rd.mv (Nat.succ_pos _) V_v_x_touch_writes (S1.trans (T6.trans (S7.trans (S11.trans (T16.trans (S17.trans (S21.trans (T26.trans (S28.trans (S269.trans (S271.trans S283))))))))))))).1 (by ((repeat (first | rw [List.length_append] | rw [List.length_cons] | rw [List.length_nil] | rw [List.length_take] | rw [List.length_drop])) <;> omega)) fun A285 N285 C285 _ w285 F286 S285 l285 => ?_
           refine ⟨Sd.of (S269.trans (S271.trans (S283.trans S285))) [] rfl, ?_⟩
           refine g_take (v := .agg #[.slice A283 N283 C283, .slice A285 N285 C285]) F286 rfl (i := 10) (listed' := #[true, true, true, true, true, true, true, true, true, true, true, false, false]) rfl (by kernel_rfl) (by kernel_rfl) (by kernel_rfl) (fun _ _ _ h => h) (Sd.of (S269.trans (S271.trans (S283.trans S285))) [] rfl) rfl rfl rfl rfl (fun _ hz => (r_build BI_69 rfl (lc (pr2 (F286.ev 17 rfl)) (lc (pr2 (F286.ev 22 rfl)) rfl)) rfl)) fun _ F287 => ?_
           refine g_take F287 rfl (i := 11) (listed' := #[true, true, true, true, true, true, true, true, true, true, true, true, false]) rfl (by kernel_rfl) (by kernel_rfl) (by kernel_rfl) (fun _ _ _ h => h) (Sd.of (S269.trans (S271.trans (S283.trans S285))) [] rfl) rfl rfl rfl rfl (fun _ hz => (r_field FI_71_6 rfl (F287.ev 1 rfl) rfl)) fun _ F288 => ?_
           refine d_one (i := 12) (listed' := #[true, true, true, true, true, true, true, true, true, true, true, true, true]) rfl (by kernel_rfl) rfl rfl ?_
           refine s_store S285.at' 2 TI_69 rfl rfl rfl rfl rfl (F288.ev 24 rfl) (F288.ev 23 rfl) rfl rfl rfl rfl rfl fun w289 S289 => ?_
           refine ⟨Sd.of (S269.trans (S271.trans (S283.trans (S285.trans S289)))) [] rfl, ?_⟩
           refine wpAnyH_done (by kernel_rfl) (x_normal ?_) _
           exact ⟨b271, A283, N283, C283, b269, A285, N285, C285, F288.cut rfl, ((S28.trans (S269.trans (S271.trans (S283.trans (S285.trans S289))))).pick [0, 3, 4, 5, 2, 1] rfl)⟩
       · skip
         refine f_val (v := .slice x_Wa x_Wn x_Wc) F272 rfl rfl (r_loadB S271.at' 2 TI_62 rfl rfl (F272.ev 20 rfl) rfl rfl (fun _ => rfl) rfl) rfl fun _ F290 => ?_
         refine ⟨Sd.of (S269.trans S271) [] rfl, ?_⟩
         refine d_one (i := 3) (listed' := #[true, true, true, true, false, true, true, true, true, false, false, false, false]) rfl (by kernel_rfl) rfl rfl ?_
         refine f_val (v := .slice x_Ra x_Rn x_Rc) F290 rfl rfl (r_loadB S271.at' 2 TI_62 rfl rfl (F290.ev 15 rfl) rfl rfl (fun _ => rfl) rfl) rfl fun _ F291 => ?_
         refine ⟨Sd.of (S269.trans S271) [] rfl, ?_⟩
         refine d_one (i := 4) (listed' := #[true, true, true, true, true, true, true, true, true, false, false, false, false]) rfl (by kernel_rfl) rfl rfl ?_
         refine f_app (news := x.touch.reads) F291 S271.at' 0 ET_62 rfl rfl rfl rfl rfl rfl (F291.ev 13 rfl) (F291.ev 16 rfl) ((Rd.mv (Nat.succ_pos _) V_v_x_touch_reads (S1.trans (T6.trans (S7.trans (S11.trans (T16.trans (S17.trans (S21.trans (T26.trans (S28.trans (S269.trans S271)))))))))))).1 (by ((repeat (first | rw [List.length_append] | rw [List.length_cons] | rw [List.length_nil] | rw [List.length_take] | rw [List.length_drop])) <;> omega)) fun A292 N292 C292 _ w292 F293 S292 l292 => ?_
         refine ⟨Sd.of (S269.trans (S271.trans S292)) [] rfl, ?_⟩
         refine d_one (i := 9) (listed' := #[true, true, true, true, true, true, true, true, true, true, false, false, false]) rfl (by kernel_rfl) rfl rfl ?_
         refine f_app (news := x.touch.writes) F293 S292.at' 1 ET_62 rfl rfl rfl rfl rfl rfl (F293.ev 18 rfl) (F293.ev 21 rfl) ((Rd.mv (Nat.succ_pos _) V_v_x_touch_writes (S1.trans (T6.trans (S7.trans (S11.trans (T16.trans (S17.trans (S21.trans (T26.trans (S28.trans (S269.trans (S271.trans S292))))))))))))).1 (by ((repeat (first | rw [List.length_append] | rw [List.length_cons] | rw [List.length_nil] | rw [List.length_take] | rw [List.length_drop])) <;> omega)) fun A294 N294 C294 _ w294 F295 S294 l294 => ?_
         refine ⟨Sd.of (S269.trans (S271.trans (S292.trans S294))) [] rfl, ?_⟩
         refine g_take (v := .agg #[.slice A292 N292 C292, .slice A294 N294 C294]) F295 rfl (i := 10) (listed' := #[true, true, true, true, true, true, true, true, true, true, true, false, false]) rfl (by kernel_rfl) (by kernel_rfl) (by kernel_rfl) (fun _ _ _ h => h) (Sd.of (S269.trans (S271.trans (S292.trans S294))) [] rfl) rfl rfl rfl rfl (fun _ hz => (r_build BI_69 rfl (lc (pr2 (F295.ev 17 rfl)) (lc (pr2 (F295.ev 22 rfl)) rfl)) rfl)) fun _ F296 => ?_
         refine g_take F296 rfl (i := 11) (listed' := #[true, true, true, true, true, true, true, true, true, true, true, true, false]) rfl (by kernel_rfl) (by kernel_rfl) (by kernel_rfl) (fun _ _ _ h => h) (Sd.of (S269.trans (S271.trans (S292.trans S294))) [] rfl) rfl rfl rfl rfl (fun _ hz => (r_field FI_71_6 rfl (F296.ev 1 rfl) rfl)) fun _ F297 => ?_
         refine d_one (i := 12) (listed' := #[true, true, true, true, true, true, true, true, true, true, true, true, true]) rfl (by kernel_rfl) rfl rfl ?_
         refine s_store S294.at' 2 TI_69 rfl rfl rfl rfl rfl (F297.ev 24 rfl) (F297.ev 23 rfl) rfl rfl rfl rfl rfl fun w298 S298 => ?_
         refine ⟨Sd.of (S269.trans (S271.trans (S292.trans (S294.trans S298)))) [] rfl, ?_⟩
         refine wpAnyH_done (by kernel_rfl) (x_normal ?_) _
         exact ⟨b271, A292, N292, C292, b269, A294, N294, C294, F297.cut rfl, ((S28.trans (S269.trans (S271.trans (S292.trans (S294.trans S298))))).pick [0, 3, 4, 5, 2, 1] rfl)⟩
     · skip
       refine f_val (v := .slice x_Ra x_Rn x_Rc) F270 rfl rfl (r_loadB S269.at' 1 TI_62 rfl rfl (F270.ev 15 rfl) rfl rfl (fun _ => rfl) rfl) rfl fun _ F299 => ?_
       refine ⟨Sd.of S269 [] rfl, ?_⟩
       refine d_all (rs := [0, 8]) rfl (by kernel_rfl) (by simp) (d_cons (i := 0) (listed' := #[true, true, true, true, false, true, true, true, false, false, false, false, false]) rfl rfl ?_ (d_cons (i := 8) (listed' := #[false, true, true, true, false, true, true, true, true, false, false, false, false]) rfl rfl ?_ d_nil))
       · skip
         refine f_buildSl (ok := okS) (vs := []) F299 S269.at' (([] : List ByteArray)) ET_62 rfl rfl rfl rfl rfl rfl rfl rfl rfl (by simp) fun b300 _ w300 F301 S300 => ?_
         refine ⟨Sd.of (S269.trans S300) [] rfl, ?_⟩
         refine d_all (rs := [4, 8]) rfl (by kernel_rfl) (by simp) (d_cons (i := 4) (listed' := #[true, true, true, true, true, true, true, true, false, false, false, false, false]) rfl rfl ?_ (d_cons (i := 8) (listed' := #[true, true, true, true, false, true, true, true, true, false, false, false, false]) rfl rfl ?_ d_nil))
         · skip
           refine f_app (news := x.touch.reads) F301 S300.at' 0 ET_62 rfl rfl rfl rfl rfl rfl (F301.ev 13 rfl) (F301.ev 16 rfl) ((Rd.mv (Nat.succ_pos _) V_v_x_touch_reads (S1.trans (T6.trans (S7.trans (S11.trans (T16.trans (S17.trans (S21.trans (T26.trans (S28.trans (S269.trans S300)))))))))))).1 (by ((repeat (first | rw [List.length_append] | rw [List.length_cons] | rw [List.length_nil] | rw [List.length_take] | rw [List.length_drop])) <;> omega)) fun A302 N302 C302 _ w302 F303 S302 l302 => ?_
           refine ⟨Sd.of (S269.trans (S300.trans S302)) [] rfl, ?_⟩
           refine d_one (i := 8) (listed' := #[true, true, true, true, true, true, true, true, true, false, false, false, false]) rfl (by kernel_rfl) rfl rfl ?_
           refine f_val (v := .slice x_Wa x_Wn x_Wc) F303 rfl rfl (r_loadB S302.at' 2 TI_62 rfl rfl (F303.ev 20 rfl) rfl rfl (fun _ => rfl) rfl) rfl fun _ F304 => ?_
           refine ⟨Sd.of (S269.trans (S300.trans S302)) [] rfl, ?_⟩
           refine d_one (i := 9) (listed' := #[true, true, true, true, true, true, true, true, true, true, false, false, false]) rfl (by kernel_rfl) rfl rfl ?_
           refine f_app (news := x.touch.writes) F304 S302.at' 1 ET_62 rfl rfl rfl rfl rfl rfl (F304.ev 18 rfl) (F304.ev 21 rfl) ((Rd.mv (Nat.succ_pos _) V_v_x_touch_writes (S1.trans (T6.trans (S7.trans (S11.trans (T16.trans (S17.trans (S21.trans (T26.trans (S28.trans (S269.trans (S300.trans S302))))))))))))).1 (by ((repeat (first | rw [List.length_append] | rw [List.length_cons] | rw [List.length_nil] | rw [List.length_take] | rw [List.length_drop])) <;> omega)) fun A305 N305 C305 _ w305 F306 S305 l305 => ?_
           refine ⟨Sd.of (S269.trans (S300.trans (S302.trans S305))) [] rfl, ?_⟩
           refine g_take (v := .agg #[.slice A302 N302 C302, .slice A305 N305 C305]) F306 rfl (i := 10) (listed' := #[true, true, true, true, true, true, true, true, true, true, true, false, false]) rfl (by kernel_rfl) (by kernel_rfl) (by kernel_rfl) (fun _ _ _ h => h) (Sd.of (S269.trans (S300.trans (S302.trans S305))) [] rfl) rfl rfl rfl rfl (fun _ hz => (r_build BI_69 rfl (lc (pr2 (F306.ev 17 rfl)) (lc (pr2 (F306.ev 22 rfl)) rfl)) rfl)) fun _ F307 => ?_
           refine g_take F307 rfl (i := 11) (listed' := #[true, true, true, true, true, true, true, true, true, true, true, true, false]) rfl (by kernel_rfl) (by kernel_rfl) (by kernel_rfl) (fun _ _ _ h => h) (Sd.of (S269.trans (S300.trans (S302.trans S305))) [] rfl) rfl rfl rfl rfl (fun _ hz => (r_field FI_71_6 rfl (F307.ev 1 rfl) rfl)) fun _ F308 => ?_
           refine d_one (i := 12) (listed' := #[true, true, true, true, true, true, true, true, true, true, true, true, true]) rfl (by kernel_rfl) rfl rfl ?_
           refine s_store S305.at' 2 TI_69 rfl rfl rfl rfl rfl (F308.ev 24 rfl) (F308.ev 23 rfl) rfl rfl rfl rfl rfl fun w309 S309 => ?_
           refine ⟨Sd.of (S269.trans (S300.trans (S302.trans (S305.trans S309)))) [] rfl, ?_⟩
           refine wpAnyH_done (by kernel_rfl) (x_normal ?_) _
           exact ⟨b300, A302, N302, C302, b269, A305, N305, C305, F308.cut rfl, ((S28.trans (S269.trans (S300.trans (S302.trans (S305.trans S309))))).pick [0, 3, 4, 5, 2, 1] rfl)⟩
         · skip
           refine f_val (v := .slice x_Wa x_Wn x_Wc) F301 rfl rfl (r_loadB S300.at' 2 TI_62 rfl rfl (F301.ev 20 rfl) rfl rfl (fun _ => rfl) rfl) rfl fun _ F310 => ?_
           refine ⟨Sd.of (S269.trans S300) [] rfl, ?_⟩
           refine d_one (i := 4) (listed' := #[true, true, true, true, true, true, true, true, true, false, false, false, false]) rfl (by kernel_rfl) rfl rfl ?_
           refine f_app (news := x.touch.reads) F310 S300.at' 0 ET_62 rfl rfl rfl rfl rfl rfl (F310.ev 13 rfl) (F310.ev 16 rfl) ((Rd.mv (Nat.succ_pos _) V_v_x_touch_reads (S1.trans (T6.trans (S7.trans (S11.trans (T16.trans (S17.trans (S21.trans (T26.trans (S28.trans (S269.trans S300)))))))))))).1 (by ((repeat (first | rw [List.length_append] | rw [List.length_cons] | rw [List.length_nil] | rw [List.length_take] | rw [List.length_drop])) <;> omega)) fun A311 N311 C311 _ w311 F312 S311 l311 => ?_
           refine ⟨Sd.of (S269.trans (S300.trans S311)) [] rfl, ?_⟩
           refine d_one (i := 9) (listed' := #[true, true, true, true, true, true, true, true, true, true, false, false, false]) rfl (by kernel_rfl) rfl rfl ?_
           refine f_app (news := x.touch.writes) F312 S311.at' 1 ET_62 rfl rfl rfl rfl rfl rfl (F312.ev 18 rfl) (F312.ev 21 rfl) ((Rd.mv (Nat.succ_pos _) V_v_x_touch_writes (S1.trans (T6.trans (S7.trans (S11.trans (T16.trans (S17.trans (S21.trans (T26.trans (S28.trans (S269.trans (S300.trans S311))))))))))))).1 (by ((repeat (first | rw [List.length_append] | rw [List.length_cons] | rw [List.length_nil] | rw [List.length_take] | rw [List.length_drop])) <;> omega)) fun A313 N313 C313 _ w313 F314 S313 l313 => ?_
           refine ⟨Sd.of (S269.trans (S300.trans (S311.trans S313))) [] rfl, ?_⟩
           refine g_take (v := .agg #[.slice A311 N311 C311, .slice A313 N313 C313]) F314 rfl (i := 10) (listed' := #[true, true, true, true, true, true, true, true, true, true, true, false, false]) rfl (by kernel_rfl) (by kernel_rfl) (by kernel_rfl) (fun _ _ _ h => h) (Sd.of (S269.trans (S300.trans (S311.trans S313))) [] rfl) rfl rfl rfl rfl (fun _ hz => (r_build BI_69 rfl (lc (pr2 (F314.ev 17 rfl)) (lc (pr2 (F314.ev 22 rfl)) rfl)) rfl)) fun _ F315 => ?_
           refine g_take F315 rfl (i := 11) (listed' := #[true, true, true, true, true, true, true, true, true, true, true, true, false]) rfl (by kernel_rfl) (by kernel_rfl) (by kernel_rfl) (fun _ _ _ h => h) (Sd.of (S269.trans (S300.trans (S311.trans S313))) [] rfl) rfl rfl rfl rfl (fun _ hz => (r_field FI_71_6 rfl (F315.ev 1 rfl) rfl)) fun _ F316 => ?_
           refine d_one (i := 12) (listed' := #[true, true, true, true, true, true, true, true, true, true, true, true, true]) rfl (by kernel_rfl) rfl rfl ?_
           refine s_store S313.at' 2 TI_69 rfl rfl rfl rfl rfl (F316.ev 24 rfl) (F316.ev 23 rfl) rfl rfl rfl rfl rfl fun w317 S317 => ?_
           refine ⟨Sd.of (S269.trans (S300.trans (S311.trans (S313.trans S317)))) [] rfl, ?_⟩
           refine wpAnyH_done (by kernel_rfl) (x_normal ?_) _
           exact ⟨b300, A311, N311, C311, b269, A313, N313, C313, F316.cut rfl, ((S28.trans (S269.trans (S300.trans (S311.trans (S313.trans S317))))).pick [0, 3, 4, 5, 2, 1] rfl)⟩
       · skip
         refine f_val (v := .slice x_Wa x_Wn x_Wc) F299 rfl rfl (r_loadB S269.at' 1 TI_62 rfl rfl (F299.ev 20 rfl) rfl rfl (fun _ => rfl) rfl) rfl fun _ F318 => ?_
         refine ⟨Sd.of S269 [] rfl, ?_⟩
         refine d_one (i := 0) (listed' := #[true, true, true, true, false, true, true, true, true, false, false, false, false]) rfl (by kernel_rfl) rfl rfl ?_
         refine f_buildSl (ok := okS) (vs := []) F318 S269.at' (([] : List ByteArray)) ET_62 rfl rfl rfl rfl rfl rfl rfl rfl rfl (by simp) fun b319 _ w319 F320 S319 => ?_
         refine ⟨Sd.of (S269.trans S319) [] rfl, ?_⟩
         refine d_one (i := 4) (listed' := #[true, true, true, true, true, true, true, true, true, false, false, false, false]) rfl (by kernel_rfl) rfl rfl ?_
         refine f_app (news := x.touch.reads) F320 S319.at' 0 ET_62 rfl rfl rfl rfl rfl rfl (F320.ev 13 rfl) (F320.ev 16 rfl) ((Rd.mv (Nat.succ_pos _) V_v_x_touch_reads (S1.trans (T6.trans (S7.trans (S11.trans (T16.trans (S17.trans (S21.trans (T26.trans (S28.trans (S269.trans S319)))))))))))).1 (by ((repeat (first | rw [List.length_append] | rw [List.length_cons] | rw [List.length_nil] | rw [List.length_take] | rw [List.length_drop])) <;> omega)) fun A321 N321 C321 _ w321 F322 S321 l321 => ?_
         refine ⟨Sd.of (S269.trans (S319.trans S321)) [] rfl, ?_⟩
         refine d_one (i := 9) (listed' := #[true, true, true, true, true, true, true, true, true, true, false, false, false]) rfl (by kernel_rfl) rfl rfl ?_
         refine f_app (news := x.touch.writes) F322 S321.at' 1 ET_62 rfl rfl rfl rfl rfl rfl (F322.ev 18 rfl) (F322.ev 21 rfl) ((Rd.mv (Nat.succ_pos _) V_v_x_touch_writes (S1.trans (T6.trans (S7.trans (S11.trans (T16.trans (S17.trans (S21.trans (T26.trans (S28.trans (S269.trans (S319.trans S321))))))))))))).1 (by ((repeat (first | rw [List.length_append] | rw [List.length_cons] | rw [List.length_nil] | rw [List.length_take] | rw [List.length_drop])) <;> omega)) fun A323 N323 C323 _ w323 F324 S323 l323 => ?_
         refine ⟨Sd.of (S269.trans (S319.trans (S321.trans S323))) [] rfl, ?_⟩
         refine g_take (v := .agg #[.slice A321 N321 C321, .slice A323 N323 C323]) F324 rfl (i := 10) (listed' := #[true, true, true, true, true, true, true, true, true, true, true, false, false]) rfl (by kernel_rfl) (by kernel_rfl) (by kernel_rfl) (fun _ _ _ h => h) (Sd.of (S269.trans (S319.trans (S321.trans S323))) [] rfl) rfl rfl rfl rfl (fun _ hz => (r_build BI_69 rfl (lc (pr2 (F324.ev 17 rfl)) (lc (pr2 (F324.ev 22 rfl)) rfl)) rfl)) fun _ F325 => ?_
         refine g_take F325 rfl (i := 11) (listed' := #[true, true, true, true, true, true, true, true, true, true, true, true, false]) rfl (by kernel_rfl) (by kernel_rfl) (by kernel_rfl) (fun _ _ _ h => h) (Sd.of (S269.trans (S319.trans (S321.trans S323))) [] rfl) rfl rfl rfl rfl (fun _ hz => (r_field FI_71_6 rfl (F325.ev 1 rfl) rfl)) fun _ F326 => ?_
         refine d_one (i := 12) (listed' := #[true, true, true, true, true, true, true, true, true, true, true, true, true]) rfl (by kernel_rfl) rfl rfl ?_
         refine s_store S323.at' 2 TI_69 rfl rfl rfl rfl rfl (F326.ev 24 rfl) (F326.ev 23 rfl) rfl rfl rfl rfl rfl fun w327 S327 => ?_
         refine ⟨Sd.of (S269.trans (S319.trans (S321.trans (S323.trans S327)))) [] rfl, ?_⟩
         refine wpAnyH_done (by kernel_rfl) (x_normal ?_) _
         exact ⟨b319, A321, N321, C321, b269, A323, N323, C323, F326.cut rfl, ((S28.trans (S269.trans (S319.trans (S321.trans (S323.trans S327))))).pick [0, 3, 4, 5, 2, 1] rfl)⟩
     · skip
       refine f_val (v := .slice x_Wa x_Wn x_Wc) F270 rfl rfl (r_loadB S269.at' 1 TI_62 rfl rfl (F270.ev 20 rfl) rfl rfl (fun _ => rfl) rfl) rfl fun _ F328 => ?_
       refine ⟨Sd.of S269 [] rfl, ?_⟩
       refine d_all (rs := [0, 3]) rfl (by kernel_rfl) (by simp) (d_cons (i := 0) (listed' := #[true, true, true, false, false, true, true, true, true, false, false, false, false]) rfl rfl ?_ (d_cons (i := 3) (listed' := #[false, true, true, true, false, true, true, true, true, false, false, false, false]) rfl rfl ?_ d_nil))
       · skip
         refine f_buildSl (ok := okS) (vs := []) F328 S269.at' (([] : List ByteArray)) ET_62 rfl rfl rfl rfl rfl rfl rfl rfl rfl (by simp) fun b329 _ w329 F330 S329 => ?_
         refine ⟨Sd.of (S269.trans S329) [] rfl, ?_⟩
         refine d_one (i := 3) (listed' := #[true, true, true, true, false, true, true, true, true, false, false, false, false]) rfl (by kernel_rfl) rfl rfl ?_
         refine f_val (v := .slice x_Ra x_Rn x_Rc) F330 rfl rfl (r_loadB S329.at' 2 TI_62 rfl rfl (F330.ev 15 rfl) rfl rfl (fun _ => rfl) rfl) rfl fun _ F331 => ?_
         refine ⟨Sd.of (S269.trans S329) [] rfl, ?_⟩
         refine d_one (i := 4) (listed' := #[true, true, true, true, true, true, true, true, true, false, false, false, false]) rfl (by kernel_rfl) rfl rfl ?_
         refine f_app (news := x.touch.reads) F331 S329.at' 0 ET_62 rfl rfl rfl rfl rfl rfl (F331.ev 13 rfl) (F331.ev 16 rfl) ((Rd.mv (Nat.succ_pos _) V_v_x_touch_reads (S1.trans (T6.trans (S7.trans (S11.trans (T16.trans (S17.trans (S21.trans (T26.trans (S28.trans (S269.trans S329)))))))))))).1 (by ((repeat (first | rw [List.length_append] | rw [List.length_cons] | rw [List.length_nil] | rw [List.length_take] | rw [List.length_drop])) <;> omega)) fun A332 N332 C332 _ w332 F333 S332 l332 => ?_
         refine ⟨Sd.of (S269.trans (S329.trans S332)) [] rfl, ?_⟩
         refine d_one (i := 9) (listed' := #[true, true, true, true, true, true, true, true, true, true, false, false, false]) rfl (by kernel_rfl) rfl rfl ?_
         refine f_app (news := x.touch.writes) F333 S332.at' 1 ET_62 rfl rfl rfl rfl rfl rfl (F333.ev 18 rfl) (F333.ev 21 rfl) ((Rd.mv (Nat.succ_pos _) V_v_x_touch_writes (S1.trans (T6.trans (S7.trans (S11.trans (T16.trans (S17.trans (S21.trans (T26.trans (S28.trans (S269.trans (S329.trans S332))))))))))))).1 (by ((repeat (first | rw [List.length_append] | rw [List.length_cons] | rw [List.length_nil] | rw [List.length_take] | rw [List.length_drop])) <;> omega)) fun A334 N334 C334 _ w334 F335 S334 l334 => ?_
         refine ⟨Sd.of (S269.trans (S329.trans (S332.trans S334))) [] rfl, ?_⟩
         refine g_take (v := .agg #[.slice A332 N332 C332, .slice A334 N334 C334]) F335 rfl (i := 10) (listed' := #[true, true, true, true, true, true, true, true, true, true, true, false, false]) rfl (by kernel_rfl) (by kernel_rfl) (by kernel_rfl) (fun _ _ _ h => h) (Sd.of (S269.trans (S329.trans (S332.trans S334))) [] rfl) rfl rfl rfl rfl (fun _ hz => (r_build BI_69 rfl (lc (pr2 (F335.ev 17 rfl)) (lc (pr2 (F335.ev 22 rfl)) rfl)) rfl)) fun _ F336 => ?_
         refine g_take F336 rfl (i := 11) (listed' := #[true, true, true, true, true, true, true, true, true, true, true, true, false]) rfl (by kernel_rfl) (by kernel_rfl) (by kernel_rfl) (fun _ _ _ h => h) (Sd.of (S269.trans (S329.trans (S332.trans S334))) [] rfl) rfl rfl rfl rfl (fun _ hz => (r_field FI_71_6 rfl (F336.ev 1 rfl) rfl)) fun _ F337 => ?_
         refine d_one (i := 12) (listed' := #[true, true, true, true, true, true, true, true, true, true, true, true, true]) rfl (by kernel_rfl) rfl rfl ?_
         refine s_store S334.at' 2 TI_69 rfl rfl rfl rfl rfl (F337.ev 24 rfl) (F337.ev 23 rfl) rfl rfl rfl rfl rfl fun w338 S338 => ?_
         refine ⟨Sd.of (S269.trans (S329.trans (S332.trans (S334.trans S338)))) [] rfl, ?_⟩
         refine wpAnyH_done (by kernel_rfl) (x_normal ?_) _
         exact ⟨b329, A332, N332, C332, b269, A334, N334, C334, F337.cut rfl, ((S28.trans (S269.trans (S329.trans (S332.trans (S334.trans S338))))).pick [0, 3, 4, 5, 2, 1] rfl)⟩
       · skip
         refine f_val (v := .slice x_Ra x_Rn x_Rc) F328 rfl rfl (r_loadB S269.at' 1 TI_62 rfl rfl (F328.ev 15 rfl) rfl rfl (fun _ => rfl) rfl) rfl fun _ F339 => ?_
         refine ⟨Sd.of S269 [] rfl, ?_⟩
         refine d_one (i := 0) (listed' := #[true, true, true, true, false, true, true, true, true, false, false, false, false]) rfl (by kernel_rfl) rfl rfl ?_
         refine f_buildSl (ok := okS) (vs := []) F339 S269.at' (([] : List ByteArray)) ET_62 rfl rfl rfl rfl rfl rfl rfl rfl rfl (by simp) fun b340 _ w340 F341 S340 => ?_
         refine ⟨Sd.of (S269.trans S340) [] rfl, ?_⟩
         refine d_one (i := 4) (listed' := #[true, true, true, true, true, true, true, true, true, false, false, false, false]) rfl (by kernel_rfl) rfl rfl ?_
         refine f_app (news := x.touch.reads) F341 S340.at' 0 ET_62 rfl rfl rfl rfl rfl rfl (F341.ev 13 rfl) (F341.ev 16 rfl) ((Rd.mv (Nat.succ_pos _) V_v_x_touch_reads (S1.trans (T6.trans (S7.trans (S11.trans (T16.trans (S17.trans (S21.trans (T26.trans (S28.trans (S269.trans S340)))))))))))).1 (by ((repeat (first | rw [List.length_append] | rw [List.length_cons] | rw [List.length_nil] | rw [List.length_take] | rw [List.length_drop])) <;> omega)) fun A342 N342 C342 _ w342 F343 S342 l342 => ?_
         refine ⟨Sd.of (S269.trans (S340.trans S342)) [] rfl, ?_⟩
         refine d_one (i := 9) (listed' := #[true, true, true, true, true, true, true, true, true, true, false, false, false]) rfl (by kernel_rfl) rfl rfl ?_
         refine f_app (news := x.touch.writes) F343 S342.at' 1 ET_62 rfl rfl rfl rfl rfl rfl (F343.ev 18 rfl) (F343.ev 21 rfl) ((Rd.mv (Nat.succ_pos _) V_v_x_touch_writes (S1.trans (T6.trans (S7.trans (S11.trans (T16.trans (S17.trans (S21.trans (T26.trans (S28.trans (S269.trans (S340.trans S342))))))))))))).1 (by ((repeat (first | rw [List.length_append] | rw [List.length_cons] | rw [List.length_nil] | rw [List.length_take] | rw [List.length_drop])) <;> omega)) fun A344 N344 C344 _ w344 F345 S344 l344 => ?_
         refine ⟨Sd.of (S269.trans (S340.trans (S342.trans S344))) [] rfl, ?_⟩
         refine g_take (v := .agg #[.slice A342 N342 C342, .slice A344 N344 C344]) F345 rfl (i := 10) (listed' := #[true, true, true, true, true, true, true, true, true, true, true, false, false]) rfl (by kernel_rfl) (by kernel_rfl) (by kernel_rfl) (fun _ _ _ h => h) (Sd.of (S269.trans (S340.trans (S342.trans S344))) [] rfl) rfl rfl rfl rfl (fun _ hz => (r_build BI_69 rfl (lc (pr2 (F345.ev 17 rfl)) (lc (pr2 (F345.ev 22 rfl)) rfl)) rfl)) fun _ F346 => ?_
         refine g_take F346 rfl (i := 11) (listed' := #[true, true, true, true, true, true, true, true, true, true, true, true, false]) rfl (by kernel_rfl) (by kernel_rfl) (by kernel_rfl) (fun _ _ _ h => h) (Sd.of (S269.trans (S340.trans (S342.trans S344))) [] rfl) rfl rfl rfl rfl (fun _ hz => (r_field FI_71_6 rfl (F346.ev 1 rfl) rfl)) fun _ F347 => ?_
         refine d_one (i := 12) (listed' := #[true, true, true, true, true, true, true, true, true, true, true, true, true]) rfl (by kernel_rfl) rfl rfl ?_
         refine s_store S344.at' 2 TI_69 rfl rfl rfl rfl rfl (F347.ev 24 rfl) (F347.ev 23 rfl) rfl rfl rfl rfl rfl fun w348 S348 => ?_
         refine ⟨Sd.of (S269.trans (S340.trans (S342.trans (S344.trans S348)))) [] rfl, ?_⟩
         refine wpAnyH_done (by kernel_rfl) (x_normal ?_) _
         exact ⟨b340, A342, N342, C342, b269, A344, N344, C344, F347.cut rfl, ((S28.trans (S269.trans (S340.trans (S342.trans (S344.trans S348))))).pick [0, 3, 4, 5, 2, 1] rfl)⟩
   · skip
     refine f_val (v := .slice x_Wa x_Wn x_Wc) F32 rfl rfl (r_loadB S28.at' 0 TI_62 rfl rfl (F32.ev 20 rfl) rfl rfl (fun _ => rfl) rfl) rfl fun _ F349 => ?_
     refine ⟨Sd.of (Mv.refl S28.at') [] rfl, ?_⟩
     refine d_all (rs := [0, 3, 5]) rfl (by kernel_rfl) (by simp) (d_cons (i := 0) (listed' := #[true, true, true, false, false, false, true, true, true, false, false, false, false]) rfl rfl ?_ (d_cons (i := 3) (listed' := #[false, true, true, true, false, false, true, true, true, false, false, false, false]) rfl rfl ?_ (d_cons (i := 5) (listed' := #[false, true, true, false, false, true, true, true, true, false, false, false, false]) rfl rfl ?_ d_nil)))
     · skip
       refine f_buildSl (ok := okS) (vs := []) F349 S28.at' (([] : List ByteArray)) ET_62 rfl rfl rfl rfl rfl rfl rfl rfl rfl (by simp) fun b350 _ w350 F351 S350 => ?_
       refine ⟨Sd.of S350 [] rfl, ?_⟩
       refine d_all (rs := [3, 5]) rfl (by kernel_rfl) (by simp) (d_cons (i := 3) (listed' := #[true, true, true, true, false, false, true, true, true, false, false, false, false]) rfl rfl ?_ (d_cons (i := 5) (listed' := #[true, true, true, false, false, true, true, true, true, false, false, false, false]) rfl rfl ?_ d_nil))
       · skip
         refine f_val (v := .slice x_Ra x_Rn x_Rc) F351 rfl rfl (r_loadB S350.at' 1 TI_62 rfl rfl (F351.ev 15 rfl) rfl rfl (fun _ => rfl) rfl) rfl fun _ F352 => ?_
         refine ⟨Sd.of S350 [] rfl, ?_⟩
         refine d_all (rs := [4, 5]) rfl (by kernel_rfl) (by simp) (d_cons (i := 4) (listed' := #[true, true, true, true, true, false, true, true, true, false, false, false, false]) rfl rfl ?_ (d_cons (i := 5) (listed' := #[true, true, true, true, false, true, true, true, true, false, false, false, false]) rfl rfl ?_ d_nil))
         · skip
           refine f_app (news := x.touch.reads) F352 S350.at' 0 ET_62 rfl rfl rfl rfl rfl rfl (F352.ev 13 rfl) (F352.ev 16 rfl) ((Rd.mv (Nat.succ_pos _) V_v_x_touch_reads (S1.trans (T6.trans (S7.trans (S11.trans (T16.trans (S17.trans (S21.trans (T26.trans (S28.trans S350))))))))))).1 (by ((repeat (first | rw [List.length_append] | rw [List.length_cons] | rw [List.length_nil] | rw [List.length_take] | rw [List.length_drop])) <;> omega)) fun A353 N353 C353 _ w353 F354 S353 l353 => ?_
           refine ⟨Sd.of (S350.trans S353) [] rfl, ?_⟩
           refine d_one (i := 5) (listed' := #[true, true, true, true, true, true, true, true, true, false, false, false, false]) rfl (by kernel_rfl) rfl rfl ?_
           refine f_buildSl (ok := okS) (vs := []) F354 S353.at' (([] : List ByteArray)) ET_62 rfl rfl rfl rfl rfl rfl rfl rfl rfl (by simp) fun b355 _ w355 F356 S355 => ?_
           refine ⟨Sd.of (S350.trans (S353.trans S355)) [] rfl, ?_⟩
           refine d_one (i := 9) (listed' := #[true, true, true, true, true, true, true, true, true, true, false, false, false]) rfl (by kernel_rfl) rfl rfl ?_
           refine f_app (news := x.touch.writes) F356 S355.at' 0 ET_62 rfl rfl rfl rfl rfl rfl (F356.ev 18 rfl) (F356.ev 21 rfl) ((Rd.mv (Nat.succ_pos _) V_v_x_touch_writes (S1.trans (T6.trans (S7.trans (S11.trans (T16.trans (S17.trans (S21.trans (T26.trans (S28.trans (S350.trans (S353.trans S355))))))))))))).1 (by ((repeat (first | rw [List.length_append] | rw [List.length_cons] | rw [List.length_nil] | rw [List.length_take] | rw [List.length_drop])) <;> omega)) fun A357 N357 C357 _ w357 F358 S357 l357 => ?_
           refine ⟨Sd.of (S350.trans (S353.trans (S355.trans S357))) [] rfl, ?_⟩
           refine g_take (v := .agg #[.slice A353 N353 C353, .slice A357 N357 C357]) F358 rfl (i := 10) (listed' := #[true, true, true, true, true, true, true, true, true, true, true, false, false]) rfl (by kernel_rfl) (by kernel_rfl) (by kernel_rfl) (fun _ _ _ h => h) (Sd.of (S350.trans (S353.trans (S355.trans S357))) [] rfl) rfl rfl rfl rfl (fun _ hz => (r_build BI_69 rfl (lc (pr2 (F358.ev 17 rfl)) (lc (pr2 (F358.ev 22 rfl)) rfl)) rfl)) fun _ F359 => ?_
           refine g_take F359 rfl (i := 11) (listed' := #[true, true, true, true, true, true, true, true, true, true, true, true, false]) rfl (by kernel_rfl) (by kernel_rfl) (by kernel_rfl) (fun _ _ _ h => h) (Sd.of (S350.trans (S353.trans (S355.trans S357))) [] rfl) rfl rfl rfl rfl (fun _ hz => (r_field FI_71_6 rfl (F359.ev 1 rfl) rfl)) fun _ F360 => ?_
           refine d_one (i := 12) (listed' := #[true, true, true, true, true, true, true, true, true, true, true, true, true]) rfl (by kernel_rfl) rfl rfl ?_
           refine s_store S357.at' 2 TI_69 rfl rfl rfl rfl rfl (F360.ev 24 rfl) (F360.ev 23 rfl) rfl rfl rfl rfl rfl fun w361 S361 => ?_
           refine ⟨Sd.of (S350.trans (S353.trans (S355.trans (S357.trans S361)))) [] rfl, ?_⟩
           refine wpAnyH_done (by kernel_rfl) (x_normal ?_) _
           exact ⟨b350, A353, N353, C353, b355, A357, N357, C357, F360.cut rfl, ((S28.trans (S350.trans (S353.trans (S355.trans (S357.trans S361))))).pick [0, 3, 4, 5, 2, 1] rfl)⟩
         · skip
           refine f_buildSl (ok := okS) (vs := []) F352 S350.at' (([] : List ByteArray)) ET_62 rfl rfl rfl rfl rfl rfl rfl rfl rfl (by simp) fun b362 _ w362 F363 S362 => ?_
           refine ⟨Sd.of (S350.trans S362) [] rfl, ?_⟩
           refine d_one (i := 4) (listed' := #[true, true, true, true, true, true, true, true, true, false, false, false, false]) rfl (by kernel_rfl) rfl rfl ?_
           refine f_app (news := x.touch.reads) F363 S362.at' 1 ET_62 rfl rfl rfl rfl rfl rfl (F363.ev 13 rfl) (F363.ev 16 rfl) ((Rd.mv (Nat.succ_pos _) V_v_x_touch_reads (S1.trans (T6.trans (S7.trans (S11.trans (T16.trans (S17.trans (S21.trans (T26.trans (S28.trans (S350.trans S362)))))))))))).1 (by ((repeat (first | rw [List.length_append] | rw [List.length_cons] | rw [List.length_nil] | rw [List.length_take] | rw [List.length_drop])) <;> omega)) fun A364 N364 C364 _ w364 F365 S364 l364 => ?_
           refine ⟨Sd.of (S350.trans (S362.trans S364)) [] rfl, ?_⟩
           refine d_one (i := 9) (listed' := #[true, true, true, true, true, true, true, true, true, true, false, false, false]) rfl (by kernel_rfl) rfl rfl ?_
           refine f_app (news := x.touch.writes) F365 S364.at' 1 ET_62 rfl rfl rfl rfl rfl rfl (F365.ev 18 rfl) (F365.ev 21 rfl) ((Rd.mv (Nat.succ_pos _) V_v_x_touch_writes (S1.trans (T6.trans (S7.trans (S11.trans (T16.trans (S17.trans (S21.trans (T26.trans (S28.trans (S350.trans (S362.trans S364))))))))))))).1 (by ((repeat (first | rw [List.length_append] | rw [List.length_cons] | rw [List.length_nil] | rw [List.length_take] | rw [List.length_drop])) <;> omega)) fun A366 N366 C366 _ w366 F367 S366 l366 => ?_
           refine ⟨Sd.of (S350.trans (S362.trans (S364.trans S366))) [] rfl, ?_⟩
           refine g_take (v := .agg #[.slice A364 N364 C364, .slice A366 N366 C366]) F367 rfl (i := 10) (listed' := #[true, true, true, true, true, true, true, true, true, true, true, false, false]) rfl (by kernel_rfl) (by kernel_rfl) (by kernel_rfl) (fun _ _ _ h => h) (Sd.of (S350.trans (S362.trans (S364.trans S366))) [] rfl) rfl rfl rfl rfl (fun _ hz => (r_build BI_69 rfl (lc (pr2 (F367.ev 17 rfl)) (lc (pr2 (F367.ev 22 rfl)) rfl)) rfl)) fun _ F368 => ?_
           refine g_take F368 rfl (i := 11) (listed' := #[true, true, true, true, true, true, true, true, true, true, true, true, false]) rfl (by kernel_rfl) (by kernel_rfl) (by kernel_rfl) (fun _ _ _ h => h) (Sd.of (S350.trans (S362.trans (S364.trans S366))) [] rfl) rfl rfl rfl rfl (fun _ hz => (r_field FI_71_6 rfl (F368.ev 1 rfl) rfl)) fun _ F369 => ?_
           refine d_one (i := 12) (listed' := #[true, true, true, true, true, true, true, true, true, true, true, true, true]) rfl (by kernel_rfl) rfl rfl ?_
           refine s_store S366.at' 2 TI_69 rfl rfl rfl rfl rfl (F369.ev 24 rfl) (F369.ev 23 rfl) rfl rfl rfl rfl rfl fun w370 S370 => ?_
           refine ⟨Sd.of (S350.trans (S362.trans (S364.trans (S366.trans S370)))) [] rfl, ?_⟩
           refine wpAnyH_done (by kernel_rfl) (x_normal ?_) _
           exact ⟨b350, A364, N364, C364, b362, A366, N366, C366, F369.cut rfl, ((S28.trans (S350.trans (S362.trans (S364.trans (S366.trans S370))))).pick [0, 3, 4, 5, 2, 1] rfl)⟩
       · skip
         refine f_buildSl (ok := okS) (vs := []) F351 S350.at' (([] : List ByteArray)) ET_62 rfl rfl rfl rfl rfl rfl rfl rfl rfl (by simp) fun b371 _ w371 F372 S371 => ?_
         refine ⟨Sd.of (S350.trans S371) [] rfl, ?_⟩
         refine d_one (i := 3) (listed' := #[true, true, true, true, false, true, true, true, true, false, false, false, false]) rfl (by kernel_rfl) rfl rfl ?_
         refine f_val (v := .slice x_Ra x_Rn x_Rc) F372 rfl rfl (r_loadB S371.at' 2 TI_62 rfl rfl (F372.ev 15 rfl) rfl rfl (fun _ => rfl) rfl) rfl fun _ F373 => ?_
         refine ⟨Sd.of (S350.trans S371) [] rfl, ?_⟩
         refine d_one (i := 4) (listed' := #[true, true, true, true, true, true, true, true, true, false, false, false, false]) rfl (by kernel_rfl) rfl rfl ?_
         refine f_app (news := x.touch.reads) F373 S371.at' 1 ET_62 rfl rfl rfl rfl rfl rfl (F373.ev 13 rfl) (F373.ev 16 rfl) ((Rd.mv (Nat.succ_pos _) V_v_x_touch_reads (S1.trans (T6.trans (S7.trans (S11.trans (T16.trans (S17.trans (S21.trans (T26.trans (S28.trans (S350.trans S371)))))))))))).1 (by ((repeat (first | rw [List.length_append] | rw [List.length_cons] | rw [List.length_nil] | rw [List.length_take] | rw [List.length_drop])) <;> omega)) fun A374 N374 C374 _ w374 F375 S374 l374 => ?_
         refine ⟨Sd.of (S350.trans (S371.trans S374)) [] rfl, ?_⟩
         refine d_one (i := 9) (listed' := #[true, true, true, true, true, true, true, true, true, true, false, false, false]) rfl (by kernel_rfl) rfl rfl ?_
         refine f_app (news := x.touch.writes) F375 S374.at' 1 ET_62 rfl rfl rfl rfl rfl rfl (F375.ev 18 rfl) (F375.ev 21 rfl) ((Rd.mv (Nat.succ_pos _) V_v_x_touch_writes (S1.trans (T6.trans (S7.trans (S11.trans (T16.trans (S17.trans (S21.trans (T26.trans (S28.trans (S350.trans (S371.trans S374))))))))))))).1 (by ((repeat (first | rw [List.length_append] | rw [List.length_cons] | rw [List.length_nil] | rw [List.length_take] | rw [List.length_drop])) <;> omega)) fun A376 N376 C376 _ w376 F377 S376 l376 => ?_
         refine ⟨Sd.of (S350.trans (S371.trans (S374.trans S376))) [] rfl, ?_⟩
         refine g_take (v := .agg #[.slice A374 N374 C374, .slice A376 N376 C376]) F377 rfl (i := 10) (listed' := #[true, true, true, true, true, true, true, true, true, true, true, false, false]) rfl (by kernel_rfl) (by kernel_rfl) (by kernel_rfl) (fun _ _ _ h => h) (Sd.of (S350.trans (S371.trans (S374.trans S376))) [] rfl) rfl rfl rfl rfl (fun _ hz => (r_build BI_69 rfl (lc (pr2 (F377.ev 17 rfl)) (lc (pr2 (F377.ev 22 rfl)) rfl)) rfl)) fun _ F378 => ?_
         refine g_take F378 rfl (i := 11) (listed' := #[true, true, true, true, true, true, true, true, true, true, true, true, false]) rfl (by kernel_rfl) (by kernel_rfl) (by kernel_rfl) (fun _ _ _ h => h) (Sd.of (S350.trans (S371.trans (S374.trans S376))) [] rfl) rfl rfl rfl rfl (fun _ hz => (r_field FI_71_6 rfl (F378.ev 1 rfl) rfl)) fun _ F379 => ?_
         refine d_one (i := 12) (listed' := #[true, true, true, true, true, true, true, true, true, true, true, true, true]) rfl (by kernel_rfl) rfl rfl ?_
         refine s_store S376.at' 2 TI_69 rfl rfl rfl rfl rfl (F379.ev 24 rfl) (F379.ev 23 rfl) rfl rfl rfl rfl rfl fun w380 S380 => ?_
         refine ⟨Sd.of (S350.trans (S371.trans (S374.trans (S376.trans S380)))) [] rfl, ?_⟩
         refine wpAnyH_done (by kernel_rfl) (x_normal ?_) _
         exact ⟨b350, A374, N374, C374, b371, A376, N376, C376, F379.cut rfl, ((S28.trans (S350.trans (S371.trans (S374.trans (S376.trans S380))))).pick [0, 3, 4, 5, 2, 1] rfl)⟩
     · skip
       refine f_val (v := .slice x_Ra x_Rn x_Rc) F349 rfl rfl (r_loadB S28.at' 0 TI_62 rfl rfl (F349.ev 15 rfl) rfl rfl (fun _ => rfl) rfl) rfl fun _ F381 => ?_
       refine ⟨Sd.of (Mv.refl S28.at') [] rfl, ?_⟩
       refine d_all (rs := [0, 5]) rfl (by kernel_rfl) (by simp) (d_cons (i := 0) (listed' := #[true, true, true, true, false, false, true, true, true, false, false, false, false]) rfl rfl ?_ (d_cons (i := 5) (listed' := #[false, true, true, true, false, true, true, true, true, false, false, false, false]) rfl rfl ?_ d_nil))
       · skip
         refine f_buildSl (ok := okS) (vs := []) F381 S28.at' (([] : List ByteArray)) ET_62 rfl rfl rfl rfl rfl rfl rfl rfl rfl (by simp) fun b382 _ w382 F383 S382 => ?_
         refine ⟨Sd.of S382 [] rfl, ?_⟩
         refine d_all (rs := [4, 5]) rfl (by kernel_rfl) (by simp) (d_cons (i := 4) (listed' := #[true, true, true, true, true, false, true, true, true, false, false, false, false]) rfl rfl ?_ (d_cons (i := 5) (listed' := #[true, true, true, true, false, true, true, true, true, false, false, false, false]) rfl rfl ?_ d_nil))
         · skip
           refine f_app (news := x.touch.reads) F383 S382.at' 0 ET_62 rfl rfl rfl rfl rfl rfl (F383.ev 13 rfl) (F383.ev 16 rfl) ((Rd.mv (Nat.succ_pos _) V_v_x_touch_reads (S1.trans (T6.trans (S7.trans (S11.trans (T16.trans (S17.trans (S21.trans (T26.trans (S28.trans S382))))))))))).1 (by ((repeat (first | rw [List.length_append] | rw [List.length_cons] | rw [List.length_nil] | rw [List.length_take] | rw [List.length_drop])) <;> omega)) fun A384 N384 C384 _ w384 F385 S384 l384 => ?_
           refine ⟨Sd.of (S382.trans S384) [] rfl, ?_⟩
           refine d_one (i := 5) (listed' := #[true, true, true, true, true, true, true, true, true, false, false, false, false]) rfl (by kernel_rfl) rfl rfl ?_
           refine f_buildSl (ok := okS) (vs := []) F385 S384.at' (([] : List ByteArray)) ET_62 rfl rfl rfl rfl rfl rfl rfl rfl rfl (by simp) fun b386 _ w386 F387 S386 => ?_
           refine ⟨Sd.of (S382.trans (S384.trans S386)) [] rfl, ?_⟩
           refine d_one (i := 9) (listed' := #[true, true, true, true, true, true, true, true, true, true, false, false, false]) rfl (by kernel_rfl) rfl rfl ?_
           refine f_app (news := x.touch.writes) F387 S386.at' 0 ET_62 rfl rfl rfl rfl rfl rfl (F387.ev 18 rfl) (F387.ev 21 rfl) ((Rd.mv (Nat.succ_pos _) V_v_x_touch_writes (S1.trans (T6.trans (S7.trans (S11.trans (T16.trans (S17.trans (S21.trans (T26.trans (S28.trans (S382.trans (S384.trans S386))))))))))))).1 (by ((repeat (first | rw [List.length_append] | rw [List.length_cons] | rw [List.length_nil] | rw [List.length_take] | rw [List.length_drop])) <;> omega)) fun A388 N388 C388 _ w388 F389 S388 l388 => ?_
           refine ⟨Sd.of (S382.trans (S384.trans (S386.trans S388))) [] rfl, ?_⟩
           refine g_take (v := .agg #[.slice A384 N384 C384, .slice A388 N388 C388]) F389 rfl (i := 10) (listed' := #[true, true, true, true, true, true, true, true, true, true, true, false, false]) rfl (by kernel_rfl) (by kernel_rfl) (by kernel_rfl) (fun _ _ _ h => h) (Sd.of (S382.trans (S384.trans (S386.trans S388))) [] rfl) rfl rfl rfl rfl (fun _ hz => (r_build BI_69 rfl (lc (pr2 (F389.ev 17 rfl)) (lc (pr2 (F389.ev 22 rfl)) rfl)) rfl)) fun _ F390 => ?_
           refine g_take F390 rfl (i := 11) (listed' := #[true, true, true, true, true, true, true, true, true, true, true, true, false]) rfl (by kernel_rfl) (by kernel_rfl) (by kernel_rfl) (fun _ _ _ h => h) (Sd.of (S382.trans (S384.trans (S386.trans S388))) [] rfl) rfl rfl rfl rfl (fun _ hz => (r_field FI_71_6 rfl (F390.ev 1 rfl) rfl)) fun _ F391 => ?_
           refine d_one (i := 12) (listed' := #[true, true, true, true, true, true, true, true, true, true, true, true, true]) rfl (by kernel_rfl) rfl rfl ?_
           refine s_store S388.at' 2 TI_69 rfl rfl rfl rfl rfl (F391.ev 24 rfl) (F391.ev 23 rfl) rfl rfl rfl rfl rfl fun w392 S392 => ?_
           refine ⟨Sd.of (S382.trans (S384.trans (S386.trans (S388.trans S392)))) [] rfl, ?_⟩
           refine wpAnyH_done (by kernel_rfl) (x_normal ?_) _
           exact ⟨b382, A384, N384, C384, b386, A388, N388, C388, F391.cut rfl, ((S28.trans (S382.trans (S384.trans (S386.trans (S388.trans S392))))).pick [0, 3, 4, 5, 2, 1] rfl)⟩
         · skip
           refine f_buildSl (ok := okS) (vs := []) F383 S382.at' (([] : List ByteArray)) ET_62 rfl rfl rfl rfl rfl rfl rfl rfl rfl (by simp) fun b393 _ w393 F394 S393 => ?_
           refine ⟨Sd.of (S382.trans S393) [] rfl, ?_⟩
           refine d_one (i := 4) (listed' := #[true, true, true, true, true, true, true, true, true, false, false, false, false]) rfl (by kernel_rfl) rfl rfl ?_
           refine f_app (news := x.touch.reads) F394 S393.at' 1 ET_62 rfl rfl rfl rfl rfl rfl (F394.ev 13 rfl) (F394.ev 16 rfl) ((Rd.mv (Nat.succ_pos _) V_v_x_touch_reads (S1.trans (T6.trans (S7.trans (S11.trans (T16.trans (S17.trans (S21.trans (T26.trans (S28.trans (S382.trans S393)))))))))))).1 (by ((repeat (first | rw [List.length_append] | rw [List.length_cons] | rw [List.length_nil] | rw [List.length_take] | rw [List.length_drop])) <;> omega)) fun A395 N395 C395 _ w395 F396 S395 l395 => ?_
           refine ⟨Sd.of (S382.trans (S393.trans S395)) [] rfl, ?_⟩
           refine d_one (i := 9) (listed' := #[true, true, true, true, true, true, true, true, true, true, false, false, false]) rfl (by kernel_rfl) rfl rfl ?_
           refine f_app (news := x.touch.writes) F396 S395.at' 1 ET_62 rfl rfl rfl rfl rfl rfl (F396.ev 18 rfl) (F396.ev 21 rfl) ((Rd.mv (Nat.succ_pos _) V_v_x_touch_writes (S1.trans (T6.trans (S7.trans (S11.trans (T16.trans (S17.trans (S21.trans (T26.trans (S28.trans (S382.trans (S393.trans S395))))))))))))).1 (by ((repeat (first | rw [List.length_append] | rw [List.length_cons] | rw [List.length_nil] | rw [List.length_take] | rw [List.length_drop])) <;> omega)) fun A397 N397 C397 _ w397 F398 S397 l397 => ?_
           refine ⟨Sd.of (S382.trans (S393.trans (S395.trans S397))) [] rfl, ?_⟩
           refine g_take (v := .agg #[.slice A395 N395 C395, .slice A397 N397 C397]) F398 rfl (i := 10) (listed' := #[true, true, true, true, true, true, true, true, true, true, true, false, false]) rfl (by kernel_rfl) (by kernel_rfl) (by kernel_rfl) (fun _ _ _ h => h) (Sd.of (S382.trans (S393.trans (S395.trans S397))) [] rfl) rfl rfl rfl rfl (fun _ hz => (r_build BI_69 rfl (lc (pr2 (F398.ev 17 rfl)) (lc (pr2 (F398.ev 22 rfl)) rfl)) rfl)) fun _ F399 => ?_
           refine g_take F399 rfl (i := 11) (listed' := #[true, true, true, true, true, true, true, true, true, true, true, true, false]) rfl (by kernel_rfl) (by kernel_rfl) (by kernel_rfl) (fun _ _ _ h => h) (Sd.of (S382.trans (S393.trans (S395.trans S397))) [] rfl) rfl rfl rfl rfl (fun _ hz => (r_field FI_71_6 rfl (F399.ev 1 rfl) rfl)) fun _ F400 => ?_
           refine d_one (i := 12) (listed' := #[true, true, true, true, true, true, true, true, true, true, true, true, true]) rfl (by kernel_rfl) rfl rfl ?_
           refine s_store S397.at' 2 TI_69 rfl rfl rfl rfl rfl (F400.ev 24 rfl) (F400.ev 23 rfl) rfl rfl rfl rfl rfl fun w401 S401 => ?_
           refine ⟨Sd.of (S382.trans (S393.trans (S395.trans (S397.trans S401)))) [] rfl, ?_⟩
           refine wpAnyH_done (by kernel_rfl) (x_normal ?_) _
           exact ⟨b382, A395, N395, C395, b393, A397, N397, C397, F400.cut rfl, ((S28.trans (S382.trans (S393.trans (S395.trans (S397.trans S401))))).pick [0, 3, 4, 5, 2, 1] rfl)⟩
       · skip
         refine f_buildSl (ok := okS) (vs := []) F381 S28.at' (([] : List ByteArray)) ET_62 rfl rfl rfl rfl rfl rfl rfl rfl rfl (by simp) fun b402 _ w402 F403 S402 => ?_
         refine ⟨Sd.of S402 [] rfl, ?_⟩
         refine d_one (i := 0) (listed' := #[true, true, true, true, false, true, true, true, true, false, false, false, false]) rfl (by kernel_rfl) rfl rfl ?_
         refine f_buildSl (ok := okS) (vs := []) F403 S402.at' (([] : List ByteArray)) ET_62 rfl rfl rfl rfl rfl rfl rfl rfl rfl (by simp) fun b404 _ w404 F405 S404 => ?_
         refine ⟨Sd.of (S402.trans S404) [] rfl, ?_⟩
         refine d_one (i := 4) (listed' := #[true, true, true, true, true, true, true, true, true, false, false, false, false]) rfl (by kernel_rfl) rfl rfl ?_
         refine f_app (news := x.touch.reads) F405 S404.at' 0 ET_62 rfl rfl rfl rfl rfl rfl (F405.ev 13 rfl) (F405.ev 16 rfl) ((Rd.mv (Nat.succ_pos _) V_v_x_touch_reads (S1.trans (T6.trans (S7.trans (S11.trans (T16.trans (S17.trans (S21.trans (T26.trans (S28.trans (S402.trans S404)))))))))))).1 (by ((repeat (first | rw [List.length_append] | rw [List.length_cons] | rw [List.length_nil] | rw [List.length_take] | rw [List.length_drop])) <;> omega)) fun A406 N406 C406 _ w406 F407 S406 l406 => ?_
         refine ⟨Sd.of (S402.trans (S404.trans S406)) [] rfl, ?_⟩
         refine d_one (i := 9) (listed' := #[true, true, true, true, true, true, true, true, true, true, false, false, false]) rfl (by kernel_rfl) rfl rfl ?_
         refine f_app (news := x.touch.writes) F407 S406.at' 1 ET_62 rfl rfl rfl rfl rfl rfl (F407.ev 18 rfl) (F407.ev 21 rfl) ((Rd.mv (Nat.succ_pos _) V_v_x_touch_writes (S1.trans (T6.trans (S7.trans (S11.trans (T16.trans (S17.trans (S21.trans (T26.trans (S28.trans (S402.trans (S404.trans S406))))))))))))).1 (by ((repeat (first | rw [List.length_append] | rw [List.length_cons] | rw [List.length_nil] | rw [List.length_take] | rw [List.length_drop])) <;> omega)) fun A408 N408 C408 _ w408 F409 S408 l408 => ?_
         refine ⟨Sd.of (S402.trans (S404.trans (S406.trans S408))) [] rfl, ?_⟩
         refine g_take (v := .agg #[.slice A406 N406 C406, .slice A408 N408 C408]) F409 rfl (i := 10) (listed' := #[true, true, true, true, true, true, true, true, true, true, true, false, false]) rfl (by kernel_rfl) (by kernel_rfl) (by kernel_rfl) (fun _ _ _ h => h) (Sd.of (S402.trans (S404.trans (S406.trans S408))) [] rfl) rfl rfl rfl rfl (fun _ hz => (r_build BI_69 rfl (lc (pr2 (F409.ev 17 rfl)) (lc (pr2 (F409.ev 22 rfl)) rfl)) rfl)) fun _ F410 => ?_
         refine g_take F410 rfl (i := 11) (listed' := #[true, true, true, true, true, true, true, true, true, true, true, true, false]) rfl (by kernel_rfl) (by kernel_rfl) (by kernel_rfl) (fun _ _ _ h => h) (Sd.of (S402.trans (S404.trans (S406.trans S408))) [] rfl) rfl rfl rfl rfl (fun _ hz => (r_field FI_71_6 rfl (F410.ev 1 rfl) rfl)) fun _ F411 => ?_
         refine d_one (i := 12) (listed' := #[true, true, true, true, true, true, true, true, true, true, true, true, true]) rfl (by kernel_rfl) rfl rfl ?_
         refine s_store S408.at' 2 TI_69 rfl rfl rfl rfl rfl (F411.ev 24 rfl) (F411.ev 23 rfl) rfl rfl rfl rfl rfl fun w412 S412 => ?_
         refine ⟨Sd.of (S402.trans (S404.trans (S406.trans (S408.trans S412)))) [] rfl, ?_⟩
         refine wpAnyH_done (by kernel_rfl) (x_normal ?_) _
         exact ⟨b404, A406, N406, C406, b402, A408, N408, C408, F411.cut rfl, ((S28.trans (S402.trans (S404.trans (S406.trans (S408.trans S412))))).pick [0, 3, 4, 5, 2, 1] rfl)⟩
     · skip
       refine f_buildSl (ok := okS) (vs := []) F349 S28.at' (([] : List ByteArray)) ET_62 rfl rfl rfl rfl rfl rfl rfl rfl rfl (by simp) fun b413 _ w413 F414 S413 => ?_
       refine ⟨Sd.of S413 [] rfl, ?_⟩
       refine d_all (rs := [0, 3]) rfl (by kernel_rfl) (by simp) (d_cons (i := 0) (listed' := #[true, true, true, false, false, true, true, true, true, false, false, false, false]) rfl rfl ?_ (d_cons (i := 3) (listed' := #[false, true, true, true, false, true, true, true, true, false, false, false, false]) rfl rfl ?_ d_nil))
       · skip
         refine f_buildSl (ok := okS) (vs := []) F414 S413.at' (([] : List ByteArray)) ET_62 rfl rfl rfl rfl rfl rfl rfl rfl rfl (by simp) fun b415 _ w415 F416 S415 => ?_
         refine ⟨Sd.of (S413.trans S415) [] rfl, ?_⟩
         refine d_one (i := 3) (listed' := #[true, true, true, true, false, true, true, true, true, false, false, false, false]) rfl (by kernel_rfl) rfl rfl ?_
         refine f_val (v := .slice x_Ra x_Rn x_Rc) F416 rfl rfl (r_loadB S415.at' 2 TI_62 rfl rfl (F416.ev 15 rfl) rfl rfl (fun _ => rfl) rfl) rfl fun _ F417 => ?_
         refine ⟨Sd.of (S413.trans S415) [] rfl, ?_⟩
         refine d_one (i := 4) (listed' := #[true, true, true, true, true, true, true, true, true, false, false, false, false]) rfl (by kernel_rfl) rfl rfl ?_
         refine f_app (news := x.touch.reads) F417 S415.at' 0 ET_62 rfl rfl rfl rfl rfl rfl (F417.ev 13 rfl) (F417.ev 16 rfl) ((Rd.mv (Nat.succ_pos _) V_v_x_touch_reads (S1.trans (T6.trans (S7.trans (S11.trans (T16.trans (S17.trans (S21.trans (T26.trans (S28.trans (S413.trans S415)))))))))))).1 (by ((repeat (first | rw [List.length_append] | rw [List.length_cons] | rw [List.length_nil] | rw [List.length_take] | rw [List.length_drop])) <;> omega)) fun A418 N418 C418 _ w418 F419 S418 l418 => ?_
         refine ⟨Sd.of (S413.trans (S415.trans S418)) [] rfl, ?_⟩
         refine d_one (i := 9) (listed' := #[true, true, true, true, true, true, true, true, true, true, false, false, false]) rfl (by kernel_rfl) rfl rfl ?_
         refine f_app (news := x.touch.writes) F419 S418.at' 1 ET_62 rfl rfl rfl rfl rfl rfl (F419.ev 18 rfl) (F419.ev 21 rfl) ((Rd.mv (Nat.succ_pos _) V_v_x_touch_writes (S1.trans (T6.trans (S7.trans (S11.trans (T16.trans (S17.trans (S21.trans (T26.trans (S28.trans (S413.trans (S415.trans S418))))))))))))).1 (by ((repeat (first | rw [List.length_append] | rw [List.length_cons] | rw [List.length_nil] | rw [List.length_take] | rw [List.length_drop])) <;> omega)) fun A420 N420 C420 _ w420 F421 S420 l420 => ?_
         refine ⟨Sd.of (S413.trans (S415.trans (S418.trans S420))) [] rfl, ?_⟩
         refine g_take (v := .agg #[.slice A418 N418 C418, .slice A420 N420 C420]) F421 rfl (i := 10) (listed' := #[true, true, true, true, true, true, true, true, true, true, true, false, false]) rfl (by kernel_rfl) (by kernel_rfl) (by kernel_rfl) (fun _ _ _ h => h) (Sd.of (S413.trans (S415.trans (S418.trans S420))) [] rfl) rfl rfl rfl rfl (fun _ hz => (r_build BI_69 rfl (lc (pr2 (F421.ev 17 rfl)) (lc (pr2 (F421.ev 22 rfl)) rfl)) rfl)) fun _ F422 => ?_
         refine g_take F422 rfl (i := 11) (listed' := #[true, true, true, true, true, true, true, true, true, true, true, true, false]) rfl (by kernel_rfl) (by kernel_rfl) (by kernel_rfl) (fun _ _ _ h => h) (Sd.of (S413.trans (S415.trans (S418.trans S420))) [] rfl) rfl rfl rfl rfl (fun _ hz => (r_field FI_71_6 rfl (F422.ev 1 rfl) rfl)) fun _ F423 => ?_
         refine d_one (i := 12) (listed' := #[true, true, true, true, true, true, true, true, true, true, true, true, true]) rfl (by kernel_rfl) rfl rfl ?_
         refine s_store S420.at' 2 TI_69 rfl rfl rfl rfl rfl (F423.ev 24 rfl) (F423.ev 23 rfl) rfl rfl rfl rfl rfl fun w424 S424 => ?_
         refine ⟨Sd.of (S413.trans (S415.trans (S418.trans (S420.trans S424)))) [] rfl, ?_⟩
         refine wpAnyH_done (by kernel_rfl) (x_normal ?_) _
         exact ⟨b415, A418, N418, C418, b413, A420, N420, C420, F423.cut rfl, ((S28.trans (S413.trans (S415.trans (S418.trans (S420.trans S424))))).pick [0, 3, 4, 5, 2, 1] rfl)⟩
       · skip
         refine f_val (v := .slice x_Ra x_Rn x_Rc) F414 rfl rfl (r_loadB S413.at' 1 TI_62 rfl rfl (F414.ev 15 rfl) rfl rfl (fun _ => rfl) rfl) rfl fun _ F425 => ?_
         refine ⟨Sd.of S413 [] rfl, ?_⟩
         refine d_one (i := 0) (listed' := #[true, true, true, true, false, true, true, true, true, false, false, false, false]) rfl (by kernel_rfl) rfl rfl ?_
         refine f_buildSl (ok := okS) (vs := []) F425 S413.at' (([] : List ByteArray)) ET_62 rfl rfl rfl rfl rfl rfl rfl rfl rfl (by simp) fun b426 _ w426 F427 S426 => ?_
         refine ⟨Sd.of (S413.trans S426) [] rfl, ?_⟩
         refine d_one (i := 4) (listed' := #[true, true, true, true, true, true, true, true, true, false, false, false, false]) rfl (by kernel_rfl) rfl rfl ?_
         refine f_app (news := x.touch.reads) F427 S426.at' 0 ET_62 rfl rfl rfl rfl rfl rfl (F427.ev 13 rfl) (F427.ev 16 rfl) ((Rd.mv (Nat.succ_pos _) V_v_x_touch_reads (S1.trans (T6.trans (S7.trans (S11.trans (T16.trans (S17.trans (S21.trans (T26.trans (S28.trans (S413.trans S426)))))))))))).1 (by ((repeat (first | rw [List.length_append] | rw [List.length_cons] | rw [List.length_nil] | rw [List.length_take] | rw [List.length_drop])) <;> omega)) fun A428 N428 C428 _ w428 F429 S428 l428 => ?_
         refine ⟨Sd.of (S413.trans (S426.trans S428)) [] rfl, ?_⟩
         refine d_one (i := 9) (listed' := #[true, true, true, true, true, true, true, true, true, true, false, false, false]) rfl (by kernel_rfl) rfl rfl ?_
         refine f_app (news := x.touch.writes) F429 S428.at' 1 ET_62 rfl rfl rfl rfl rfl rfl (F429.ev 18 rfl) (F429.ev 21 rfl) ((Rd.mv (Nat.succ_pos _) V_v_x_touch_writes (S1.trans (T6.trans (S7.trans (S11.trans (T16.trans (S17.trans (S21.trans (T26.trans (S28.trans (S413.trans (S426.trans S428))))))))))))).1 (by ((repeat (first | rw [List.length_append] | rw [List.length_cons] | rw [List.length_nil] | rw [List.length_take] | rw [List.length_drop])) <;> omega)) fun A430 N430 C430 _ w430 F431 S430 l430 => ?_
         refine ⟨Sd.of (S413.trans (S426.trans (S428.trans S430))) [] rfl, ?_⟩
         refine g_take (v := .agg #[.slice A428 N428 C428, .slice A430 N430 C430]) F431 rfl (i := 10) (listed' := #[true, true, true, true, true, true, true, true, true, true, true, false, false]) rfl (by kernel_rfl) (by kernel_rfl) (by kernel_rfl) (fun _ _ _ h => h) (Sd.of (S413.trans (S426.trans (S428.trans S430))) [] rfl) rfl rfl rfl rfl (fun _ hz => (r_build BI_69 rfl (lc (pr2 (F431.ev 17 rfl)) (lc (pr2 (F431.ev 22 rfl)) rfl)) rfl)) fun _ F432 => ?_
         refine g_take F432 rfl (i := 11) (listed' := #[true, true, true, true, true, true, true, true, true, true, true, true, false]) rfl (by kernel_rfl) (by kernel_rfl) (by kernel_rfl) (fun _ _ _ h => h) (Sd.of (S413.trans (S426.trans (S428.trans S430))) [] rfl) rfl rfl rfl rfl (fun _ hz => (r_field FI_71_6 rfl (F432.ev 1 rfl) rfl)) fun _ F433 => ?_
         refine d_one (i := 12) (listed' := #[true, true, true, true, true, true, true, true, true, true, true, true, true]) rfl (by kernel_rfl) rfl rfl ?_
         refine s_store S430.at' 2 TI_69 rfl rfl rfl rfl rfl (F433.ev 24 rfl) (F433.ev 23 rfl) rfl rfl rfl rfl rfl fun w434 S434 => ?_
         refine ⟨Sd.of (S413.trans (S426.trans (S428.trans (S430.trans S434)))) [] rfl, ?_⟩
         refine wpAnyH_done (by kernel_rfl) (x_normal ?_) _
         exact ⟨b426, A428, N428, C428, b413, A430, N430, C430, F433.cut rfl, ((S28.trans (S413.trans (S426.trans (S428.trans (S430.trans S434))))).pick [0, 3, 4, 5, 2, 1] rfl)⟩
 · rintro a435 w435 ⟨b33, A36, N36, C36, b38, A41, N41, C41, F435, S435⟩
   refine x_normal (wp_seq (wp_region_lit (l_op (f_buildSl (ok := okI) (vs := []) F435 S435.at' (([] : List Int)) ET_53 rfl rfl rfl rfl rfl rfl rfl rfl rfl (by simp) fun b436 _ w436 F437 S436 => ?_))))
   refine l_op (f_val F437 rfl rfl (r_field FI_71_7 rfl (F437.ev 1 rfl) rfl) rfl fun _ F438 => ?_)
   refine l_op (f_val (v := .slice x_marks_a x_marks_n x_marks_c) F438 rfl rfl (r_loadB S436.at' 1 TI_53 rfl rfl (F438.ev 26 rfl) rfl rfl (fun _ => rfl) rfl) rfl fun _ F439 => ?_)
   refine l_op (f_app (news := x.marks) F439 S436.at' 0 ET_53 rfl rfl rfl rfl rfl rfl (F439.ev 25 rfl) (F439.ev 27 rfl) ((Rd.mv (Nat.succ_pos _) V_v_x_marks (S1.trans (T6.trans (S7.trans (S11.trans (T16.trans (S17.trans (S21.trans (T26.trans (S435.trans S436))))))))))).1 (by ((repeat (first | rw [List.length_append] | rw [List.length_cons] | rw [List.length_nil] | rw [List.length_take] | rw [List.length_drop])) <;> omega)) fun A440 N440 C440 _ w440 F441 S440 l440 => ?_)
   refine l_op (f_val F441 rfl rfl (r_field FI_71_7 rfl (F441.ev 1 rfl) rfl) rfl fun _ F442 => ?_)
   refine l_op (s_store S440.at' 1 TI_53 rfl rfl rfl rfl rfl (F442.ev 29 rfl) (F442.ev 28 rfl) rfl rfl rfl rfl rfl fun w443 S443 => ?_)
   have F444 : Fr 31 [(29, .pointer (some ⟨b1, 8, none⟩)), (28, .slice A440 N440 C440), (1, .pointer (some ⟨b1, 0, none⟩)), (2, .pointer (some ⟨b3, 0, none⟩))] _ := F442.cut rfl
   clear F435 F437 F438 F439 F441 F442
   have T445 : Mv _ _ [bx b1 [.int .i64 x.id, .int .i64 x.age, .int .i64 x.proc, .int .i64 x.began, .slice A11 N11 C11, .slice A21 N21 C21, .slice A36 N36 C36, .slice A41 N41 C41, .slice A440 N440 C440, .int .i64 x.state] 71, ow 3 1 encI okI (.slice A440 N440 C440) (([] : List Int) ++ x.marks), ow 151 3 encR okR (.slice A21 N21 C21) (([] : List AnsD) ++ x.answers), ow 148 6 encK okK (.slice A11 N11 C11) (([] : List CallD) ++ x.calls), bx b3 [.int .i64 0, .int .i64 0, .int .i64 0, .int .i64 0, .slice none 0 0, .slice none 0 0, .slice none 0 0, .slice none 0 0, .slice none 0 0, .int .i64 0] 71, ow 9 1 encS okS (.slice A36 N36 C36) (([] : List ByteArray) ++ x.touch.reads), ow 9 1 encS okS (.slice A41 N41 C41) (([] : List ByteArray) ++ x.touch.writes)] _ := S443
   refine s_end (x_normal (wp_seq (wp_region_lit (l_op (f_val (v := .agg #[.int .i64 x.id, .int .i64 x.age, .int .i64 x.proc, .int .i64 x.began, .slice A11 N11 C11, .slice A21 N21 C21, .slice A36 N36 C36, .slice A41 N41 C41, .slice A440 N440 C440, .int .i64 x.state]) F444 rfl rfl (r_loadB T445.at' 0 TI_71 rfl rfl (F444.ev 1 rfl) rfl rfl (fun h => nomatch h) rfl) rfl fun _ F446 => ?_)))))
   refine l_op (s_store T445.at' 4 TI_71 rfl rfl rfl rfl rfl (F446.ev 2 rfl) (F446.ev 30 rfl) rfl rfl rfl rfl rfl fun w447 S447 => ?_)
   have F448 : Fr 31 [(30, .agg #[.int .i64 x.id, .int .i64 x.age, .int .i64 x.proc, .int .i64 x.began, .slice A11 N11 C11, .slice A21 N21 C21, .slice A36 N36 C36, .slice A41 N41 C41, .slice A440 N440 C440, .int .i64 x.state]), (2, .pointer (some ⟨b3, 0, none⟩))] _ := F446.cut rfl
   clear F444 F446
   have T449 : Mv _ _ [bx b3 [.int .i64 x.id, .int .i64 x.age, .int .i64 x.proc, .int .i64 x.began, .slice A11 N11 C11, .slice A21 N21 C21, .slice A36 N36 C36, .slice A41 N41 C41, .slice A440 N440 C440, .int .i64 x.state] 71, bx b1 [.int .i64 x.id, .int .i64 x.age, .int .i64 x.proc, .int .i64 x.began, .slice A11 N11 C11, .slice A21 N21 C21, .slice A36 N36 C36, .slice A41 N41 C41, .slice A440 N440 C440, .int .i64 x.state] 71, ow 3 1 encI okI (.slice A440 N440 C440) (([] : List Int) ++ x.marks), ow 151 3 encR okR (.slice A21 N21 C21) (([] : List AnsD) ++ x.answers), ow 148 6 encK okK (.slice A11 N11 C11) (([] : List CallD) ++ x.calls), ow 9 1 encS okS (.slice A36 N36 C36) (([] : List ByteArray) ++ x.touch.reads), ow 9 1 encS okS (.slice A41 N41 C41) (([] : List ByteArray) ++ x.touch.writes)] _ := S447
   refine s_end (x_normal (wp_ret ?_))
   refine x_done (v := .agg #[.int .i64 x.id, .int .i64 x.age, .int .i64 x.proc, .int .i64 x.began, .slice A11 N11 C11, .slice A21 N21 C21, .slice A36 N36 C36, .slice A41 N41 C41, .slice A440 N440 C440, .int .i64 x.state]) F448 (results_1 Try.results90 (.cell (F448.ev 2 rfl) (run_loadVar' TI_71 _ [.int .i64 x.id, .int .i64 x.age, .int .i64 x.proc, .int .i64 x.began, .slice A11 N11 C11, .slice A21 N21 C21, .slice A36 N36 C36, .slice A41 N41 C41, .slice A440 N440 C440, .int .i64 x.state] rfl (fun h => nomatch h) (At.cells T449.at' 0 rfl 0 [.int .i64 x.id, .int .i64 x.age, .int .i64 x.proc, .int .i64 x.began, .slice A11 N11 C11, .slice A21 N21 C21, .slice A36 N36 C36, .slice A41 N41 C41, .slice A440 N440 C440, .int .i64 x.state] rfl)))) ?_
   exact ⟨A11, N11, C11, A21, N21, C21, A36, N36, C36, A41, N41, C41, A440, N440, C440, rfl, (Mv.cast (Mv.pick (S1.trans (T6.trans (S7.trans (S11.trans (T16.trans (S17.trans (S21.trans (T26.trans (S435.trans (S436.trans (S440.trans (T445.trans T449)))))))))))) [4, 3, 5, 6, 2] rfl) (by rw [(show (([] : List CallD) ++ x.calls) = x.calls from by first | exact List.nil_append _ | simp), (show (([] : List AnsD) ++ x.answers) = x.answers from by first | exact List.nil_append _ | simp), (show (([] : List ByteArray) ++ x.touch.reads) = x.touch.reads from by first | exact List.nil_append _ | simp), (show (([] : List ByteArray) ++ x.touch.writes) = x.touch.writes from by first | exact List.nil_append _ | simp), (show (([] : List Int) ++ x.marks) = x.marks from by first | exact List.nil_append _ | simp)]; all_goals rfl))⟩
end Go.Proofs.Ytgfilegkabbliaa
