/-
  Walks: a mark is set.
-/
import Derived.Test.YtkebmooffbkpgaaGenXb
import Derived.Test.YtkebmooffbkpgaaGenXc
namespace Go.Proofs.Ytkebmooffbkpgaa
open Go.ChangeShapes Go.WideShapes Go.ChangeAt Go.RowKit
set_option maxRecDepth 100000
set_option maxHeartbeats 1000000
theorem spec_l17Copy_c {w : World} {H : Nat → Prop} {x : TxD} {Q6 : Option Addr} {Q8 Q7 : Nat} {Q3 : Option Addr} {Q5 Q4 : Nat} {x_Ra : Option Addr} {x_Rn x_Rc : Nat} {x_Wa : Option Addr} {x_Wn x_Wc : Nat} {Q0 : Option Addr} {Q2 Q1 : Nat} (Q36 : i64ok x.id) (Q34 : i64ok x.age) (Q37 : i64ok x.proc) (Q35 : i64ok x.began) (Q26 : Rd 6 encK okK H w (.slice Q6 Q8 Q7) x.calls) (Q25 : Rd 3 encR okR H w (.slice Q3 Q5 Q4) x.answers) (Q28 : Rd 1 encS okS H w (.slice x_Ra x_Rn x_Rc) x.touch.reads) (Q29 : Rd 1 encS okS H w (.slice x_Wa x_Wn x_Wc) x.touch.writes) (Q27 : Rd 1 encI okI H w (.slice Q0 Q2 Q1) x.marks) (Q38 : i64ok x.state) (p0 : x.calls.length ≤ 2097152) (p1 : x.answers.length ≤ 2097152) (p2 : x.touch.reads.length ≤ 2097152) (p3 : x.touch.writes.length ≤ 2097152) (p4 : x.marks.length ≤ 2097152) :
    Calls Try.prog 15 #[.agg #[.int .i64 x.id, .int .i64 x.age, .int .i64 x.proc, .int .i64 x.began, .slice Q6 Q8 Q7, .slice Q3 Q5 Q4, .slice x_Ra x_Rn x_Rc, .slice x_Wa x_Wn x_Wc, .slice Q0 Q2 Q1, .int .i64 x.state]] w fun e w' => ∃ (Q19 : Option Addr), ∃ (Q21 : Nat), ∃ (Q20 : Nat), ∃ (Q16 : Option Addr), ∃ (Q18 : Nat), ∃ (Q17 : Nat), ∃ (Q10 : Option Addr), ∃ (Q12 : Nat), ∃ (Q11 : Nat), ∃ (Q13 : Option Addr), ∃ (Q15 : Nat), ∃ (Q14 : Nat), ∃ (Q22 : Option Addr), ∃ (Q24 : Nat), ∃ (Q23 : Nat), e = .returned (.agg #[.int .i64 x.id, .int .i64 x.age, .int .i64 x.proc, .int .i64 x.began, .slice Q19 Q21 Q20, .slice Q16 Q18 Q17, .slice Q10 Q12 Q11, .slice Q13 Q15 Q14, .slice Q22 Q24 Q23, .int .i64 x.state]) ∧ Mv [] w [ow 56 6 encK okK (.slice Q19 Q21 Q20) x.calls, ow 59 3 encR okR (.slice Q16 Q18 Q17) x.answers, ow 9 1 encS okS (.slice Q10 Q12 Q11) x.touch.reads, ow 9 1 encS okS (.slice Q13 Q15 Q14) x.touch.writes, ow 3 1 encI okI (.slice Q22 Q24 Q23) x.marks] w' := by
 have uU : True := (fun _ _ _ _ _ _ _ _ _ _ => trivial) Q36 Q34 Q37 Q35 Q38 p0 p1 p2 p3 p4
 clear uU
 have Q31 : Rd 6 encK okK (V H w []) w (.slice Q6 Q8 Q7) x.calls := Rd.start Q26 (fun _ _ => fps_nil _)
 obtain ⟨Q45, Q40, Q200, Q205⟩ := Rd.inv Q26
 have Q30 : Rd 3 encR okR (V H w []) w (.slice Q3 Q5 Q4) x.answers := Rd.start Q25 (fun _ _ => fps_nil _)
 obtain ⟨Q44, Q39, Q199, Q204⟩ := Rd.inv Q25
 have Q9 : Rd 1 encS okS (V H w []) w (.slice x_Ra x_Rn x_Rc) x.touch.reads := Rd.start Q28 (fun _ _ => fps_nil _)
 obtain ⟨Q47, Q42, Q202, Q207⟩ := Rd.inv Q28
 have Q33 : Rd 1 encS okS (V H w []) w (.slice x_Wa x_Wn x_Wc) x.touch.writes := Rd.start Q29 (fun _ _ => fps_nil _)
 obtain ⟨Q48, Q43, Q203, Q208⟩ := Rd.inv Q29
 have Q32 : Rd 1 encI okI (V H w []) w (.slice Q0 Q2 Q1) x.marks := Rd.start Q27 (fun _ _ => fps_nil _)
 obtain ⟨Q46, Q41, Q201, Q206⟩ := Rd.inv Q27
 refine calls_enter 31 Try.func15 rfl Try.ntmps15 (Nat.le_of_ble_eq_true rfl) (fun _ F0i => ?_)
 have F0 : Fr 31 [(0, .agg #[.int .i64 x.id, .int .i64 x.age, .int .i64 x.proc, .int .i64 x.began, .slice Q6 Q8 Q7, .slice Q3 Q5 Q4, .slice x_Ra x_Rn x_Rc, .slice x_Wa x_Wn x_Wc, .slice Q0 Q2 Q1, .int .i64 x.state])] _ := F0i
 clear F0i
 refine wp_seq (wp_region_lit (l_op (f_box F0 (At.nil w) rfl rfl rfl (F0.ev 0 rfl) rfl rfl fun b1 _ w1 F2 S1 => ?_)))
 refine l_op (f_alloc F2 S1.at' ZI_35 rfl rfl rfl rfl rfl fun b3 _ w3 F4 S3 => ?_)
 have F5 : Fr 31 [(2, .pointer (some ⟨b3, 0, none⟩)), (1, .pointer (some ⟨b1, 0, none⟩))] _ := F4.cut rfl
 clear F0 F2 F4
 have T6 : Mv _ _ [bx b3 [.int .i64 0, .int .i64 0, .int .i64 0, .int .i64 0, .slice none 0 0, .slice none 0 0, .slice none 0 0, .slice none 0 0, .slice none 0 0, .int .i64 0] 35, bx b1 [.int .i64 x.id, .int .i64 x.age, .int .i64 x.proc, .int .i64 x.began, .slice Q6 Q8 Q7, .slice Q3 Q5 Q4, .slice x_Ra x_Rn x_Rc, .slice x_Wa x_Wn x_Wc, .slice Q0 Q2 Q1, .int .i64 x.state] 35] _ := S3
 refine s_end (x_normal (wp_seq (wp_region_lit (l_op (f_buildSl (ok := okK) (vs := []) F5 T6.at' (([] : List CallD)) ET_31 rfl rfl rfl rfl rfl rfl rfl rfl rfl (by simp) fun b7 _ w7 F8 S7 => ?_)))))
 refine l_op (f_val F8 rfl rfl (r_field FI_35_4 rfl (F8.ev 1 rfl) rfl) rfl fun _ F9 => ?_)
 refine l_op (f_val (v := .slice Q6 Q8 Q7) F9 rfl rfl (r_loadB S7.at' 2 TI_31 rfl rfl (F9.ev 4 rfl) rfl rfl (fun _ => rfl) rfl) rfl fun _ F10 => ?_)
 refine l_op (f_app (news := x.calls) F10 S7.at' 0 ET_31 rfl rfl rfl rfl rfl rfl (F10.ev 3 rfl) (F10.ev 5 rfl) ((Rd.mv (Nat.succ_pos _) Q31 (S1.trans (T6.trans S7)))).1 (by ((repeat (first | rw [List.length_append] | rw [List.length_cons] | rw [List.length_nil] | rw [List.length_take] | rw [List.length_drop])) <;> omega)) fun A11 N11 C11 _ w11 F12 S11 l11 => ?_)
 refine l_op (f_val F12 rfl rfl (r_field FI_35_4 rfl (F12.ev 1 rfl) rfl) rfl fun _ F13 => ?_)
 refine l_op (s_store S11.at' 2 TI_31 rfl rfl rfl rfl rfl (F13.ev 7 rfl) (F13.ev 6 rfl) rfl rfl rfl rfl rfl fun w14 S14 => ?_)
 have F15 : Fr 31 [(7, .pointer (some ⟨b1, 4, none⟩)), (6, .slice A11 N11 C11), (2, .pointer (some ⟨b3, 0, none⟩)), (1, .pointer (some ⟨b1, 0, none⟩))] _ := F13.cut rfl
 clear F5 F8 F9 F10 F12 F13
 have T16 : Mv _ _ [bx b1 [.int .i64 x.id, .int .i64 x.age, .int .i64 x.proc, .int .i64 x.began, .slice A11 N11 C11, .slice Q3 Q5 Q4, .slice x_Ra x_Rn x_Rc, .slice x_Wa x_Wn x_Wc, .slice Q0 Q2 Q1, .int .i64 x.state] 35, ow 56 6 encK okK (.slice A11 N11 C11) (([] : List CallD) ++ x.calls), bx b3 [.int .i64 0, .int .i64 0, .int .i64 0, .int .i64 0, .slice none 0 0, .slice none 0 0, .slice none 0 0, .slice none 0 0, .slice none 0 0, .int .i64 0] 35] _ := S14
 refine s_end (x_normal (wp_seq (wp_region_lit (l_op (f_buildSl (ok := okR) (vs := []) F15 T16.at' (([] : List AnsD)) ET_32 rfl rfl rfl rfl rfl rfl rfl rfl rfl (by simp) fun b17 _ w17 F18 S17 => ?_)))))
 refine l_op (f_val F18 rfl rfl (r_field FI_35_5 rfl (F18.ev 1 rfl) rfl) rfl fun _ F19 => ?_)
 refine l_op (f_val (v := .slice Q3 Q5 Q4) F19 rfl rfl (r_loadB S17.at' 1 TI_32 rfl rfl (F19.ev 9 rfl) rfl rfl (fun _ => rfl) rfl) rfl fun _ F20 => ?_)
 refine l_op (f_app (news := x.answers) F20 S17.at' 0 ET_32 rfl rfl rfl rfl rfl rfl (F20.ev 8 rfl) (F20.ev 10 rfl) ((Rd.mv (Nat.succ_pos _) Q30 (S1.trans (T6.trans (S7.trans (S11.trans (T16.trans S17))))))).1 (by ((repeat (first | rw [List.length_append] | rw [List.length_cons] | rw [List.length_nil] | rw [List.length_take] | rw [List.length_drop])) <;> omega)) fun A21 N21 C21 _ w21 F22 S21 l21 => ?_)
 refine l_op (f_val F22 rfl rfl (r_field FI_35_5 rfl (F22.ev 1 rfl) rfl) rfl fun _ F23 => ?_)
 refine l_op (s_store S21.at' 1 TI_32 rfl rfl rfl rfl rfl (F23.ev 12 rfl) (F23.ev 11 rfl) rfl rfl rfl rfl rfl fun w24 S24 => ?_)
 have F25 : Fr 31 [(12, .pointer (some ⟨b1, 5, none⟩)), (11, .slice A21 N21 C21), (2, .pointer (some ⟨b3, 0, none⟩)), (1, .pointer (some ⟨b1, 0, none⟩))] _ := F23.cut rfl
 clear F15 F18 F19 F20 F22 F23
 have T26 : Mv _ _ [bx b1 [.int .i64 x.id, .int .i64 x.age, .int .i64 x.proc, .int .i64 x.began, .slice A11 N11 C11, .slice A21 N21 C21, .slice x_Ra x_Rn x_Rc, .slice x_Wa x_Wn x_Wc, .slice Q0 Q2 Q1, .int .i64 x.state] 35, ow 59 3 encR okR (.slice A21 N21 C21) (([] : List AnsD) ++ x.answers), ow 56 6 encK okK (.slice A11 N11 C11) (([] : List CallD) ++ x.calls), bx b3 [.int .i64 0, .int .i64 0, .int .i64 0, .int .i64 0, .slice none 0 0, .slice none 0 0, .slice none 0 0, .slice none 0 0, .slice none 0 0, .int .i64 0] 35] _ := S24
 refine s_end (x_normal (wp_seq ?_))
 refine x_draw (fun aZ wZ => ∃ (b33 : Nat), ∃ (A36 : Option Addr), ∃ (N36 : Nat), ∃ (C36 : Nat), ∃ (b38 : Nat), ∃ (A41 : Option Addr), ∃ (N41 : Nat), ∃ (C41 : Nat), Fr 31 [(1, .pointer (some ⟨b1, 0, none⟩)), (2, .pointer (some ⟨b3, 0, none⟩))] aZ ∧ Mv [bx b1 [.int .i64 x.id, .int .i64 x.age, .int .i64 x.proc, .int .i64 x.began, .slice A11 N11 C11, .slice A21 N21 C21, .slice x_Ra x_Rn x_Rc, .slice x_Wa x_Wn x_Wc, .slice Q0 Q2 Q1, .int .i64 x.state] 35, ow 59 3 encR okR (.slice A21 N21 C21) (([] : List AnsD) ++ x.answers), ow 56 6 encK okK (.slice A11 N11 C11) (([] : List CallD) ++ x.calls), bx b3 [.int .i64 0, .int .i64 0, .int .i64 0, .int .i64 0, .slice none 0 0, .slice none 0 0, .slice none 0 0, .slice none 0 0, .slice none 0 0, .int .i64 0] 35] w24 [bx b1 [.int .i64 x.id, .int .i64 x.age, .int .i64 x.proc, .int .i64 x.began, .slice A11 N11 C11, .slice A21 N21 C21, .slice A36 N36 C36, .slice A41 N41 C41, .slice Q0 Q2 Q1, .int .i64 x.state] 35, ow 59 3 encR okR (.slice A21 N21 C21) (([] : List AnsD) ++ x.answers), ow 56 6 encK okK (.slice A11 N11 C11) (([] : List CallD) ++ x.calls), bx b3 [.int .i64 0, .int .i64 0, .int .i64 0, .int .i64 0, .slice none 0 0, .slice none 0 0, .slice none 0 0, .slice none 0 0, .slice none 0 0, .int .i64 0] 35, ow 9 1 encS okS (.slice A36 N36 C36) (([] : List ByteArray) ++ x.touch.reads), ow 9 1 encS okS (.slice A41 N41 C41) (([] : List ByteArray) ++ x.touch.writes)] wZ) [] mixed T26.at' (listed := #[false, false, false, false, false, false, false, false, false, false, false, false, false]) rfl (fun w28 S28 => ?_) [] rfl ?_
 · skip
   refine x_lem (fun aZ wZ => ∃ (b33 : Nat), ∃ (A36 : Option Addr), ∃ (N36 : Nat), ∃ (C36 : Nat), ∃ (b38 : Nat), ∃ (A41 : Option Addr), ∃ (N41 : Nat), ∃ (C41 : Nat), Fr 31 [(24, .pointer (some ⟨b1, 6, none⟩)), (23, .agg #[.slice A36 N36 C36, .slice A41 N41 C41]), (2, .pointer (some ⟨b3, 0, none⟩)), (1, .pointer (some ⟨b1, 0, none⟩))] aZ ∧ Mv [bx b1 [.int .i64 x.id, .int .i64 x.age, .int .i64 x.proc, .int .i64 x.began, .slice A11 N11 C11, .slice A21 N21 C21, .slice x_Ra x_Rn x_Rc, .slice x_Wa x_Wn x_Wc, .slice Q0 Q2 Q1, .int .i64 x.state] 35, ow 59 3 encR okR (.slice A21 N21 C21) (([] : List AnsD) ++ x.answers), ow 56 6 encK okK (.slice A11 N11 C11) (([] : List CallD) ++ x.calls), bx b3 [.int .i64 0, .int .i64 0, .int .i64 0, .int .i64 0, .slice none 0 0, .slice none 0 0, .slice none 0 0, .slice none 0 0, .slice none 0 0, .int .i64 0] 35] w28 [ow 9 1 encS okS (.slice A41 N41 C41) (([] : List ByteArray) ++ x.touch.writes), ow 9 1 encS okS (.slice A36 N36 C36) (([] : List ByteArray) ++ x.touch.reads), bx b1 [.int .i64 x.id, .int .i64 x.age, .int .i64 x.proc, .int .i64 x.began, .slice A11 N11 C11, .slice A21 N21 C21, .slice x_Ra x_Rn x_Rc, .slice x_Wa x_Wn x_Wc, .slice Q0 Q2 Q1, .int .i64 x.state] 35, ow 59 3 encR okR (.slice A21 N21 C21) (([] : List AnsD) ++ x.answers), ow 56 6 encK okK (.slice A11 N11 C11) (([] : List CallD) ++ x.calls), bx b3 [.int .i64 0, .int .i64 0, .int .i64 0, .int .i64 0, .slice none 0 0, .slice none 0 0, .slice none 0 0, .slice none 0 0, .slice none 0 0, .int .i64 0] 35] wZ) #[yT, yT, yT, yT, yT, yT, yT, yT, yT, yT, yT, yT, nF] 1 ?_ (fun G100 => ?_)
   · rintro a100 w100 ⟨b33, A36, N36, C36, b38, A41, N41, C41, F100, S100⟩
     obtain ⟨Q49, Q99, Q149⟩ := At.ownInv S100.at' ET_24.hk 0 rfl
     obtain ⟨Q50, Q100, Q150⟩ := At.ownInv S100.at' ET_24.hk 1 rfl
     obtain ⟨Q51, Q101, Q151⟩ := At.ownInv S100.at' ET_32.hk 3 rfl
     obtain ⟨Q52, Q102, Q152⟩ := At.ownInv S100.at' ET_31.hk 4 rfl
     refine d_one (i := 12) (listed' := #[yT, yT, yT, yT, yT, yT, yT, yT, yT, yT, yT, yT, yT]) rfl (by kernel_rfl) rfl rfl ?_
     refine s_store S100.at' 2 TI_33 rfl rfl rfl rfl rfl (F100.ev 24 rfl) (F100.ev 23 rfl) rfl rfl rfl rfl rfl fun w101 S101 => ?_
     refine ⟨Sd.of (S100.trans S101) [] rfl, ?_⟩
     refine wpAnyH_done (by kernel_rfl) (x_normal ?_) _
     exact ⟨b33, A36, N36, C36, b38, A41, N41, C41, F100.cut rfl, ((S28.trans (S100.trans S101)).pick [0, 3, 4, 5, 2, 1] rfl)⟩
   refine x_lem (fun aZ wZ => ∃ (b33 : Nat), ∃ (A36 : Option Addr), ∃ (N36 : Nat), ∃ (C36 : Nat), ∃ (b38 : Nat), Fr 31 [(21, .slice x_Wa x_Wn x_Wc), (18, .slice (some ⟨b38, 0, none⟩) 0 0), (17, .slice A36 N36 C36), (2, .pointer (some ⟨b3, 0, none⟩)), (1, .pointer (some ⟨b1, 0, none⟩))] aZ ∧ Mv [bx b1 [.int .i64 x.id, .int .i64 x.age, .int .i64 x.proc, .int .i64 x.began, .slice A11 N11 C11, .slice A21 N21 C21, .slice x_Ra x_Rn x_Rc, .slice x_Wa x_Wn x_Wc, .slice Q0 Q2 Q1, .int .i64 x.state] 35, ow 59 3 encR okR (.slice A21 N21 C21) (([] : List AnsD) ++ x.answers), ow 56 6 encK okK (.slice A11 N11 C11) (([] : List CallD) ++ x.calls), bx b3 [.int .i64 0, .int .i64 0, .int .i64 0, .int .i64 0, .slice none 0 0, .slice none 0 0, .slice none 0 0, .slice none 0 0, .slice none 0 0, .int .i64 0] 35] w28 [ow 9 1 encS okS (.slice (some ⟨b38, 0, none⟩) 0 0) ([] : List ByteArray), ow 9 1 encS okS (.slice A36 N36 C36) (([] : List ByteArray) ++ x.touch.reads), bx b1 [.int .i64 x.id, .int .i64 x.age, .int .i64 x.proc, .int .i64 x.began, .slice A11 N11 C11, .slice A21 N21 C21, .slice x_Ra x_Rn x_Rc, .slice x_Wa x_Wn x_Wc, .slice Q0 Q2 Q1, .int .i64 x.state] 35, ow 59 3 encR okR (.slice A21 N21 C21) (([] : List AnsD) ++ x.answers), ow 56 6 encK okK (.slice A11 N11 C11) (([] : List CallD) ++ x.calls), bx b3 [.int .i64 0, .int .i64 0, .int .i64 0, .int .i64 0, .slice none 0 0, .slice none 0 0, .slice none 0 0, .slice none 0 0, .slice none 0 0, .int .i64 0] 35] wZ) #[yT, yT, yT, yT, yT, yT, yT, yT, yT, nF, nF, nF, nF] 4 ?_ (fun G102 => ?_)
   · rintro a102 w102 ⟨b33, A36, N36, C36, b38, F102, S102⟩
     obtain ⟨Q53, Q103, Q153⟩ := At.ownInv S102.at' ET_24.hk 1 rfl
     obtain ⟨Q54, Q104, Q154⟩ := At.ownInv S102.at' ET_32.hk 3 rfl
     obtain ⟨Q55, Q105, Q155⟩ := At.ownInv S102.at' ET_31.hk 4 rfl
     refine d_one (i := 9) (listed' := #[yT, yT, yT, yT, yT, yT, yT, yT, yT, yT, nF, nF, nF]) rfl (by kernel_rfl) rfl rfl ?_
     refine f_app (news := x.touch.writes) F102 S102.at' 0 ET_24 rfl rfl rfl rfl rfl rfl (F102.ev 18 rfl) (F102.ev 21 rfl) ((Rd.mv (Nat.succ_pos _) Q33 (S1.trans (T6.trans (S7.trans (S11.trans (T16.trans (S17.trans (S21.trans (T26.trans (S28.trans S102))))))))))).1 (by ((repeat (first | rw [List.length_append] | rw [List.length_cons] | rw [List.length_nil] | rw [List.length_take] | rw [List.length_drop])) <;> omega)) fun A103 N103 C103 _ w103 F104 S103 l103 => ?_
     refine ⟨Sd.of (S102.trans S103) [] rfl, ?_⟩
     refine g_take (v := .agg #[.slice A36 N36 C36, .slice A103 N103 C103]) F104 rfl (i := 10) (listed' := #[yT, yT, yT, yT, yT, yT, yT, yT, yT, yT, yT, nF, nF]) rfl (by kernel_rfl) (by kernel_rfl) (by kernel_rfl) (fun _ _ _ h => h) (Sd.of (S102.trans S103) [] rfl) rfl rfl rfl rfl (fun _ hz => (r_build BI_33 rfl (lc (pr2 (F104.ev 17 rfl)) (lc (pr2 (F104.ev 22 rfl)) rfl)) rfl)) fun _ F105 => ?_
     refine g_take F105 rfl (i := 11) (listed' := #[yT, yT, yT, yT, yT, yT, yT, yT, yT, yT, yT, yT, nF]) rfl (by kernel_rfl) (by kernel_rfl) (by kernel_rfl) (fun _ _ _ h => h) (Sd.of (S102.trans S103) [] rfl) rfl rfl rfl rfl (fun _ hz => (r_field FI_35_6 rfl (F105.ev 1 rfl) rfl)) fun _ F106 => ?_
     exact G100 _ _ ⟨b33, A36, N36, C36, b38, A103, N103, C103, F106.cut rfl, (S102.trans S103).pick [0, 1, 2, 3, 4, 5] rfl⟩
   refine x_lem (fun aZ wZ => ∃ (b33 : Nat), ∃ (A36 : Option Addr), ∃ (N36 : Nat), ∃ (C36 : Nat), ∃ (b38 : Nat), Fr 31 [(18, .slice (some ⟨b38, 0, none⟩) 0 0), (17, .slice A36 N36 C36), (20, .pointer (some ⟨b1, 7, none⟩)), (2, .pointer (some ⟨b3, 0, none⟩)), (1, .pointer (some ⟨b1, 0, none⟩))] aZ ∧ Mv [bx b1 [.int .i64 x.id, .int .i64 x.age, .int .i64 x.proc, .int .i64 x.began, .slice A11 N11 C11, .slice A21 N21 C21, .slice x_Ra x_Rn x_Rc, .slice x_Wa x_Wn x_Wc, .slice Q0 Q2 Q1, .int .i64 x.state] 35, ow 59 3 encR okR (.slice A21 N21 C21) (([] : List AnsD) ++ x.answers), ow 56 6 encK okK (.slice A11 N11 C11) (([] : List CallD) ++ x.calls), bx b3 [.int .i64 0, .int .i64 0, .int .i64 0, .int .i64 0, .slice none 0 0, .slice none 0 0, .slice none 0 0, .slice none 0 0, .slice none 0 0, .int .i64 0] 35] w28 [ow 9 1 encS okS (.slice (some ⟨b38, 0, none⟩) 0 0) ([] : List ByteArray), ow 9 1 encS okS (.slice A36 N36 C36) (([] : List ByteArray) ++ x.touch.reads), bx b1 [.int .i64 x.id, .int .i64 x.age, .int .i64 x.proc, .int .i64 x.began, .slice A11 N11 C11, .slice A21 N21 C21, .slice x_Ra x_Rn x_Rc, .slice x_Wa x_Wn x_Wc, .slice Q0 Q2 Q1, .int .i64 x.state] 35, ow 59 3 encR okR (.slice A21 N21 C21) (([] : List AnsD) ++ x.answers), ow 56 6 encK okK (.slice A11 N11 C11) (([] : List CallD) ++ x.calls), bx b3 [.int .i64 0, .int .i64 0, .int .i64 0, .int .i64 0, .slice none 0 0, .slice none 0 0, .slice none 0 0, .slice none 0 0, .slice none 0 0, .int .i64 0] 35] wZ) #[yT, yT, yT, yT, yT, yT, yT, yT, nF, nF, nF, nF, nF] 5 ?_ (fun G107 => ?_)
   · rintro a107 w107 ⟨b33, A36, N36, C36, b38, F107, S107⟩
     obtain ⟨Q56, Q106, Q156⟩ := At.ownInv S107.at' ET_24.hk 1 rfl
     obtain ⟨Q57, Q107, Q157⟩ := At.ownInv S107.at' ET_32.hk 3 rfl
     obtain ⟨Q58, Q108, Q158⟩ := At.ownInv S107.at' ET_31.hk 4 rfl
     refine d_one (i := 8) (listed' := #[yT, yT, yT, yT, yT, yT, yT, yT, yT, nF, nF, nF, nF]) rfl (by kernel_rfl) rfl rfl ?_
     refine f_val (v := .slice x_Wa x_Wn x_Wc) F107 rfl rfl (r_loadB S107.at' 2 TI_24 rfl rfl (F107.ev 20 rfl) rfl rfl (fun _ => rfl) rfl) rfl fun _ F108 => ?_
     refine ⟨Sd.of S107 [] rfl, ?_⟩
     exact G102 _ _ ⟨b33, A36, N36, C36, b38, F108.cut rfl, S107.pick [0, 1, 2, 3, 4, 5] rfl⟩
   refine x_lem (fun aZ wZ => ∃ (b33 : Nat), ∃ (A36 : Option Addr), ∃ (N36 : Nat), ∃ (C36 : Nat), Fr 31 [(21, .slice x_Wa x_Wn x_Wc), (17, .slice A36 N36 C36), (2, .pointer (some ⟨b3, 0, none⟩)), (1, .pointer (some ⟨b1, 0, none⟩))] aZ ∧ Mv [bx b1 [.int .i64 x.id, .int .i64 x.age, .int .i64 x.proc, .int .i64 x.began, .slice A11 N11 C11, .slice A21 N21 C21, .slice x_Ra x_Rn x_Rc, .slice x_Wa x_Wn x_Wc, .slice Q0 Q2 Q1, .int .i64 x.state] 35, ow 59 3 encR okR (.slice A21 N21 C21) (([] : List AnsD) ++ x.answers), ow 56 6 encK okK (.slice A11 N11 C11) (([] : List CallD) ++ x.calls), bx b3 [.int .i64 0, .int .i64 0, .int .i64 0, .int .i64 0, .slice none 0 0, .slice none 0 0, .slice none 0 0, .slice none 0 0, .slice none 0 0, .int .i64 0] 35] w28 [ow 9 1 encS okS (.slice A36 N36 C36) (([] : List ByteArray) ++ x.touch.reads), bx b1 [.int .i64 x.id, .int .i64 x.age, .int .i64 x.proc, .int .i64 x.began, .slice A11 N11 C11, .slice A21 N21 C21, .slice x_Ra x_Rn x_Rc, .slice x_Wa x_Wn x_Wc, .slice Q0 Q2 Q1, .int .i64 x.state] 35, ow 59 3 encR okR (.slice A21 N21 C21) (([] : List AnsD) ++ x.answers), ow 56 6 encK okK (.slice A11 N11 C11) (([] : List CallD) ++ x.calls), bx b3 [.int .i64 0, .int .i64 0, .int .i64 0, .int .i64 0, .slice none 0 0, .slice none 0 0, .slice none 0 0, .slice none 0 0, .slice none 0 0, .int .i64 0] 35] wZ) #[yT, yT, yT, yT, yT, nF, yT, yT, yT, nF, nF, nF, nF] 5 ?_ (fun G109 => ?_)
   · rintro a109 w109 ⟨b33, A36, N36, C36, F109, S109⟩
     obtain ⟨Q59, Q109, Q159⟩ := At.ownInv S109.at' ET_24.hk 0 rfl
     obtain ⟨Q60, Q110, Q160⟩ := At.ownInv S109.at' ET_32.hk 2 rfl
     obtain ⟨Q61, Q111, Q161⟩ := At.ownInv S109.at' ET_31.hk 3 rfl
     refine d_one (i := 5) (listed' := #[yT, yT, yT, yT, yT, yT, yT, yT, yT, nF, nF, nF, nF]) rfl (by kernel_rfl) rfl rfl ?_
     refine f_buildSl (ok := okS) (vs := []) F109 S109.at' (([] : List ByteArray)) ET_24 rfl rfl rfl rfl rfl rfl rfl rfl rfl (by simp) fun b110 _ w110 F111 S110 => ?_
     refine ⟨Sd.of (S109.trans S110) [] rfl, ?_⟩
     exact G102 _ _ ⟨b33, A36, N36, C36, b110, F111.cut rfl, (S109.trans S110).pick [0, 1, 2, 3, 4, 5] rfl⟩
   refine x_lem (fun aZ wZ => ∃ (b33 : Nat), ∃ (b49 : Nat), Fr 31 [(21, .slice x_Wa x_Wn x_Wc), (18, .slice (some ⟨b49, 0, none⟩) 0 0), (16, .slice x_Ra x_Rn x_Rc), (13, .slice (some ⟨b33, 0, none⟩) 0 0), (2, .pointer (some ⟨b3, 0, none⟩)), (1, .pointer (some ⟨b1, 0, none⟩))] aZ ∧ Mv [bx b1 [.int .i64 x.id, .int .i64 x.age, .int .i64 x.proc, .int .i64 x.began, .slice A11 N11 C11, .slice A21 N21 C21, .slice x_Ra x_Rn x_Rc, .slice x_Wa x_Wn x_Wc, .slice Q0 Q2 Q1, .int .i64 x.state] 35, ow 59 3 encR okR (.slice A21 N21 C21) (([] : List AnsD) ++ x.answers), ow 56 6 encK okK (.slice A11 N11 C11) (([] : List CallD) ++ x.calls), bx b3 [.int .i64 0, .int .i64 0, .int .i64 0, .int .i64 0, .slice none 0 0, .slice none 0 0, .slice none 0 0, .slice none 0 0, .slice none 0 0, .int .i64 0] 35] w28 [ow 9 1 encS okS (.slice (some ⟨b49, 0, none⟩) 0 0) ([] : List ByteArray), ow 9 1 encS okS (.slice (some ⟨b33, 0, none⟩) 0 0) ([] : List ByteArray), bx b1 [.int .i64 x.id, .int .i64 x.age, .int .i64 x.proc, .int .i64 x.began, .slice A11 N11 C11, .slice A21 N21 C21, .slice x_Ra x_Rn x_Rc, .slice x_Wa x_Wn x_Wc, .slice Q0 Q2 Q1, .int .i64 x.state] 35, ow 59 3 encR okR (.slice A21 N21 C21) (([] : List AnsD) ++ x.answers), ow 56 6 encK okK (.slice A11 N11 C11) (([] : List CallD) ++ x.calls), bx b3 [.int .i64 0, .int .i64 0, .int .i64 0, .int .i64 0, .slice none 0 0, .slice none 0 0, .slice none 0 0, .slice none 0 0, .slice none 0 0, .int .i64 0] 35] wZ) #[yT, yT, yT, yT, nF, yT, yT, yT, yT, nF, nF, nF, nF] 5 ?_ (fun G112 => ?_)
   · rintro a112 w112 ⟨b33, b49, F112, S112⟩
     obtain ⟨Q62, Q112, Q162⟩ := At.ownInv S112.at' ET_32.hk 3 rfl
     obtain ⟨Q63, Q113, Q163⟩ := At.ownInv S112.at' ET_31.hk 4 rfl
     refine d_one (i := 4) (listed' := #[yT, yT, yT, yT, yT, yT, yT, yT, yT, nF, nF, nF, nF]) rfl (by kernel_rfl) rfl rfl ?_
     refine f_app (news := x.touch.reads) F112 S112.at' 1 ET_24 rfl rfl rfl rfl rfl rfl (F112.ev 13 rfl) (F112.ev 16 rfl) ((Rd.mv (Nat.succ_pos _) Q9 (S1.trans (T6.trans (S7.trans (S11.trans (T16.trans (S17.trans (S21.trans (T26.trans (S28.trans S112))))))))))).1 (by ((repeat (first | rw [List.length_append] | rw [List.length_cons] | rw [List.length_nil] | rw [List.length_take] | rw [List.length_drop])) <;> omega)) fun A113 N113 C113 _ w113 F114 S113 l113 => ?_
     refine ⟨Sd.of (S112.trans S113) [] rfl, ?_⟩
     exact G102 _ _ ⟨b33, A113, N113, C113, b49, F114.cut rfl, (S112.trans S113).pick [1, 0, 2, 3, 4, 5] rfl⟩
   refine x_lem (fun aZ wZ => ∃ (b33 : Nat), ∃ (A36 : Option Addr), ∃ (N36 : Nat), ∃ (C36 : Nat), Fr 31 [(17, .slice A36 N36 C36), (20, .pointer (some ⟨b1, 7, none⟩)), (2, .pointer (some ⟨b3, 0, none⟩)), (1, .pointer (some ⟨b1, 0, none⟩))] aZ ∧ Mv [bx b1 [.int .i64 x.id, .int .i64 x.age, .int .i64 x.proc, .int .i64 x.began, .slice A11 N11 C11, .slice A21 N21 C21, .slice x_Ra x_Rn x_Rc, .slice x_Wa x_Wn x_Wc, .slice Q0 Q2 Q1, .int .i64 x.state] 35, ow 59 3 encR okR (.slice A21 N21 C21) (([] : List AnsD) ++ x.answers), ow 56 6 encK okK (.slice A11 N11 C11) (([] : List CallD) ++ x.calls), bx b3 [.int .i64 0, .int .i64 0, .int .i64 0, .int .i64 0, .slice none 0 0, .slice none 0 0, .slice none 0 0, .slice none 0 0, .slice none 0 0, .int .i64 0] 35] w28 [ow 9 1 encS okS (.slice A36 N36 C36) (([] : List ByteArray) ++ x.touch.reads), bx b1 [.int .i64 x.id, .int .i64 x.age, .int .i64 x.proc, .int .i64 x.began, .slice A11 N11 C11, .slice A21 N21 C21, .slice x_Ra x_Rn x_Rc, .slice x_Wa x_Wn x_Wc, .slice Q0 Q2 Q1, .int .i64 x.state] 35, ow 59 3 encR okR (.slice A21 N21 C21) (([] : List AnsD) ++ x.answers), ow 56 6 encK okK (.slice A11 N11 C11) (([] : List CallD) ++ x.calls), bx b3 [.int .i64 0, .int .i64 0, .int .i64 0, .int .i64 0, .slice none 0 0, .slice none 0 0, .slice none 0 0, .slice none 0 0, .slice none 0 0, .int .i64 0] 35] wZ) #[yT, yT, yT, yT, yT, nF, yT, yT, nF, nF, nF, nF, nF] 6 ?_ (fun G115 => ?_)
   · rintro a115 w115 ⟨b33, A36, N36, C36, F115, S115⟩
     obtain ⟨Q64, Q114, Q164⟩ := At.ownInv S115.at' ET_24.hk 0 rfl
     obtain ⟨Q65, Q115, Q165⟩ := At.ownInv S115.at' ET_32.hk 2 rfl
     obtain ⟨Q66, Q116, Q166⟩ := At.ownInv S115.at' ET_31.hk 3 rfl
     refine d_all (rs := [5, 8]) rfl (by kernel_rfl) (by simp) (d_cons (i := 5) (listed' := #[yT, yT, yT, yT, yT, yT, yT, yT, nF, nF, nF, nF, nF]) rfl rfl ?_ (d_cons (i := 8) (listed' := #[yT, yT, yT, yT, yT, nF, yT, yT, yT, nF, nF, nF, nF]) rfl rfl ?_ d_nil))
     · skip
       refine f_buildSl (ok := okS) (vs := []) F115 S115.at' (([] : List ByteArray)) ET_24 rfl rfl rfl rfl rfl rfl rfl rfl rfl (by simp) fun b116 _ w116 F117 S116 => ?_
       refine ⟨Sd.of (S115.trans S116) [] rfl, ?_⟩
       exact G107 _ _ ⟨b33, A36, N36, C36, b116, F117.cut rfl, (S115.trans S116).pick [0, 1, 2, 3, 4, 5] rfl⟩
     · skip
       refine f_val (v := .slice x_Wa x_Wn x_Wc) F115 rfl rfl (r_loadB S115.at' 1 TI_24 rfl rfl (F115.ev 20 rfl) rfl rfl (fun _ => rfl) rfl) rfl fun _ F118 => ?_
       refine ⟨Sd.of S115 [] rfl, ?_⟩
       exact G109 _ _ ⟨b33, A36, N36, C36, F118.cut rfl, S115.pick [0, 1, 2, 3, 4] rfl⟩
   refine x_lem (fun aZ wZ => ∃ (b33 : Nat), ∃ (b49 : Nat), Fr 31 [(18, .slice (some ⟨b49, 0, none⟩) 0 0), (16, .slice x_Ra x_Rn x_Rc), (13, .slice (some ⟨b33, 0, none⟩) 0 0), (20, .pointer (some ⟨b1, 7, none⟩)), (2, .pointer (some ⟨b3, 0, none⟩)), (1, .pointer (some ⟨b1, 0, none⟩))] aZ ∧ Mv [bx b1 [.int .i64 x.id, .int .i64 x.age, .int .i64 x.proc, .int .i64 x.began, .slice A11 N11 C11, .slice A21 N21 C21, .slice x_Ra x_Rn x_Rc, .slice x_Wa x_Wn x_Wc, .slice Q0 Q2 Q1, .int .i64 x.state] 35, ow 59 3 encR okR (.slice A21 N21 C21) (([] : List AnsD) ++ x.answers), ow 56 6 encK okK (.slice A11 N11 C11) (([] : List CallD) ++ x.calls), bx b3 [.int .i64 0, .int .i64 0, .int .i64 0, .int .i64 0, .slice none 0 0, .slice none 0 0, .slice none 0 0, .slice none 0 0, .slice none 0 0, .int .i64 0] 35] w28 [ow 9 1 encS okS (.slice (some ⟨b49, 0, none⟩) 0 0) ([] : List ByteArray), ow 9 1 encS okS (.slice (some ⟨b33, 0, none⟩) 0 0) ([] : List ByteArray), bx b1 [.int .i64 x.id, .int .i64 x.age, .int .i64 x.proc, .int .i64 x.began, .slice A11 N11 C11, .slice A21 N21 C21, .slice x_Ra x_Rn x_Rc, .slice x_Wa x_Wn x_Wc, .slice Q0 Q2 Q1, .int .i64 x.state] 35, ow 59 3 encR okR (.slice A21 N21 C21) (([] : List AnsD) ++ x.answers), ow 56 6 encK okK (.slice A11 N11 C11) (([] : List CallD) ++ x.calls), bx b3 [.int .i64 0, .int .i64 0, .int .i64 0, .int .i64 0, .slice none 0 0, .slice none 0 0, .slice none 0 0, .slice none 0 0, .slice none 0 0, .int .i64 0] 35] wZ) #[yT, yT, yT, yT, nF, yT, yT, yT, nF, nF, nF, nF, nF] 6 ?_ (fun G119 => ?_)
   · rintro a119 w119 ⟨b33, b49, F119, S119⟩
     obtain ⟨Q67, Q117, Q167⟩ := At.ownInv S119.at' ET_32.hk 3 rfl
     obtain ⟨Q68, Q118, Q168⟩ := At.ownInv S119.at' ET_31.hk 4 rfl
     refine d_all (rs := [4, 8]) rfl (by kernel_rfl) (by simp) (d_cons (i := 4) (listed' := #[yT, yT, yT, yT, yT, yT, yT, yT, nF, nF, nF, nF, nF]) rfl rfl ?_ (d_cons (i := 8) (listed' := #[yT, yT, yT, yT, nF, yT, yT, yT, yT, nF, nF, nF, nF]) rfl rfl ?_ d_nil))
     · skip
       refine f_app (news := x.touch.reads) F119 S119.at' 1 ET_24 rfl rfl rfl rfl rfl rfl (F119.ev 13 rfl) (F119.ev 16 rfl) ((Rd.mv (Nat.succ_pos _) Q9 (S1.trans (T6.trans (S7.trans (S11.trans (T16.trans (S17.trans (S21.trans (T26.trans (S28.trans S119))))))))))).1 (by ((repeat (first | rw [List.length_append] | rw [List.length_cons] | rw [List.length_nil] | rw [List.length_take] | rw [List.length_drop])) <;> omega)) fun A120 N120 C120 _ w120 F121 S120 l120 => ?_
       refine ⟨Sd.of (S119.trans S120) [] rfl, ?_⟩
       exact G107 _ _ ⟨b33, A120, N120, C120, b49, F121.cut rfl, (S119.trans S120).pick [1, 0, 2, 3, 4, 5] rfl⟩
     · skip
       refine f_val (v := .slice x_Wa x_Wn x_Wc) F119 rfl rfl (r_loadB S119.at' 2 TI_24 rfl rfl (F119.ev 20 rfl) rfl rfl (fun _ => rfl) rfl) rfl fun _ F122 => ?_
       refine ⟨Sd.of S119 [] rfl, ?_⟩
       exact G112 _ _ ⟨b33, b49, F122.cut rfl, S119.pick [0, 1, 2, 3, 4, 5] rfl⟩
   refine x_lem (fun aZ wZ => ∃ (b33 : Nat), Fr 31 [(21, .slice x_Wa x_Wn x_Wc), (16, .slice x_Ra x_Rn x_Rc), (13, .slice (some ⟨b33, 0, none⟩) 0 0), (2, .pointer (some ⟨b3, 0, none⟩)), (1, .pointer (some ⟨b1, 0, none⟩))] aZ ∧ Mv [bx b1 [.int .i64 x.id, .int .i64 x.age, .int .i64 x.proc, .int .i64 x.began, .slice A11 N11 C11, .slice A21 N21 C21, .slice x_Ra x_Rn x_Rc, .slice x_Wa x_Wn x_Wc, .slice Q0 Q2 Q1, .int .i64 x.state] 35, ow 59 3 encR okR (.slice A21 N21 C21) (([] : List AnsD) ++ x.answers), ow 56 6 encK okK (.slice A11 N11 C11) (([] : List CallD) ++ x.calls), bx b3 [.int .i64 0, .int .i64 0, .int .i64 0, .int .i64 0, .slice none 0 0, .slice none 0 0, .slice none 0 0, .slice none 0 0, .slice none 0 0, .int .i64 0] 35] w28 [ow 9 1 encS okS (.slice (some ⟨b33, 0, none⟩) 0 0) ([] : List ByteArray), bx b1 [.int .i64 x.id, .int .i64 x.age, .int .i64 x.proc, .int .i64 x.began, .slice A11 N11 C11, .slice A21 N21 C21, .slice x_Ra x_Rn x_Rc, .slice x_Wa x_Wn x_Wc, .slice Q0 Q2 Q1, .int .i64 x.state] 35, ow 59 3 encR okR (.slice A21 N21 C21) (([] : List AnsD) ++ x.answers), ow 56 6 encK okK (.slice A11 N11 C11) (([] : List CallD) ++ x.calls), bx b3 [.int .i64 0, .int .i64 0, .int .i64 0, .int .i64 0, .slice none 0 0, .slice none 0 0, .slice none 0 0, .slice none 0 0, .slice none 0 0, .int .i64 0] 35] wZ) #[yT, yT, yT, yT, nF, nF, yT, yT, yT, nF, nF, nF, nF] 6 ?_ (fun G123 => ?_)
   · rintro a123 w123 ⟨b33, F123, S123⟩
     obtain ⟨Q69, Q119, Q169⟩ := At.ownInv S123.at' ET_32.hk 2 rfl
     obtain ⟨Q70, Q120, Q170⟩ := At.ownInv S123.at' ET_31.hk 3 rfl
     refine d_all (rs := [4, 5]) rfl (by kernel_rfl) (by simp) (d_cons (i := 4) (listed' := #[yT, yT, yT, yT, yT, nF, yT, yT, yT, nF, nF, nF, nF]) rfl rfl ?_ (d_cons (i := 5) (listed' := #[yT, yT, yT, yT, nF, yT, yT, yT, yT, nF, nF, nF, nF]) rfl rfl ?_ d_nil))
     · skip
       refine f_app (news := x.touch.reads) F123 S123.at' 0 ET_24 rfl rfl rfl rfl rfl rfl (F123.ev 13 rfl) (F123.ev 16 rfl) ((Rd.mv (Nat.succ_pos _) Q9 (S1.trans (T6.trans (S7.trans (S11.trans (T16.trans (S17.trans (S21.trans (T26.trans (S28.trans S123))))))))))).1 (by ((repeat (first | rw [List.length_append] | rw [List.length_cons] | rw [List.length_nil] | rw [List.length_take] | rw [List.length_drop])) <;> omega)) fun A124 N124 C124 _ w124 F125 S124 l124 => ?_
       refine ⟨Sd.of (S123.trans S124) [] rfl, ?_⟩
       exact G109 _ _ ⟨b33, A124, N124, C124, F125.cut rfl, (S123.trans S124).pick [0, 1, 2, 3, 4] rfl⟩
     · skip
       refine f_buildSl (ok := okS) (vs := []) F123 S123.at' (([] : List ByteArray)) ET_24 rfl rfl rfl rfl rfl rfl rfl rfl rfl (by simp) fun b126 _ w126 F127 S126 => ?_
       refine ⟨Sd.of (S123.trans S126) [] rfl, ?_⟩
       exact G112 _ _ ⟨b33, b126, F127.cut rfl, (S123.trans S126).pick [0, 1, 2, 3, 4, 5] rfl⟩
   refine x_lem (fun aZ wZ => ∃ (b33 : Nat), ∃ (b61 : Nat), Fr 31 [(21, .slice x_Wa x_Wn x_Wc), (18, .slice (some ⟨b61, 0, none⟩) 0 0), (13, .slice (some ⟨b33, 0, none⟩) 0 0), (15, .pointer (some ⟨b1, 6, none⟩)), (2, .pointer (some ⟨b3, 0, none⟩)), (1, .pointer (some ⟨b1, 0, none⟩))] aZ ∧ Mv [bx b1 [.int .i64 x.id, .int .i64 x.age, .int .i64 x.proc, .int .i64 x.began, .slice A11 N11 C11, .slice A21 N21 C21, .slice x_Ra x_Rn x_Rc, .slice x_Wa x_Wn x_Wc, .slice Q0 Q2 Q1, .int .i64 x.state] 35, ow 59 3 encR okR (.slice A21 N21 C21) (([] : List AnsD) ++ x.answers), ow 56 6 encK okK (.slice A11 N11 C11) (([] : List CallD) ++ x.calls), bx b3 [.int .i64 0, .int .i64 0, .int .i64 0, .int .i64 0, .slice none 0 0, .slice none 0 0, .slice none 0 0, .slice none 0 0, .slice none 0 0, .int .i64 0] 35] w28 [ow 9 1 encS okS (.slice (some ⟨b61, 0, none⟩) 0 0) ([] : List ByteArray), ow 9 1 encS okS (.slice (some ⟨b33, 0, none⟩) 0 0) ([] : List ByteArray), bx b1 [.int .i64 x.id, .int .i64 x.age, .int .i64 x.proc, .int .i64 x.began, .slice A11 N11 C11, .slice A21 N21 C21, .slice x_Ra x_Rn x_Rc, .slice x_Wa x_Wn x_Wc, .slice Q0 Q2 Q1, .int .i64 x.state] 35, ow 59 3 encR okR (.slice A21 N21 C21) (([] : List AnsD) ++ x.answers), ow 56 6 encK okK (.slice A11 N11 C11) (([] : List CallD) ++ x.calls), bx b3 [.int .i64 0, .int .i64 0, .int .i64 0, .int .i64 0, .slice none 0 0, .slice none 0 0, .slice none 0 0, .slice none 0 0, .slice none 0 0, .int .i64 0] 35] wZ) #[yT, yT, yT, nF, nF, yT, yT, yT, yT, nF, nF, nF, nF] 6 ?_ (fun G128 => ?_)
   · rintro a128 w128 ⟨b33, b61, F128, S128⟩
     obtain ⟨Q71, Q121, Q171⟩ := At.ownInv S128.at' ET_32.hk 3 rfl
     obtain ⟨Q72, Q122, Q172⟩ := At.ownInv S128.at' ET_31.hk 4 rfl
     refine d_one (i := 3) (listed' := #[yT, yT, yT, yT, nF, yT, yT, yT, yT, nF, nF, nF, nF]) rfl (by kernel_rfl) rfl rfl ?_
     refine f_val (v := .slice x_Ra x_Rn x_Rc) F128 rfl rfl (r_loadB S128.at' 2 TI_24 rfl rfl (F128.ev 15 rfl) rfl rfl (fun _ => rfl) rfl) rfl fun _ F129 => ?_
     refine ⟨Sd.of S128 [] rfl, ?_⟩
     exact G112 _ _ ⟨b33, b61, F129.cut rfl, S128.pick [0, 1, 2, 3, 4, 5] rfl⟩
   refine x_lem (fun aZ wZ => ∃ (b73 : Nat), Fr 31 [(21, .slice x_Wa x_Wn x_Wc), (18, .slice (some ⟨b73, 0, none⟩) 0 0), (16, .slice x_Ra x_Rn x_Rc), (2, .pointer (some ⟨b3, 0, none⟩)), (1, .pointer (some ⟨b1, 0, none⟩))] aZ ∧ Mv [bx b1 [.int .i64 x.id, .int .i64 x.age, .int .i64 x.proc, .int .i64 x.began, .slice A11 N11 C11, .slice A21 N21 C21, .slice x_Ra x_Rn x_Rc, .slice x_Wa x_Wn x_Wc, .slice Q0 Q2 Q1, .int .i64 x.state] 35, ow 59 3 encR okR (.slice A21 N21 C21) (([] : List AnsD) ++ x.answers), ow 56 6 encK okK (.slice A11 N11 C11) (([] : List CallD) ++ x.calls), bx b3 [.int .i64 0, .int .i64 0, .int .i64 0, .int .i64 0, .slice none 0 0, .slice none 0 0, .slice none 0 0, .slice none 0 0, .slice none 0 0, .int .i64 0] 35] w28 [ow 9 1 encS okS (.slice (some ⟨b73, 0, none⟩) 0 0) ([] : List ByteArray), bx b1 [.int .i64 x.id, .int .i64 x.age, .int .i64 x.proc, .int .i64 x.began, .slice A11 N11 C11, .slice A21 N21 C21, .slice x_Ra x_Rn x_Rc, .slice x_Wa x_Wn x_Wc, .slice Q0 Q2 Q1, .int .i64 x.state] 35, ow 59 3 encR okR (.slice A21 N21 C21) (([] : List AnsD) ++ x.answers), ow 56 6 encK okK (.slice A11 N11 C11) (([] : List CallD) ++ x.calls), bx b3 [.int .i64 0, .int .i64 0, .int .i64 0, .int .i64 0, .slice none 0 0, .slice none 0 0, .slice none 0 0, .slice none 0 0, .slice none 0 0, .int .i64 0] 35] wZ) #[nF, yT, yT, yT, nF, yT, yT, yT, yT, nF, nF, nF, nF] 6 ?_ (fun G130 => ?_)
   · rintro a130 w130 ⟨b73, F130, S130⟩
     obtain ⟨Q73, Q123, Q173⟩ := At.ownInv S130.at' ET_32.hk 2 rfl
     obtain ⟨Q74, Q124, Q174⟩ := At.ownInv S130.at' ET_31.hk 3 rfl
     refine d_one (i := 0) (listed' := #[yT, yT, yT, yT, nF, yT, yT, yT, yT, nF, nF, nF, nF]) rfl (by kernel_rfl) rfl rfl ?_
     refine f_buildSl (ok := okS) (vs := []) F130 S130.at' (([] : List ByteArray)) ET_24 rfl rfl rfl rfl rfl rfl rfl rfl rfl (by simp) fun b131 _ w131 F132 S131 => ?_
     refine ⟨Sd.of (S130.trans S131) [] rfl, ?_⟩
     exact G112 _ _ ⟨b131, b73, F132.cut rfl, (S130.trans S131).pick [1, 0, 2, 3, 4, 5] rfl⟩
   refine x_lem (fun aZ wZ => ∃ (b33 : Nat), Fr 31 [(16, .slice x_Ra x_Rn x_Rc), (13, .slice (some ⟨b33, 0, none⟩) 0 0), (20, .pointer (some ⟨b1, 7, none⟩)), (2, .pointer (some ⟨b3, 0, none⟩)), (1, .pointer (some ⟨b1, 0, none⟩))] aZ ∧ Mv [bx b1 [.int .i64 x.id, .int .i64 x.age, .int .i64 x.proc, .int .i64 x.began, .slice A11 N11 C11, .slice A21 N21 C21, .slice x_Ra x_Rn x_Rc, .slice x_Wa x_Wn x_Wc, .slice Q0 Q2 Q1, .int .i64 x.state] 35, ow 59 3 encR okR (.slice A21 N21 C21) (([] : List AnsD) ++ x.answers), ow 56 6 encK okK (.slice A11 N11 C11) (([] : List CallD) ++ x.calls), bx b3 [.int .i64 0, .int .i64 0, .int .i64 0, .int .i64 0, .slice none 0 0, .slice none 0 0, .slice none 0 0, .slice none 0 0, .slice none 0 0, .int .i64 0] 35] w28 [ow 9 1 encS okS (.slice (some ⟨b33, 0, none⟩) 0 0) ([] : List ByteArray), bx b1 [.int .i64 x.id, .int .i64 x.age, .int .i64 x.proc, .int .i64 x.began, .slice A11 N11 C11, .slice A21 N21 C21, .slice x_Ra x_Rn x_Rc, .slice x_Wa x_Wn x_Wc, .slice Q0 Q2 Q1, .int .i64 x.state] 35, ow 59 3 encR okR (.slice A21 N21 C21) (([] : List AnsD) ++ x.answers), ow 56 6 encK okK (.slice A11 N11 C11) (([] : List CallD) ++ x.calls), bx b3 [.int .i64 0, .int .i64 0, .int .i64 0, .int .i64 0, .slice none 0 0, .slice none 0 0, .slice none 0 0, .slice none 0 0, .slice none 0 0, .int .i64 0] 35] wZ) #[yT, yT, yT, yT, nF, nF, yT, yT, nF, nF, nF, nF, nF] 7 ?_ (fun G133 => ?_)
   · rintro a133 w133 ⟨b33, F133, S133⟩
     obtain ⟨Q75, Q125, Q175⟩ := At.ownInv S133.at' ET_32.hk 2 rfl
     obtain ⟨Q76, Q126, Q176⟩ := At.ownInv S133.at' ET_31.hk 3 rfl
     refine d_all (rs := [4, 5, 8]) rfl (by kernel_rfl) (by simp) (d_cons (i := 4) (listed' := #[yT, yT, yT, yT, yT, nF, yT, yT, nF, nF, nF, nF, nF]) rfl rfl ?_ (d_cons (i := 5) (listed' := #[yT, yT, yT, yT, nF, yT, yT, yT, nF, nF, nF, nF, nF]) rfl rfl ?_ (d_cons (i := 8) (listed' := #[yT, yT, yT, yT, nF, nF, yT, yT, yT, nF, nF, nF, nF]) rfl rfl ?_ d_nil)))
     · skip
       refine f_app (news := x.touch.reads) F133 S133.at' 0 ET_24 rfl rfl rfl rfl rfl rfl (F133.ev 13 rfl) (F133.ev 16 rfl) ((Rd.mv (Nat.succ_pos _) Q9 (S1.trans (T6.trans (S7.trans (S11.trans (T16.trans (S17.trans (S21.trans (T26.trans (S28.trans S133))))))))))).1 (by ((repeat (first | rw [List.length_append] | rw [List.length_cons] | rw [List.length_nil] | rw [List.length_take] | rw [List.length_drop])) <;> omega)) fun A134 N134 C134 _ w134 F135 S134 l134 => ?_
       refine ⟨Sd.of (S133.trans S134) [] rfl, ?_⟩
       exact G115 _ _ ⟨b33, A134, N134, C134, F135.cut rfl, (S133.trans S134).pick [0, 1, 2, 3, 4] rfl⟩
     · skip
       refine f_buildSl (ok := okS) (vs := []) F133 S133.at' (([] : List ByteArray)) ET_24 rfl rfl rfl rfl rfl rfl rfl rfl rfl (by simp) fun b136 _ w136 F137 S136 => ?_
       refine ⟨Sd.of (S133.trans S136) [] rfl, ?_⟩
       exact G119 _ _ ⟨b33, b136, F137.cut rfl, (S133.trans S136).pick [0, 1, 2, 3, 4, 5] rfl⟩
     · skip
       refine f_val (v := .slice x_Wa x_Wn x_Wc) F133 rfl rfl (r_loadB S133.at' 1 TI_24 rfl rfl (F133.ev 20 rfl) rfl rfl (fun _ => rfl) rfl) rfl fun _ F138 => ?_
       refine ⟨Sd.of S133 [] rfl, ?_⟩
       exact G123 _ _ ⟨b33, F138.cut rfl, S133.pick [0, 1, 2, 3, 4] rfl⟩
   refine x_lem (fun aZ wZ => ∃ (b33 : Nat), ∃ (b61 : Nat), Fr 31 [(18, .slice (some ⟨b61, 0, none⟩) 0 0), (13, .slice (some ⟨b33, 0, none⟩) 0 0), (20, .pointer (some ⟨b1, 7, none⟩)), (15, .pointer (some ⟨b1, 6, none⟩)), (2, .pointer (some ⟨b3, 0, none⟩)), (1, .pointer (some ⟨b1, 0, none⟩))] aZ ∧ Mv [bx b1 [.int .i64 x.id, .int .i64 x.age, .int .i64 x.proc, .int .i64 x.began, .slice A11 N11 C11, .slice A21 N21 C21, .slice x_Ra x_Rn x_Rc, .slice x_Wa x_Wn x_Wc, .slice Q0 Q2 Q1, .int .i64 x.state] 35, ow 59 3 encR okR (.slice A21 N21 C21) (([] : List AnsD) ++ x.answers), ow 56 6 encK okK (.slice A11 N11 C11) (([] : List CallD) ++ x.calls), bx b3 [.int .i64 0, .int .i64 0, .int .i64 0, .int .i64 0, .slice none 0 0, .slice none 0 0, .slice none 0 0, .slice none 0 0, .slice none 0 0, .int .i64 0] 35] w28 [ow 9 1 encS okS (.slice (some ⟨b61, 0, none⟩) 0 0) ([] : List ByteArray), ow 9 1 encS okS (.slice (some ⟨b33, 0, none⟩) 0 0) ([] : List ByteArray), bx b1 [.int .i64 x.id, .int .i64 x.age, .int .i64 x.proc, .int .i64 x.began, .slice A11 N11 C11, .slice A21 N21 C21, .slice x_Ra x_Rn x_Rc, .slice x_Wa x_Wn x_Wc, .slice Q0 Q2 Q1, .int .i64 x.state] 35, ow 59 3 encR okR (.slice A21 N21 C21) (([] : List AnsD) ++ x.answers), ow 56 6 encK okK (.slice A11 N11 C11) (([] : List CallD) ++ x.calls), bx b3 [.int .i64 0, .int .i64 0, .int .i64 0, .int .i64 0, .slice none 0 0, .slice none 0 0, .slice none 0 0, .slice none 0 0, .slice none 0 0, .int .i64 0] 35] wZ) #[yT, yT, yT, nF, nF, yT, yT, yT, nF, nF, nF, nF, nF] 7 ?_ (fun G139 => ?_)
   · rintro a139 w139 ⟨b33, b61, F139, S139⟩
     obtain ⟨Q77, Q127, Q177⟩ := At.ownInv S139.at' ET_32.hk 3 rfl
     obtain ⟨Q78, Q128, Q178⟩ := At.ownInv S139.at' ET_31.hk 4 rfl
     refine d_all (rs := [3, 8]) rfl (by kernel_rfl) (by simp) (d_cons (i := 3) (listed' := #[yT, yT, yT, yT, nF, yT, yT, yT, nF, nF, nF, nF, nF]) rfl rfl ?_ (d_cons (i := 8) (listed' := #[yT, yT, yT, nF, nF, yT, yT, yT, yT, nF, nF, nF, nF]) rfl rfl ?_ d_nil))
     · skip
       refine f_val (v := .slice x_Ra x_Rn x_Rc) F139 rfl rfl (r_loadB S139.at' 2 TI_24 rfl rfl (F139.ev 15 rfl) rfl rfl (fun _ => rfl) rfl) rfl fun _ F140 => ?_
       refine ⟨Sd.of S139 [] rfl, ?_⟩
       exact G119 _ _ ⟨b33, b61, F140.cut rfl, S139.pick [0, 1, 2, 3, 4, 5] rfl⟩
     · skip
       refine f_val (v := .slice x_Wa x_Wn x_Wc) F139 rfl rfl (r_loadB S139.at' 2 TI_24 rfl rfl (F139.ev 20 rfl) rfl rfl (fun _ => rfl) rfl) rfl fun _ F141 => ?_
       refine ⟨Sd.of S139 [] rfl, ?_⟩
       exact G128 _ _ ⟨b33, b61, F141.cut rfl, S139.pick [0, 1, 2, 3, 4, 5] rfl⟩
   refine x_lem (fun aZ wZ => ∃ (b33 : Nat), Fr 31 [(21, .slice x_Wa x_Wn x_Wc), (13, .slice (some ⟨b33, 0, none⟩) 0 0), (15, .pointer (some ⟨b1, 6, none⟩)), (2, .pointer (some ⟨b3, 0, none⟩)), (1, .pointer (some ⟨b1, 0, none⟩))] aZ ∧ Mv [bx b1 [.int .i64 x.id, .int .i64 x.age, .int .i64 x.proc, .int .i64 x.began, .slice A11 N11 C11, .slice A21 N21 C21, .slice x_Ra x_Rn x_Rc, .slice x_Wa x_Wn x_Wc, .slice Q0 Q2 Q1, .int .i64 x.state] 35, ow 59 3 encR okR (.slice A21 N21 C21) (([] : List AnsD) ++ x.answers), ow 56 6 encK okK (.slice A11 N11 C11) (([] : List CallD) ++ x.calls), bx b3 [.int .i64 0, .int .i64 0, .int .i64 0, .int .i64 0, .slice none 0 0, .slice none 0 0, .slice none 0 0, .slice none 0 0, .slice none 0 0, .int .i64 0] 35] w28 [ow 9 1 encS okS (.slice (some ⟨b33, 0, none⟩) 0 0) ([] : List ByteArray), bx b1 [.int .i64 x.id, .int .i64 x.age, .int .i64 x.proc, .int .i64 x.began, .slice A11 N11 C11, .slice A21 N21 C21, .slice x_Ra x_Rn x_Rc, .slice x_Wa x_Wn x_Wc, .slice Q0 Q2 Q1, .int .i64 x.state] 35, ow 59 3 encR okR (.slice A21 N21 C21) (([] : List AnsD) ++ x.answers), ow 56 6 encK okK (.slice A11 N11 C11) (([] : List CallD) ++ x.calls), bx b3 [.int .i64 0, .int .i64 0, .int .i64 0, .int .i64 0, .slice none 0 0, .slice none 0 0, .slice none 0 0, .slice none 0 0, .slice none 0 0, .int .i64 0] 35] wZ) #[yT, yT, yT, nF, nF, nF, yT, yT, yT, nF, nF, nF, nF] 7 ?_ (fun G142 => ?_)
   · rintro a142 w142 ⟨b33, F142, S142⟩
     obtain ⟨Q79, Q129, Q179⟩ := At.ownInv S142.at' ET_32.hk 2 rfl
     obtain ⟨Q80, Q130, Q180⟩ := At.ownInv S142.at' ET_31.hk 3 rfl
     refine d_all (rs := [3, 5]) rfl (by kernel_rfl) (by simp) (d_cons (i := 3) (listed' := #[yT, yT, yT, yT, nF, nF, yT, yT, yT, nF, nF, nF, nF]) rfl rfl ?_ (d_cons (i := 5) (listed' := #[yT, yT, yT, nF, nF, yT, yT, yT, yT, nF, nF, nF, nF]) rfl rfl ?_ d_nil))
     · skip
       refine f_val (v := .slice x_Ra x_Rn x_Rc) F142 rfl rfl (r_loadB S142.at' 1 TI_24 rfl rfl (F142.ev 15 rfl) rfl rfl (fun _ => rfl) rfl) rfl fun _ F143 => ?_
       refine ⟨Sd.of S142 [] rfl, ?_⟩
       exact G123 _ _ ⟨b33, F143.cut rfl, S142.pick [0, 1, 2, 3, 4] rfl⟩
     · skip
       refine f_buildSl (ok := okS) (vs := []) F142 S142.at' (([] : List ByteArray)) ET_24 rfl rfl rfl rfl rfl rfl rfl rfl rfl (by simp) fun b144 _ w144 F145 S144 => ?_
       refine ⟨Sd.of (S142.trans S144) [] rfl, ?_⟩
       exact G128 _ _ ⟨b33, b144, F145.cut rfl, (S142.trans S144).pick [0, 1, 2, 3, 4, 5] rfl⟩
   refine x_lem (fun aZ wZ => ∃ (b73 : Nat), Fr 31 [(18, .slice (some ⟨b73, 0, none⟩) 0 0), (16, .slice x_Ra x_Rn x_Rc), (20, .pointer (some ⟨b1, 7, none⟩)), (2, .pointer (some ⟨b3, 0, none⟩)), (1, .pointer (some ⟨b1, 0, none⟩))] aZ ∧ Mv [bx b1 [.int .i64 x.id, .int .i64 x.age, .int .i64 x.proc, .int .i64 x.began, .slice A11 N11 C11, .slice A21 N21 C21, .slice x_Ra x_Rn x_Rc, .slice x_Wa x_Wn x_Wc, .slice Q0 Q2 Q1, .int .i64 x.state] 35, ow 59 3 encR okR (.slice A21 N21 C21) (([] : List AnsD) ++ x.answers), ow 56 6 encK okK (.slice A11 N11 C11) (([] : List CallD) ++ x.calls), bx b3 [.int .i64 0, .int .i64 0, .int .i64 0, .int .i64 0, .slice none 0 0, .slice none 0 0, .slice none 0 0, .slice none 0 0, .slice none 0 0, .int .i64 0] 35] w28 [ow 9 1 encS okS (.slice (some ⟨b73, 0, none⟩) 0 0) ([] : List ByteArray), bx b1 [.int .i64 x.id, .int .i64 x.age, .int .i64 x.proc, .int .i64 x.began, .slice A11 N11 C11, .slice A21 N21 C21, .slice x_Ra x_Rn x_Rc, .slice x_Wa x_Wn x_Wc, .slice Q0 Q2 Q1, .int .i64 x.state] 35, ow 59 3 encR okR (.slice A21 N21 C21) (([] : List AnsD) ++ x.answers), ow 56 6 encK okK (.slice A11 N11 C11) (([] : List CallD) ++ x.calls), bx b3 [.int .i64 0, .int .i64 0, .int .i64 0, .int .i64 0, .slice none 0 0, .slice none 0 0, .slice none 0 0, .slice none 0 0, .slice none 0 0, .int .i64 0] 35] wZ) #[nF, yT, yT, yT, nF, yT, yT, yT, nF, nF, nF, nF, nF] 7 ?_ (fun G146 => ?_)
   · rintro a146 w146 ⟨b73, F146, S146⟩
     obtain ⟨Q81, Q131, Q181⟩ := At.ownInv S146.at' ET_32.hk 2 rfl
     obtain ⟨Q82, Q132, Q182⟩ := At.ownInv S146.at' ET_31.hk 3 rfl
     refine d_all (rs := [0, 8]) rfl (by kernel_rfl) (by simp) (d_cons (i := 0) (listed' := #[yT, yT, yT, yT, nF, yT, yT, yT, nF, nF, nF, nF, nF]) rfl rfl ?_ (d_cons (i := 8) (listed' := #[nF, yT, yT, yT, nF, yT, yT, yT, yT, nF, nF, nF, nF]) rfl rfl ?_ d_nil))
     · skip
       refine f_buildSl (ok := okS) (vs := []) F146 S146.at' (([] : List ByteArray)) ET_24 rfl rfl rfl rfl rfl rfl rfl rfl rfl (by simp) fun b147 _ w147 F148 S147 => ?_
       refine ⟨Sd.of (S146.trans S147) [] rfl, ?_⟩
       exact G119 _ _ ⟨b147, b73, F148.cut rfl, (S146.trans S147).pick [1, 0, 2, 3, 4, 5] rfl⟩
     · skip
       refine f_val (v := .slice x_Wa x_Wn x_Wc) F146 rfl rfl (r_loadB S146.at' 1 TI_24 rfl rfl (F146.ev 20 rfl) rfl rfl (fun _ => rfl) rfl) rfl fun _ F149 => ?_
       refine ⟨Sd.of S146 [] rfl, ?_⟩
       exact G130 _ _ ⟨b73, F149.cut rfl, S146.pick [0, 1, 2, 3, 4] rfl⟩
   refine x_lem (fun aZ wZ => Fr 31 [(21, .slice x_Wa x_Wn x_Wc), (16, .slice x_Ra x_Rn x_Rc), (2, .pointer (some ⟨b3, 0, none⟩)), (1, .pointer (some ⟨b1, 0, none⟩))] aZ ∧ Mv [bx b1 [.int .i64 x.id, .int .i64 x.age, .int .i64 x.proc, .int .i64 x.began, .slice A11 N11 C11, .slice A21 N21 C21, .slice x_Ra x_Rn x_Rc, .slice x_Wa x_Wn x_Wc, .slice Q0 Q2 Q1, .int .i64 x.state] 35, ow 59 3 encR okR (.slice A21 N21 C21) (([] : List AnsD) ++ x.answers), ow 56 6 encK okK (.slice A11 N11 C11) (([] : List CallD) ++ x.calls), bx b3 [.int .i64 0, .int .i64 0, .int .i64 0, .int .i64 0, .slice none 0 0, .slice none 0 0, .slice none 0 0, .slice none 0 0, .slice none 0 0, .int .i64 0] 35] w28 [bx b1 [.int .i64 x.id, .int .i64 x.age, .int .i64 x.proc, .int .i64 x.began, .slice A11 N11 C11, .slice A21 N21 C21, .slice x_Ra x_Rn x_Rc, .slice x_Wa x_Wn x_Wc, .slice Q0 Q2 Q1, .int .i64 x.state] 35, ow 59 3 encR okR (.slice A21 N21 C21) (([] : List AnsD) ++ x.answers), ow 56 6 encK okK (.slice A11 N11 C11) (([] : List CallD) ++ x.calls), bx b3 [.int .i64 0, .int .i64 0, .int .i64 0, .int .i64 0, .slice none 0 0, .slice none 0 0, .slice none 0 0, .slice none 0 0, .slice none 0 0, .int .i64 0] 35] wZ) #[nF, yT, yT, yT, nF, nF, yT, yT, yT, nF, nF, nF, nF] 7 ?_ (fun G150 => ?_)
   · rintro a150 w150 ⟨F150, S150⟩
     obtain ⟨Q83, Q133, Q183⟩ := At.ownInv S150.at' ET_32.hk 1 rfl
     obtain ⟨Q84, Q134, Q184⟩ := At.ownInv S150.at' ET_31.hk 2 rfl
     refine d_all (rs := [0, 5]) rfl (by kernel_rfl) (by simp) (d_cons (i := 0) (listed' := #[yT, yT, yT, yT, nF, nF, yT, yT, yT, nF, nF, nF, nF]) rfl rfl ?_ (d_cons (i := 5) (listed' := #[nF, yT, yT, yT, nF, yT, yT, yT, yT, nF, nF, nF, nF]) rfl rfl ?_ d_nil))
     · skip
       refine f_buildSl (ok := okS) (vs := []) F150 S150.at' (([] : List ByteArray)) ET_24 rfl rfl rfl rfl rfl rfl rfl rfl rfl (by simp) fun b151 _ w151 F152 S151 => ?_
       refine ⟨Sd.of (S150.trans S151) [] rfl, ?_⟩
       exact G123 _ _ ⟨b151, F152.cut rfl, (S150.trans S151).pick [0, 1, 2, 3, 4] rfl⟩
     · skip
       refine f_buildSl (ok := okS) (vs := []) F150 S150.at' (([] : List ByteArray)) ET_24 rfl rfl rfl rfl rfl rfl rfl rfl rfl (by simp) fun b153 _ w153 F154 S153 => ?_
       refine ⟨Sd.of (S150.trans S153) [] rfl, ?_⟩
       exact G130 _ _ ⟨b153, F154.cut rfl, (S150.trans S153).pick [0, 1, 2, 3, 4] rfl⟩
   refine x_lem (fun aZ wZ => ∃ (b85 : Nat), Fr 31 [(21, .slice x_Wa x_Wn x_Wc), (18, .slice (some ⟨b85, 0, none⟩) 0 0), (15, .pointer (some ⟨b1, 6, none⟩)), (2, .pointer (some ⟨b3, 0, none⟩)), (1, .pointer (some ⟨b1, 0, none⟩))] aZ ∧ Mv [bx b1 [.int .i64 x.id, .int .i64 x.age, .int .i64 x.proc, .int .i64 x.began, .slice A11 N11 C11, .slice A21 N21 C21, .slice x_Ra x_Rn x_Rc, .slice x_Wa x_Wn x_Wc, .slice Q0 Q2 Q1, .int .i64 x.state] 35, ow 59 3 encR okR (.slice A21 N21 C21) (([] : List AnsD) ++ x.answers), ow 56 6 encK okK (.slice A11 N11 C11) (([] : List CallD) ++ x.calls), bx b3 [.int .i64 0, .int .i64 0, .int .i64 0, .int .i64 0, .slice none 0 0, .slice none 0 0, .slice none 0 0, .slice none 0 0, .slice none 0 0, .int .i64 0] 35] w28 [ow 9 1 encS okS (.slice (some ⟨b85, 0, none⟩) 0 0) ([] : List ByteArray), bx b1 [.int .i64 x.id, .int .i64 x.age, .int .i64 x.proc, .int .i64 x.began, .slice A11 N11 C11, .slice A21 N21 C21, .slice x_Ra x_Rn x_Rc, .slice x_Wa x_Wn x_Wc, .slice Q0 Q2 Q1, .int .i64 x.state] 35, ow 59 3 encR okR (.slice A21 N21 C21) (([] : List AnsD) ++ x.answers), ow 56 6 encK okK (.slice A11 N11 C11) (([] : List CallD) ++ x.calls), bx b3 [.int .i64 0, .int .i64 0, .int .i64 0, .int .i64 0, .slice none 0 0, .slice none 0 0, .slice none 0 0, .slice none 0 0, .slice none 0 0, .int .i64 0] 35] wZ) #[nF, yT, yT, nF, nF, yT, yT, yT, yT, nF, nF, nF, nF] 7 ?_ (fun G155 => ?_)
   · rintro a155 w155 ⟨b85, F155, S155⟩
     obtain ⟨Q85, Q135, Q185⟩ := At.ownInv S155.at' ET_32.hk 2 rfl
     obtain ⟨Q86, Q136, Q186⟩ := At.ownInv S155.at' ET_31.hk 3 rfl
     refine d_all (rs := [0, 3]) rfl (by kernel_rfl) (by simp) (d_cons (i := 0) (listed' := #[yT, yT, yT, nF, nF, yT, yT, yT, yT, nF, nF, nF, nF]) rfl rfl ?_ (d_cons (i := 3) (listed' := #[nF, yT, yT, yT, nF, yT, yT, yT, yT, nF, nF, nF, nF]) rfl rfl ?_ d_nil))
     · skip
       refine f_buildSl (ok := okS) (vs := []) F155 S155.at' (([] : List ByteArray)) ET_24 rfl rfl rfl rfl rfl rfl rfl rfl rfl (by simp) fun b156 _ w156 F157 S156 => ?_
       refine ⟨Sd.of (S155.trans S156) [] rfl, ?_⟩
       exact G128 _ _ ⟨b156, b85, F157.cut rfl, (S155.trans S156).pick [1, 0, 2, 3, 4, 5] rfl⟩
     · skip
       refine f_val (v := .slice x_Ra x_Rn x_Rc) F155 rfl rfl (r_loadB S155.at' 1 TI_24 rfl rfl (F155.ev 15 rfl) rfl rfl (fun _ => rfl) rfl) rfl fun _ F158 => ?_
       refine ⟨Sd.of S155 [] rfl, ?_⟩
       exact G130 _ _ ⟨b85, F158.cut rfl, S155.pick [0, 1, 2, 3, 4] rfl⟩
   refine x_lem (fun aZ wZ => ∃ (b33 : Nat), Fr 31 [(13, .slice (some ⟨b33, 0, none⟩) 0 0), (20, .pointer (some ⟨b1, 7, none⟩)), (15, .pointer (some ⟨b1, 6, none⟩)), (2, .pointer (some ⟨b3, 0, none⟩)), (1, .pointer (some ⟨b1, 0, none⟩))] aZ ∧ Mv [bx b1 [.int .i64 x.id, .int .i64 x.age, .int .i64 x.proc, .int .i64 x.began, .slice A11 N11 C11, .slice A21 N21 C21, .slice x_Ra x_Rn x_Rc, .slice x_Wa x_Wn x_Wc, .slice Q0 Q2 Q1, .int .i64 x.state] 35, ow 59 3 encR okR (.slice A21 N21 C21) (([] : List AnsD) ++ x.answers), ow 56 6 encK okK (.slice A11 N11 C11) (([] : List CallD) ++ x.calls), bx b3 [.int .i64 0, .int .i64 0, .int .i64 0, .int .i64 0, .slice none 0 0, .slice none 0 0, .slice none 0 0, .slice none 0 0, .slice none 0 0, .int .i64 0] 35] w28 [ow 9 1 encS okS (.slice (some ⟨b33, 0, none⟩) 0 0) ([] : List ByteArray), bx b1 [.int .i64 x.id, .int .i64 x.age, .int .i64 x.proc, .int .i64 x.began, .slice A11 N11 C11, .slice A21 N21 C21, .slice x_Ra x_Rn x_Rc, .slice x_Wa x_Wn x_Wc, .slice Q0 Q2 Q1, .int .i64 x.state] 35, ow 59 3 encR okR (.slice A21 N21 C21) (([] : List AnsD) ++ x.answers), ow 56 6 encK okK (.slice A11 N11 C11) (([] : List CallD) ++ x.calls), bx b3 [.int .i64 0, .int .i64 0, .int .i64 0, .int .i64 0, .slice none 0 0, .slice none 0 0, .slice none 0 0, .slice none 0 0, .slice none 0 0, .int .i64 0] 35] wZ) #[yT, yT, yT, nF, nF, nF, yT, yT, nF, nF, nF, nF, nF] 8 ?_ (fun G159 => ?_)
   · rintro a159 w159 ⟨b33, F159, S159⟩
     obtain ⟨Q87, Q137, Q187⟩ := At.ownInv S159.at' ET_32.hk 2 rfl
     obtain ⟨Q88, Q138, Q188⟩ := At.ownInv S159.at' ET_31.hk 3 rfl
     refine d_all (rs := [3, 5, 8]) rfl (by kernel_rfl) (by simp) (d_cons (i := 3) (listed' := #[yT, yT, yT, yT, nF, nF, yT, yT, nF, nF, nF, nF, nF]) rfl rfl ?_ (d_cons (i := 5) (listed' := #[yT, yT, yT, nF, nF, yT, yT, yT, nF, nF, nF, nF, nF]) rfl rfl ?_ (d_cons (i := 8) (listed' := #[yT, yT, yT, nF, nF, nF, yT, yT, yT, nF, nF, nF, nF]) rfl rfl ?_ d_nil)))
     · skip
       refine f_val (v := .slice x_Ra x_Rn x_Rc) F159 rfl rfl (r_loadB S159.at' 1 TI_24 rfl rfl (F159.ev 15 rfl) rfl rfl (fun _ => rfl) rfl) rfl fun _ F160 => ?_
       refine ⟨Sd.of S159 [] rfl, ?_⟩
       exact G133 _ _ ⟨b33, F160.cut rfl, S159.pick [0, 1, 2, 3, 4] rfl⟩
     · skip
       refine f_buildSl (ok := okS) (vs := []) F159 S159.at' (([] : List ByteArray)) ET_24 rfl rfl rfl rfl rfl rfl rfl rfl rfl (by simp) fun b161 _ w161 F162 S161 => ?_
       refine ⟨Sd.of (S159.trans S161) [] rfl, ?_⟩
       exact G139 _ _ ⟨b33, b161, F162.cut rfl, (S159.trans S161).pick [0, 1, 2, 3, 4, 5] rfl⟩
     · skip
       refine f_val (v := .slice x_Wa x_Wn x_Wc) F159 rfl rfl (r_loadB S159.at' 1 TI_24 rfl rfl (F159.ev 20 rfl) rfl rfl (fun _ => rfl) rfl) rfl fun _ F163 => ?_
       refine ⟨Sd.of S159 [] rfl, ?_⟩
       exact G142 _ _ ⟨b33, F163.cut rfl, S159.pick [0, 1, 2, 3, 4] rfl⟩
   refine x_lem (fun aZ wZ => Fr 31 [(16, .slice x_Ra x_Rn x_Rc), (20, .pointer (some ⟨b1, 7, none⟩)), (2, .pointer (some ⟨b3, 0, none⟩)), (1, .pointer (some ⟨b1, 0, none⟩))] aZ ∧ Mv [bx b1 [.int .i64 x.id, .int .i64 x.age, .int .i64 x.proc, .int .i64 x.began, .slice A11 N11 C11, .slice A21 N21 C21, .slice x_Ra x_Rn x_Rc, .slice x_Wa x_Wn x_Wc, .slice Q0 Q2 Q1, .int .i64 x.state] 35, ow 59 3 encR okR (.slice A21 N21 C21) (([] : List AnsD) ++ x.answers), ow 56 6 encK okK (.slice A11 N11 C11) (([] : List CallD) ++ x.calls), bx b3 [.int .i64 0, .int .i64 0, .int .i64 0, .int .i64 0, .slice none 0 0, .slice none 0 0, .slice none 0 0, .slice none 0 0, .slice none 0 0, .int .i64 0] 35] w28 [bx b1 [.int .i64 x.id, .int .i64 x.age, .int .i64 x.proc, .int .i64 x.began, .slice A11 N11 C11, .slice A21 N21 C21, .slice x_Ra x_Rn x_Rc, .slice x_Wa x_Wn x_Wc, .slice Q0 Q2 Q1, .int .i64 x.state] 35, ow 59 3 encR okR (.slice A21 N21 C21) (([] : List AnsD) ++ x.answers), ow 56 6 encK okK (.slice A11 N11 C11) (([] : List CallD) ++ x.calls), bx b3 [.int .i64 0, .int .i64 0, .int .i64 0, .int .i64 0, .slice none 0 0, .slice none 0 0, .slice none 0 0, .slice none 0 0, .slice none 0 0, .int .i64 0] 35] wZ) #[nF, yT, yT, yT, nF, nF, yT, yT, nF, nF, nF, nF, nF] 8 ?_ (fun G164 => ?_)
   · rintro a164 w164 ⟨F164, S164⟩
     obtain ⟨Q89, Q139, Q189⟩ := At.ownInv S164.at' ET_32.hk 1 rfl
     obtain ⟨Q90, Q140, Q190⟩ := At.ownInv S164.at' ET_31.hk 2 rfl
     refine d_all (rs := [0, 5, 8]) rfl (by kernel_rfl) (by simp) (d_cons (i := 0) (listed' := #[yT, yT, yT, yT, nF, nF, yT, yT, nF, nF, nF, nF, nF]) rfl rfl ?_ (d_cons (i := 5) (listed' := #[nF, yT, yT, yT, nF, yT, yT, yT, nF, nF, nF, nF, nF]) rfl rfl ?_ (d_cons (i := 8) (listed' := #[nF, yT, yT, yT, nF, nF, yT, yT, yT, nF, nF, nF, nF]) rfl rfl ?_ d_nil)))
     · skip
       refine f_buildSl (ok := okS) (vs := []) F164 S164.at' (([] : List ByteArray)) ET_24 rfl rfl rfl rfl rfl rfl rfl rfl rfl (by simp) fun b165 _ w165 F166 S165 => ?_
       refine ⟨Sd.of (S164.trans S165) [] rfl, ?_⟩
       exact G133 _ _ ⟨b165, F166.cut rfl, (S164.trans S165).pick [0, 1, 2, 3, 4] rfl⟩
     · skip
       refine f_buildSl (ok := okS) (vs := []) F164 S164.at' (([] : List ByteArray)) ET_24 rfl rfl rfl rfl rfl rfl rfl rfl rfl (by simp) fun b167 _ w167 F168 S167 => ?_
       refine ⟨Sd.of (S164.trans S167) [] rfl, ?_⟩
       exact G146 _ _ ⟨b167, F168.cut rfl, (S164.trans S167).pick [0, 1, 2, 3, 4] rfl⟩
     · skip
       refine f_val (v := .slice x_Wa x_Wn x_Wc) F164 rfl rfl (r_loadB S164.at' 0 TI_24 rfl rfl (F164.ev 20 rfl) rfl rfl (fun _ => rfl) rfl) rfl fun _ F169 => ?_
       refine ⟨Sd.of S164 [] rfl, ?_⟩
       exact G150 _ _ ⟨F169.cut rfl, S164.pick [0, 1, 2, 3] rfl⟩
   refine x_lem (fun aZ wZ => ∃ (b85 : Nat), Fr 31 [(18, .slice (some ⟨b85, 0, none⟩) 0 0), (20, .pointer (some ⟨b1, 7, none⟩)), (15, .pointer (some ⟨b1, 6, none⟩)), (2, .pointer (some ⟨b3, 0, none⟩)), (1, .pointer (some ⟨b1, 0, none⟩))] aZ ∧ Mv [bx b1 [.int .i64 x.id, .int .i64 x.age, .int .i64 x.proc, .int .i64 x.began, .slice A11 N11 C11, .slice A21 N21 C21, .slice x_Ra x_Rn x_Rc, .slice x_Wa x_Wn x_Wc, .slice Q0 Q2 Q1, .int .i64 x.state] 35, ow 59 3 encR okR (.slice A21 N21 C21) (([] : List AnsD) ++ x.answers), ow 56 6 encK okK (.slice A11 N11 C11) (([] : List CallD) ++ x.calls), bx b3 [.int .i64 0, .int .i64 0, .int .i64 0, .int .i64 0, .slice none 0 0, .slice none 0 0, .slice none 0 0, .slice none 0 0, .slice none 0 0, .int .i64 0] 35] w28 [ow 9 1 encS okS (.slice (some ⟨b85, 0, none⟩) 0 0) ([] : List ByteArray), bx b1 [.int .i64 x.id, .int .i64 x.age, .int .i64 x.proc, .int .i64 x.began, .slice A11 N11 C11, .slice A21 N21 C21, .slice x_Ra x_Rn x_Rc, .slice x_Wa x_Wn x_Wc, .slice Q0 Q2 Q1, .int .i64 x.state] 35, ow 59 3 encR okR (.slice A21 N21 C21) (([] : List AnsD) ++ x.answers), ow 56 6 encK okK (.slice A11 N11 C11) (([] : List CallD) ++ x.calls), bx b3 [.int .i64 0, .int .i64 0, .int .i64 0, .int .i64 0, .slice none 0 0, .slice none 0 0, .slice none 0 0, .slice none 0 0, .slice none 0 0, .int .i64 0] 35] wZ) #[nF, yT, yT, nF, nF, yT, yT, yT, nF, nF, nF, nF, nF] 8 ?_ (fun G170 => ?_)
   · rintro a170 w170 ⟨b85, F170, S170⟩
     obtain ⟨Q91, Q141, Q191⟩ := At.ownInv S170.at' ET_32.hk 2 rfl
     obtain ⟨Q92, Q142, Q192⟩ := At.ownInv S170.at' ET_31.hk 3 rfl
     refine d_all (rs := [0, 3, 8]) rfl (by kernel_rfl) (by simp) (d_cons (i := 0) (listed' := #[yT, yT, yT, nF, nF, yT, yT, yT, nF, nF, nF, nF, nF]) rfl rfl ?_ (d_cons (i := 3) (listed' := #[nF, yT, yT, yT, nF, yT, yT, yT, nF, nF, nF, nF, nF]) rfl rfl ?_ (d_cons (i := 8) (listed' := #[nF, yT, yT, nF, nF, yT, yT, yT, yT, nF, nF, nF, nF]) rfl rfl ?_ d_nil)))
     · skip
       refine f_buildSl (ok := okS) (vs := []) F170 S170.at' (([] : List ByteArray)) ET_24 rfl rfl rfl rfl rfl rfl rfl rfl rfl (by simp) fun b171 _ w171 F172 S171 => ?_
       refine ⟨Sd.of (S170.trans S171) [] rfl, ?_⟩
       exact G139 _ _ ⟨b171, b85, F172.cut rfl, (S170.trans S171).pick [1, 0, 2, 3, 4, 5] rfl⟩
     · skip
       refine f_val (v := .slice x_Ra x_Rn x_Rc) F170 rfl rfl (r_loadB S170.at' 1 TI_24 rfl rfl (F170.ev 15 rfl) rfl rfl (fun _ => rfl) rfl) rfl fun _ F173 => ?_
       refine ⟨Sd.of S170 [] rfl, ?_⟩
       exact G146 _ _ ⟨b85, F173.cut rfl, S170.pick [0, 1, 2, 3, 4] rfl⟩
     · skip
       refine f_val (v := .slice x_Wa x_Wn x_Wc) F170 rfl rfl (r_loadB S170.at' 1 TI_24 rfl rfl (F170.ev 20 rfl) rfl rfl (fun _ => rfl) rfl) rfl fun _ F174 => ?_
       refine ⟨Sd.of S170 [] rfl, ?_⟩
       exact G155 _ _ ⟨b85, F174.cut rfl, S170.pick [0, 1, 2, 3, 4] rfl⟩
   refine x_lem (fun aZ wZ => Fr 31 [(21, .slice x_Wa x_Wn x_Wc), (15, .pointer (some ⟨b1, 6, none⟩)), (2, .pointer (some ⟨b3, 0, none⟩)), (1, .pointer (some ⟨b1, 0, none⟩))] aZ ∧ Mv [bx b1 [.int .i64 x.id, .int .i64 x.age, .int .i64 x.proc, .int .i64 x.began, .slice A11 N11 C11, .slice A21 N21 C21, .slice x_Ra x_Rn x_Rc, .slice x_Wa x_Wn x_Wc, .slice Q0 Q2 Q1, .int .i64 x.state] 35, ow 59 3 encR okR (.slice A21 N21 C21) (([] : List AnsD) ++ x.answers), ow 56 6 encK okK (.slice A11 N11 C11) (([] : List CallD) ++ x.calls), bx b3 [.int .i64 0, .int .i64 0, .int .i64 0, .int .i64 0, .slice none 0 0, .slice none 0 0, .slice none 0 0, .slice none 0 0, .slice none 0 0, .int .i64 0] 35] w28 [bx b1 [.int .i64 x.id, .int .i64 x.age, .int .i64 x.proc, .int .i64 x.began, .slice A11 N11 C11, .slice A21 N21 C21, .slice x_Ra x_Rn x_Rc, .slice x_Wa x_Wn x_Wc, .slice Q0 Q2 Q1, .int .i64 x.state] 35, ow 59 3 encR okR (.slice A21 N21 C21) (([] : List AnsD) ++ x.answers), ow 56 6 encK okK (.slice A11 N11 C11) (([] : List CallD) ++ x.calls), bx b3 [.int .i64 0, .int .i64 0, .int .i64 0, .int .i64 0, .slice none 0 0, .slice none 0 0, .slice none 0 0, .slice none 0 0, .slice none 0 0, .int .i64 0] 35] wZ) #[nF, yT, yT, nF, nF, nF, yT, yT, yT, nF, nF, nF, nF] 8 ?_ (fun G175 => ?_)
   · rintro a175 w175 ⟨F175, S175⟩
     obtain ⟨Q93, Q143, Q193⟩ := At.ownInv S175.at' ET_32.hk 1 rfl
     obtain ⟨Q94, Q144, Q194⟩ := At.ownInv S175.at' ET_31.hk 2 rfl
     refine d_all (rs := [0, 3, 5]) rfl (by kernel_rfl) (by simp) (d_cons (i := 0) (listed' := #[yT, yT, yT, nF, nF, nF, yT, yT, yT, nF, nF, nF, nF]) rfl rfl ?_ (d_cons (i := 3) (listed' := #[nF, yT, yT, yT, nF, nF, yT, yT, yT, nF, nF, nF, nF]) rfl rfl ?_ (d_cons (i := 5) (listed' := #[nF, yT, yT, nF, nF, yT, yT, yT, yT, nF, nF, nF, nF]) rfl rfl ?_ d_nil)))
     · skip
       refine f_buildSl (ok := okS) (vs := []) F175 S175.at' (([] : List ByteArray)) ET_24 rfl rfl rfl rfl rfl rfl rfl rfl rfl (by simp) fun b176 _ w176 F177 S176 => ?_
       refine ⟨Sd.of (S175.trans S176) [] rfl, ?_⟩
       exact G142 _ _ ⟨b176, F177.cut rfl, (S175.trans S176).pick [0, 1, 2, 3, 4] rfl⟩
     · skip
       refine f_val (v := .slice x_Ra x_Rn x_Rc) F175 rfl rfl (r_loadB S175.at' 0 TI_24 rfl rfl (F175.ev 15 rfl) rfl rfl (fun _ => rfl) rfl) rfl fun _ F178 => ?_
       refine ⟨Sd.of S175 [] rfl, ?_⟩
       exact G150 _ _ ⟨F178.cut rfl, S175.pick [0, 1, 2, 3] rfl⟩
     · skip
       refine f_buildSl (ok := okS) (vs := []) F175 S175.at' (([] : List ByteArray)) ET_24 rfl rfl rfl rfl rfl rfl rfl rfl rfl (by simp) fun b179 _ w179 F180 S179 => ?_
       refine ⟨Sd.of (S175.trans S179) [] rfl, ?_⟩
       exact G155 _ _ ⟨b179, F180.cut rfl, (S175.trans S179).pick [0, 1, 2, 3, 4] rfl⟩
   refine x_lem (fun aZ wZ => Fr 31 [(20, .pointer (some ⟨b1, 7, none⟩)), (15, .pointer (some ⟨b1, 6, none⟩)), (2, .pointer (some ⟨b3, 0, none⟩)), (1, .pointer (some ⟨b1, 0, none⟩))] aZ ∧ Mv [bx b1 [.int .i64 x.id, .int .i64 x.age, .int .i64 x.proc, .int .i64 x.began, .slice A11 N11 C11, .slice A21 N21 C21, .slice x_Ra x_Rn x_Rc, .slice x_Wa x_Wn x_Wc, .slice Q0 Q2 Q1, .int .i64 x.state] 35, ow 59 3 encR okR (.slice A21 N21 C21) (([] : List AnsD) ++ x.answers), ow 56 6 encK okK (.slice A11 N11 C11) (([] : List CallD) ++ x.calls), bx b3 [.int .i64 0, .int .i64 0, .int .i64 0, .int .i64 0, .slice none 0 0, .slice none 0 0, .slice none 0 0, .slice none 0 0, .slice none 0 0, .int .i64 0] 35] w28 [bx b1 [.int .i64 x.id, .int .i64 x.age, .int .i64 x.proc, .int .i64 x.began, .slice A11 N11 C11, .slice A21 N21 C21, .slice x_Ra x_Rn x_Rc, .slice x_Wa x_Wn x_Wc, .slice Q0 Q2 Q1, .int .i64 x.state] 35, ow 59 3 encR okR (.slice A21 N21 C21) (([] : List AnsD) ++ x.answers), ow 56 6 encK okK (.slice A11 N11 C11) (([] : List CallD) ++ x.calls), bx b3 [.int .i64 0, .int .i64 0, .int .i64 0, .int .i64 0, .slice none 0 0, .slice none 0 0, .slice none 0 0, .slice none 0 0, .slice none 0 0, .int .i64 0] 35] wZ) #[nF, yT, yT, nF, nF, nF, yT, yT, nF, nF, nF, nF, nF] 9 ?_ (fun G181 => ?_)
   · rintro a181 w181 ⟨F181, S181⟩
     obtain ⟨Q95, Q145, Q195⟩ := At.ownInv S181.at' ET_32.hk 1 rfl
     obtain ⟨Q96, Q146, Q196⟩ := At.ownInv S181.at' ET_31.hk 2 rfl
     refine d_all (rs := [0, 3, 5, 8]) rfl (by kernel_rfl) (by simp) (d_cons (i := 0) (listed' := #[yT, yT, yT, nF, nF, nF, yT, yT, nF, nF, nF, nF, nF]) rfl rfl ?_ (d_cons (i := 3) (listed' := #[nF, yT, yT, yT, nF, nF, yT, yT, nF, nF, nF, nF, nF]) rfl rfl ?_ (d_cons (i := 5) (listed' := #[nF, yT, yT, nF, nF, yT, yT, yT, nF, nF, nF, nF, nF]) rfl rfl ?_ (d_cons (i := 8) (listed' := #[nF, yT, yT, nF, nF, nF, yT, yT, yT, nF, nF, nF, nF]) rfl rfl ?_ d_nil))))
     · skip
       refine f_buildSl (ok := okS) (vs := []) F181 S181.at' (([] : List ByteArray)) ET_24 rfl rfl rfl rfl rfl rfl rfl rfl rfl (by simp) fun b182 _ w182 F183 S182 => ?_
       refine ⟨Sd.of (S181.trans S182) [] rfl, ?_⟩
       exact G159 _ _ ⟨b182, F183.cut rfl, (S181.trans S182).pick [0, 1, 2, 3, 4] rfl⟩
     · skip
       refine f_val (v := .slice x_Ra x_Rn x_Rc) F181 rfl rfl (r_loadB S181.at' 0 TI_24 rfl rfl (F181.ev 15 rfl) rfl rfl (fun _ => rfl) rfl) rfl fun _ F184 => ?_
       refine ⟨Sd.of S181 [] rfl, ?_⟩
       exact G164 _ _ ⟨F184.cut rfl, S181.pick [0, 1, 2, 3] rfl⟩
     · skip
       refine f_buildSl (ok := okS) (vs := []) F181 S181.at' (([] : List ByteArray)) ET_24 rfl rfl rfl rfl rfl rfl rfl rfl rfl (by simp) fun b185 _ w185 F186 S185 => ?_
       refine ⟨Sd.of (S181.trans S185) [] rfl, ?_⟩
       exact G170 _ _ ⟨b185, F186.cut rfl, (S181.trans S185).pick [0, 1, 2, 3, 4] rfl⟩
     · skip
       refine f_val (v := .slice x_Wa x_Wn x_Wc) F181 rfl rfl (r_loadB S181.at' 0 TI_24 rfl rfl (F181.ev 20 rfl) rfl rfl (fun _ => rfl) rfl) rfl fun _ F187 => ?_
       refine ⟨Sd.of S181 [] rfl, ?_⟩
       exact G175 _ _ ⟨F187.cut rfl, S181.pick [0, 1, 2, 3] rfl⟩
   refine g_take F25 rfl (i := 1) (listed' := #[nF, yT, nF, nF, nF, nF, nF, nF, nF, nF, nF, nF, nF]) rfl (by kernel_rfl) (by kernel_rfl) (by kernel_rfl) (fun _ _ _ h => h) (Sd.of (Mv.refl S28.at') [] rfl) rfl rfl rfl rfl (fun _ hz => (r_field FI_35_6 rfl (F25.ev 1 rfl) rfl)) fun _ F188 => ?_
   refine g_take F188 rfl (i := 2) (listed' := #[nF, yT, yT, nF, nF, nF, nF, nF, nF, nF, nF, nF, nF]) rfl (by kernel_rfl) (by kernel_rfl) (by kernel_rfl) (fun _ _ _ h => h) (Sd.of (Mv.refl S28.at') [] rfl) rfl rfl rfl rfl (fun _ hz => (r_field FI_33_0 rfl (F188.ev 14 rfl) rfl)) fun _ F189 => ?_
   refine g_take F189 rfl (i := 6) (listed' := #[nF, yT, yT, nF, nF, nF, yT, nF, nF, nF, nF, nF, nF]) rfl (by kernel_rfl) (by kernel_rfl) (by kernel_rfl) (fun _ _ _ h => h) (Sd.of (Mv.refl S28.at') [] rfl) rfl rfl rfl rfl (fun _ hz => (r_field FI_35_6 rfl (F189.ev 1 rfl) rfl)) fun _ F190 => ?_
   refine g_take F190 rfl (i := 7) (listed' := #[nF, yT, yT, nF, nF, nF, yT, yT, nF, nF, nF, nF, nF]) rfl (by kernel_rfl) (by kernel_rfl) (by kernel_rfl) (fun _ _ _ h => h) (Sd.of (Mv.refl S28.at') [] rfl) rfl rfl rfl rfl (fun _ hz => (r_field FI_33_1 rfl (F190.ev 19 rfl) rfl)) fun _ F191 => ?_
   exact G181 _ _ ⟨F191.cut rfl, (Mv.refl S28.at').pick [0, 1, 2, 3] rfl⟩
 · rintro a192 w192 ⟨b33, A36, N36, C36, b38, A41, N41, C41, F192, S192⟩
   obtain ⟨Q97, Q147, Q197⟩ := At.ownInv S192.at' ET_24.hk 4 rfl
   obtain ⟨Q98, Q148, Q198⟩ := At.ownInv S192.at' ET_24.hk 5 rfl
   refine x_normal (wp_seq (wp_region_lit (l_op (f_buildSl (ok := okI) (vs := []) F192 S192.at' (([] : List Int)) ET_27 rfl rfl rfl rfl rfl rfl rfl rfl rfl (by simp) fun b193 _ w193 F194 S193 => ?_))))
   refine l_op (f_val F194 rfl rfl (r_field FI_35_7 rfl (F194.ev 1 rfl) rfl) rfl fun _ F195 => ?_)
   refine l_op (f_val (v := .slice Q0 Q2 Q1) F195 rfl rfl (r_loadB S193.at' 1 TI_27 rfl rfl (F195.ev 26 rfl) rfl rfl (fun _ => rfl) rfl) rfl fun _ F196 => ?_)
   refine l_op (f_app (news := x.marks) F196 S193.at' 0 ET_27 rfl rfl rfl rfl rfl rfl (F196.ev 25 rfl) (F196.ev 27 rfl) ((Rd.mv (Nat.succ_pos _) Q32 (S1.trans (T6.trans (S7.trans (S11.trans (T16.trans (S17.trans (S21.trans (T26.trans (S192.trans S193))))))))))).1 (by ((repeat (first | rw [List.length_append] | rw [List.length_cons] | rw [List.length_nil] | rw [List.length_take] | rw [List.length_drop])) <;> omega)) fun A197 N197 C197 _ w197 F198 S197 l197 => ?_)
   refine l_op (f_val F198 rfl rfl (r_field FI_35_7 rfl (F198.ev 1 rfl) rfl) rfl fun _ F199 => ?_)
   refine l_op (s_store S197.at' 1 TI_27 rfl rfl rfl rfl rfl (F199.ev 29 rfl) (F199.ev 28 rfl) rfl rfl rfl rfl rfl fun w200 S200 => ?_)
   have F201 : Fr 31 [(29, .pointer (some ⟨b1, 8, none⟩)), (28, .slice A197 N197 C197), (1, .pointer (some ⟨b1, 0, none⟩)), (2, .pointer (some ⟨b3, 0, none⟩))] _ := F199.cut rfl
   clear F192 F194 F195 F196 F198 F199
   have T202 : Mv _ _ [bx b1 [.int .i64 x.id, .int .i64 x.age, .int .i64 x.proc, .int .i64 x.began, .slice A11 N11 C11, .slice A21 N21 C21, .slice A36 N36 C36, .slice A41 N41 C41, .slice A197 N197 C197, .int .i64 x.state] 35, ow 3 1 encI okI (.slice A197 N197 C197) (([] : List Int) ++ x.marks), ow 59 3 encR okR (.slice A21 N21 C21) (([] : List AnsD) ++ x.answers), ow 56 6 encK okK (.slice A11 N11 C11) (([] : List CallD) ++ x.calls), bx b3 [.int .i64 0, .int .i64 0, .int .i64 0, .int .i64 0, .slice none 0 0, .slice none 0 0, .slice none 0 0, .slice none 0 0, .slice none 0 0, .int .i64 0] 35, ow 9 1 encS okS (.slice A36 N36 C36) (([] : List ByteArray) ++ x.touch.reads), ow 9 1 encS okS (.slice A41 N41 C41) (([] : List ByteArray) ++ x.touch.writes)] _ := S200
   refine s_end (x_normal (wp_seq (wp_region_lit (l_op (f_val (v := .agg #[.int .i64 x.id, .int .i64 x.age, .int .i64 x.proc, .int .i64 x.began, .slice A11 N11 C11, .slice A21 N21 C21, .slice A36 N36 C36, .slice A41 N41 C41, .slice A197 N197 C197, .int .i64 x.state]) F201 rfl rfl (r_loadB T202.at' 0 TI_35 rfl rfl (F201.ev 1 rfl) rfl rfl (fun h => nomatch h) rfl) rfl fun _ F203 => ?_)))))
   refine l_op (s_store T202.at' 4 TI_35 rfl rfl rfl rfl rfl (F203.ev 2 rfl) (F203.ev 30 rfl) rfl rfl rfl rfl rfl fun w204 S204 => ?_)
   have F205 : Fr 31 [(30, .agg #[.int .i64 x.id, .int .i64 x.age, .int .i64 x.proc, .int .i64 x.began, .slice A11 N11 C11, .slice A21 N21 C21, .slice A36 N36 C36, .slice A41 N41 C41, .slice A197 N197 C197, .int .i64 x.state]), (2, .pointer (some ⟨b3, 0, none⟩))] _ := F203.cut rfl
   clear F201 F203
   have T206 : Mv _ _ [bx b3 [.int .i64 x.id, .int .i64 x.age, .int .i64 x.proc, .int .i64 x.began, .slice A11 N11 C11, .slice A21 N21 C21, .slice A36 N36 C36, .slice A41 N41 C41, .slice A197 N197 C197, .int .i64 x.state] 35, bx b1 [.int .i64 x.id, .int .i64 x.age, .int .i64 x.proc, .int .i64 x.began, .slice A11 N11 C11, .slice A21 N21 C21, .slice A36 N36 C36, .slice A41 N41 C41, .slice A197 N197 C197, .int .i64 x.state] 35, ow 3 1 encI okI (.slice A197 N197 C197) (([] : List Int) ++ x.marks), ow 59 3 encR okR (.slice A21 N21 C21) (([] : List AnsD) ++ x.answers), ow 56 6 encK okK (.slice A11 N11 C11) (([] : List CallD) ++ x.calls), ow 9 1 encS okS (.slice A36 N36 C36) (([] : List ByteArray) ++ x.touch.reads), ow 9 1 encS okS (.slice A41 N41 C41) (([] : List ByteArray) ++ x.touch.writes)] _ := S204
   refine s_end (x_normal (wp_ret ?_))
   refine x_done (v := .agg #[.int .i64 x.id, .int .i64 x.age, .int .i64 x.proc, .int .i64 x.began, .slice A11 N11 C11, .slice A21 N21 C21, .slice A36 N36 C36, .slice A41 N41 C41, .slice A197 N197 C197, .int .i64 x.state]) F205 (results_1 Try.results15 (.cell (F205.ev 2 rfl) (run_loadVar' TI_35 _ [.int .i64 x.id, .int .i64 x.age, .int .i64 x.proc, .int .i64 x.began, .slice A11 N11 C11, .slice A21 N21 C21, .slice A36 N36 C36, .slice A41 N41 C41, .slice A197 N197 C197, .int .i64 x.state] rfl (fun h => nomatch h) (At.cells T206.at' 0 rfl 0 [.int .i64 x.id, .int .i64 x.age, .int .i64 x.proc, .int .i64 x.began, .slice A11 N11 C11, .slice A21 N21 C21, .slice A36 N36 C36, .slice A41 N41 C41, .slice A197 N197 C197, .int .i64 x.state] rfl)))) ?_
   exact ⟨A11, N11, C11, A21, N21, C21, A36, N36, C36, A41, N41, C41, A197, N197, C197, rfl, (Mv.cast (Mv.pick (S1.trans (T6.trans (S7.trans (S11.trans (T16.trans (S17.trans (S21.trans (T26.trans (S192.trans (S193.trans (S197.trans (T202.trans T206)))))))))))) [4, 3, 5, 6, 2] rfl) (by rw [(show (([] : List CallD) ++ x.calls) = x.calls from by first | exact List.nil_append _ | simp), (show (([] : List AnsD) ++ x.answers) = x.answers from by first | exact List.nil_append _ | simp), (show (([] : List ByteArray) ++ x.touch.reads) = x.touch.reads from by first | exact List.nil_append _ | simp), (show (([] : List ByteArray) ++ x.touch.writes) = x.touch.writes from by first | exact List.nil_append _ | simp), (show (([] : List Int) ++ x.marks) = x.marks from by first | exact List.nil_append _ | simp)]; all_goals rfl))⟩
end Go.Proofs.Ytkebmooffbkpgaa
