/-
  Walks: a mark is set.
-/
import Derived.Test.YtgfilegkabbliaaGenXb
import Derived.Test.YtgfilegkabbliaaGenXc
namespace Go.Proofs.Ytgfilegkabbliaa
open Go.ChangeShapes Go.WideShapes Go.ChangeAt Go.RowKit
set_option maxRecDepth 100000
set_option maxHeartbeats 1000000
theorem spec_l17Copy_c {w : World} {H : Nat → Prop} {x : TxD} {Q6 : Option Addr} {Q8 Q7 : Nat} {Q3 : Option Addr} {Q5 Q4 : Nat} {x_Ra : Option Addr} {x_Rn x_Rc : Nat} {x_Wa : Option Addr} {x_Wn x_Wc : Nat} {Q0 : Option Addr} {Q2 Q1 : Nat} (Q36 : i64ok x.id) (Q34 : i64ok x.age) (Q37 : i64ok x.proc) (Q35 : i64ok x.began) (Q26 : Rd 6 encK okK H w (.slice Q6 Q8 Q7) x.calls) (Q25 : Rd 3 encR okR H w (.slice Q3 Q5 Q4) x.answers) (Q28 : Rd 1 encS okS H w (.slice x_Ra x_Rn x_Rc) x.touch.reads) (Q29 : Rd 1 encS okS H w (.slice x_Wa x_Wn x_Wc) x.touch.writes) (Q27 : Rd 1 encI okI H w (.slice Q0 Q2 Q1) x.marks) (Q38 : i64ok x.state) (p0 : x.calls.length ≤ 2097152) (p1 : x.answers.length ≤ 2097152) (p2 : x.touch.reads.length ≤ 2097152) (p3 : x.touch.writes.length ≤ 2097152) (p4 : x.marks.length ≤ 2097152) :
    Calls Try.prog 90 #[.agg #[.int .i64 x.id, .int .i64 x.age, .int .i64 x.proc, .int .i64 x.began, .slice Q6 Q8 Q7, .slice Q3 Q5 Q4, .slice x_Ra x_Rn x_Rc, .slice x_Wa x_Wn x_Wc, .slice Q0 Q2 Q1, .int .i64 x.state]] w fun e w' => ∃ (Q19 : Option Addr), ∃ (Q21 : Nat), ∃ (Q20 : Nat), ∃ (Q16 : Option Addr), ∃ (Q18 : Nat), ∃ (Q17 : Nat), ∃ (Q10 : Option Addr), ∃ (Q12 : Nat), ∃ (Q11 : Nat), ∃ (Q13 : Option Addr), ∃ (Q15 : Nat), ∃ (Q14 : Nat), ∃ (Q22 : Option Addr), ∃ (Q24 : Nat), ∃ (Q23 : Nat), e = .returned (.agg #[.int .i64 x.id, .int .i64 x.age, .int .i64 x.proc, .int .i64 x.began, .slice Q19 Q21 Q20, .slice Q16 Q18 Q17, .slice Q10 Q12 Q11, .slice Q13 Q15 Q14, .slice Q22 Q24 Q23, .int .i64 x.state]) ∧ Mv [] w [ow 148 6 encK okK (.slice Q19 Q21 Q20) x.calls, ow 151 3 encR okR (.slice Q16 Q18 Q17) x.answers, ow 9 1 encS okS (.slice Q10 Q12 Q11) x.touch.reads, ow 9 1 encS okS (.slice Q13 Q15 Q14) x.touch.writes, ow 3 1 encI okI (.slice Q22 Q24 Q23) x.marks] w' := by
 have uU : True := (fun _ _ _ _ _ _ _ _ _ _ => trivial) Q36 Q34 Q37 Q35 Q38 p0 p1 p2 p3 p4
 clear uU
 have Q31 : Rd 6 encK okK (V H w []) w (.slice Q6 Q8 Q7) x.calls := Rd.start Q26 (fun _ _ => fps_nil _)
 obtain ⟨Q45, Q40, Q200, Q205⟩ := Rd.inv Q26
 have Q30 : Rd 3 encR okR (V H w []) w (.slice Q3 Q5 Q4) x.answers := Rd.start Q25 (fun _ _ => fps_nil _)
 obtain ⟨Q44, Q39, Q199, Q204⟩ := Rd.inv Q25
 have Q9 : Rd 1 encS okS (V H w []) w (.slice x_Ra x_Rn x_Rc) x.touch.reads := Rd.start Q28 (fun _ _ => fps_nil _)
 obtain ⟨Q47, Q42, Q202, Q207⟩ := Rd.inv Q28
 have Q33 : Rd 1 encS okS (V H w []) w (.slice x_Wa x_Wn x_Wc) x.touch.writes := Rd.start Q29 (fun _ _ => fps_nil _)
 obtain ⟨Q48, Q43, Q203, Q208⟩ := Rd.inv Q29
 have Q32 : Rd 1 encI okI (V H w []) w (.slice Q0 Q2 Q1) x.marks := Rd.start Q27 (fun _ _ => fps_nil _)
 obtain ⟨Q46, Q41, Q201, Q206⟩ := Rd.inv Q27
 refine calls_enter 31 Try.func90 rfl Try.ntmps90 (Nat.le_of_ble_eq_true rfl) (fun _ F0i => ?_)
 have F0 : Fr 31 [(0, .agg #[.int .i64 x.id, .int .i64 x.age, .int .i64 x.proc, .int .i64 x.began, .slice Q6 Q8 Q7, .slice Q3 Q5 Q4, .slice x_Ra x_Rn x_Rc, .slice x_Wa x_Wn x_Wc, .slice Q0 Q2 Q1, .int .i64 x.state])] _ := F0i
 clear F0i
 refine wp_seq (wp_region_lit (l_op (f_box F0 (At.nil w) rfl rfl rfl (F0.ev 0 rfl) rfl rfl fun b1 _ w1 F2 S1 => ?_)))
 refine l_op (f_alloc F2 S1.at' ZI_71 rfl rfl rfl rfl rfl fun b3 _ w3 F4 S3 => ?_)
 refine s_end (x_normal (wp_seq (wp_region_lit (l_op (f_buildSl (ok := okK) (vs := []) F4 S3.at' (([] : List CallD)) ET_66 rfl rfl rfl rfl rfl rfl rfl rfl rfl (by simp) fun b5 _ w5 F6 S5 => ?_)))))
 refine l_op (f_val F6 rfl rfl (r_field FI_71_4 rfl (F6.ev 1 rfl) rfl) rfl fun _ F7 => ?_)
 refine l_op (f_val (v := .slice Q6 Q8 Q7) F7 rfl rfl (r_loadB S5.at' 2 TI_66 rfl rfl (F7.ev 4 rfl) rfl rfl (fun _ => rfl) rfl) rfl fun _ F8 => ?_)
 refine l_op (f_app (news := x.calls) F8 S5.at' 0 ET_66 rfl rfl rfl rfl rfl rfl (F8.ev 3 rfl) (F8.ev 5 rfl) ((Rd.mv (Nat.succ_pos _) Q31 (S1.trans (S3.trans S5)))).1 (by ((repeat (first | rw [List.length_append] | rw [List.length_cons] | rw [List.length_nil] | rw [List.length_take] | rw [List.length_drop])) <;> omega)) fun A9 N9 C9 _ w9 F10 S9 l9 => ?_)
 refine l_op (f_val F10 rfl rfl (r_field FI_71_4 rfl (F10.ev 1 rfl) rfl) rfl fun _ F11 => ?_)
 refine l_op (s_store S9.at' 2 TI_66 rfl rfl rfl rfl rfl (F11.ev 7 rfl) (F11.ev 6 rfl) rfl rfl rfl rfl rfl fun w12 S12 => ?_)
 have T13 : Mv _ _ [bx b1 [.int .i64 x.id, .int .i64 x.age, .int .i64 x.proc, .int .i64 x.began, .slice A9 N9 C9, .slice Q3 Q5 Q4, .slice x_Ra x_Rn x_Rc, .slice x_Wa x_Wn x_Wc, .slice Q0 Q2 Q1, .int .i64 x.state] 71, ow 148 6 encK okK (.slice A9 N9 C9) (([] : List CallD) ++ x.calls), bx b3 [.int .i64 0, .int .i64 0, .int .i64 0, .int .i64 0, .slice none 0 0, .slice none 0 0, .slice none 0 0, .slice none 0 0, .slice none 0 0, .int .i64 0] 71] _ := S12
 refine s_end (x_normal (wp_seq (wp_region_lit (l_op (f_buildSl (ok := okR) (vs := []) F11 T13.at' (([] : List AnsD)) ET_67 rfl rfl rfl rfl rfl rfl rfl rfl rfl (by simp) fun b14 _ w14 F15 S14 => ?_)))))
 refine l_op (f_val F15 rfl rfl (r_field FI_71_5 rfl (F15.ev 1 rfl) rfl) rfl fun _ F16 => ?_)
 refine l_op (f_val (v := .slice Q3 Q5 Q4) F16 rfl rfl (r_loadB S14.at' 1 TI_67 rfl rfl (F16.ev 9 rfl) rfl rfl (fun _ => rfl) rfl) rfl fun _ F17 => ?_)
 refine l_op (f_app (news := x.answers) F17 S14.at' 0 ET_67 rfl rfl rfl rfl rfl rfl (F17.ev 8 rfl) (F17.ev 10 rfl) ((Rd.mv (Nat.succ_pos _) Q30 (S1.trans (S3.trans (S5.trans (S9.trans (T13.trans S14))))))).1 (by ((repeat (first | rw [List.length_append] | rw [List.length_cons] | rw [List.length_nil] | rw [List.length_take] | rw [List.length_drop])) <;> omega)) fun A18 N18 C18 _ w18 F19 S18 l18 => ?_)
 refine l_op (f_val F19 rfl rfl (r_field FI_71_5 rfl (F19.ev 1 rfl) rfl) rfl fun _ F20 => ?_)
 refine l_op (s_store S18.at' 1 TI_67 rfl rfl rfl rfl rfl (F20.ev 12 rfl) (F20.ev 11 rfl) rfl rfl rfl rfl rfl fun w21 S21 => ?_)
 refine s_end (x_normal (wp_seq ?_))
 refine x_draw (fun aZ wZ => ∃ (b28 : Nat), ∃ (A31 : Option Addr), ∃ (N31 : Nat), ∃ (C31 : Nat), ∃ (b33 : Nat), ∃ (A36 : Option Addr), ∃ (N36 : Nat), ∃ (C36 : Nat), Fr 31 [(1, .pointer (some ⟨b1, 0, none⟩)), (2, .pointer (some ⟨b3, 0, none⟩))] aZ ∧ Mv [bx b1 [.int .i64 x.id, .int .i64 x.age, .int .i64 x.proc, .int .i64 x.began, .slice A9 N9 C9, .slice A18 N18 C18, .slice x_Ra x_Rn x_Rc, .slice x_Wa x_Wn x_Wc, .slice Q0 Q2 Q1, .int .i64 x.state] 71, ow 151 3 encR okR (.slice A18 N18 C18) (([] : List AnsD) ++ x.answers), ow 148 6 encK okK (.slice A9 N9 C9) (([] : List CallD) ++ x.calls), bx b3 [.int .i64 0, .int .i64 0, .int .i64 0, .int .i64 0, .slice none 0 0, .slice none 0 0, .slice none 0 0, .slice none 0 0, .slice none 0 0, .int .i64 0] 71] w21 [bx b1 [.int .i64 x.id, .int .i64 x.age, .int .i64 x.proc, .int .i64 x.began, .slice A9 N9 C9, .slice A18 N18 C18, .slice A31 N31 C31, .slice A36 N36 C36, .slice Q0 Q2 Q1, .int .i64 x.state] 71, ow 151 3 encR okR (.slice A18 N18 C18) (([] : List AnsD) ++ x.answers), ow 148 6 encK okK (.slice A9 N9 C9) (([] : List CallD) ++ x.calls), bx b3 [.int .i64 0, .int .i64 0, .int .i64 0, .int .i64 0, .slice none 0 0, .slice none 0 0, .slice none 0 0, .slice none 0 0, .slice none 0 0, .int .i64 0] 71, ow 9 1 encS okS (.slice A31 N31 C31) (([] : List ByteArray) ++ x.touch.reads), ow 9 1 encS okS (.slice A36 N36 C36) (([] : List ByteArray) ++ x.touch.writes)] wZ) [] mixed S21.at' (listed := #[false, false, false, false, false, false, false, false, false, false, false, false, false]) rfl (fun w23 S23 => ?_) [] rfl ?_
 · skip
   refine x_lem (fun aZ wZ => ∃ (b28 : Nat), ∃ (A31 : Option Addr), ∃ (N31 : Nat), ∃ (C31 : Nat), ∃ (b33 : Nat), ∃ (A36 : Option Addr), ∃ (N36 : Nat), ∃ (C36 : Nat), Fr 31 [(24, .pointer (some ⟨b1, 6, none⟩)), (23, .agg #[.slice A31 N31 C31, .slice A36 N36 C36]), (2, .pointer (some ⟨b3, 0, none⟩)), (1, .pointer (some ⟨b1, 0, none⟩))] aZ ∧ Mv [bx b1 [.int .i64 x.id, .int .i64 x.age, .int .i64 x.proc, .int .i64 x.began, .slice A9 N9 C9, .slice A18 N18 C18, .slice x_Ra x_Rn x_Rc, .slice x_Wa x_Wn x_Wc, .slice Q0 Q2 Q1, .int .i64 x.state] 71, ow 151 3 encR okR (.slice A18 N18 C18) (([] : List AnsD) ++ x.answers), ow 148 6 encK okK (.slice A9 N9 C9) (([] : List CallD) ++ x.calls), bx b3 [.int .i64 0, .int .i64 0, .int .i64 0, .int .i64 0, .slice none 0 0, .slice none 0 0, .slice none 0 0, .slice none 0 0, .slice none 0 0, .int .i64 0] 71] w23 [ow 9 1 encS okS (.slice A36 N36 C36) (([] : List ByteArray) ++ x.touch.writes), ow 9 1 encS okS (.slice A31 N31 C31) (([] : List ByteArray) ++ x.touch.reads), bx b1 [.int .i64 x.id, .int .i64 x.age, .int .i64 x.proc, .int .i64 x.began, .slice A9 N9 C9, .slice A18 N18 C18, .slice x_Ra x_Rn x_Rc, .slice x_Wa x_Wn x_Wc, .slice Q0 Q2 Q1, .int .i64 x.state] 71, ow 151 3 encR okR (.slice A18 N18 C18) (([] : List AnsD) ++ x.answers), ow 148 6 encK okK (.slice A9 N9 C9) (([] : List CallD) ++ x.calls), bx b3 [.int .i64 0, .int .i64 0, .int .i64 0, .int .i64 0, .slice none 0 0, .slice none 0 0, .slice none 0 0, .slice none 0 0, .slice none 0 0, .int .i64 0] 71] wZ) #[yT, yT, yT, yT, yT, yT, yT, yT, yT, yT, yT, yT, nF] 1 ?_ (fun G95 => ?_)
   · rintro a95 w95 ⟨b28, A31, N31, C31, b33, A36, N36, C36, F95, S95⟩
     obtain ⟨Q92, Q142, Q192⟩ := At.ownInv S95.at' ET_62.hk 0 rfl
     obtain ⟨Q93, Q143, Q193⟩ := At.ownInv S95.at' ET_62.hk 1 rfl
     obtain ⟨Q94, Q144, Q194⟩ := At.ownInv S95.at' ET_67.hk 3 rfl
     obtain ⟨Q95, Q145, Q195⟩ := At.ownInv S95.at' ET_66.hk 4 rfl
     refine d_one (i := 12) (listed' := #[yT, yT, yT, yT, yT, yT, yT, yT, yT, yT, yT, yT, yT]) rfl (by kernel_rfl) rfl rfl ?_
     refine s_store S95.at' 2 TI_69 rfl rfl rfl rfl rfl (F95.ev 24 rfl) (F95.ev 23 rfl) rfl rfl rfl rfl rfl fun w96 S96 => ?_
     refine ⟨Sd.of (S95.trans S96) [] rfl, ?_⟩
     refine wpAnyH_done (by kernel_rfl) (x_normal ?_) _
     exact ⟨b28, A31, N31, C31, b33, A36, N36, C36, F95.cut rfl, ((S23.trans (S95.trans S96)).pick [0, 3, 4, 5, 2, 1] rfl)⟩
   refine x_lem (fun aZ wZ => ∃ (b28 : Nat), ∃ (A31 : Option Addr), ∃ (N31 : Nat), ∃ (C31 : Nat), ∃ (b33 : Nat), Fr 31 [(21, .slice x_Wa x_Wn x_Wc), (18, .slice (some ⟨b33, 0, none⟩) 0 0), (17, .slice A31 N31 C31), (2, .pointer (some ⟨b3, 0, none⟩)), (1, .pointer (some ⟨b1, 0, none⟩))] aZ ∧ Mv [bx b1 [.int .i64 x.id, .int .i64 x.age, .int .i64 x.proc, .int .i64 x.began, .slice A9 N9 C9, .slice A18 N18 C18, .slice x_Ra x_Rn x_Rc, .slice x_Wa x_Wn x_Wc, .slice Q0 Q2 Q1, .int .i64 x.state] 71, ow 151 3 encR okR (.slice A18 N18 C18) (([] : List AnsD) ++ x.answers), ow 148 6 encK okK (.slice A9 N9 C9) (([] : List CallD) ++ x.calls), bx b3 [.int .i64 0, .int .i64 0, .int .i64 0, .int .i64 0, .slice none 0 0, .slice none 0 0, .slice none 0 0, .slice none 0 0, .slice none 0 0, .int .i64 0] 71] w23 [ow 9 1 encS okS (.slice (some ⟨b33, 0, none⟩) 0 0) ([] : List ByteArray), ow 9 1 encS okS (.slice A31 N31 C31) (([] : List ByteArray) ++ x.touch.reads), bx b1 [.int .i64 x.id, .int .i64 x.age, .int .i64 x.proc, .int .i64 x.began, .slice A9 N9 C9, .slice A18 N18 C18, .slice x_Ra x_Rn x_Rc, .slice x_Wa x_Wn x_Wc, .slice Q0 Q2 Q1, .int .i64 x.state] 71, ow 151 3 encR okR (.slice A18 N18 C18) (([] : List AnsD) ++ x.answers), ow 148 6 encK okK (.slice A9 N9 C9) (([] : List CallD) ++ x.calls), bx b3 [.int .i64 0, .int .i64 0, .int .i64 0, .int .i64 0, .slice none 0 0, .slice none 0 0, .slice none 0 0, .slice none 0 0, .slice none 0 0, .int .i64 0] 71] wZ) #[yT, yT, yT, yT, yT, yT, yT, yT, yT, nF, nF, nF, nF] 4 ?_ (fun G97 => ?_)
   · rintro a97 w97 ⟨b28, A31, N31, C31, b33, F97, S97⟩
     obtain ⟨Q96, Q146, Q196⟩ := At.ownInv S97.at' ET_62.hk 1 rfl
     obtain ⟨Q97, Q147, Q197⟩ := At.ownInv S97.at' ET_67.hk 3 rfl
     obtain ⟨Q98, Q148, Q198⟩ := At.ownInv S97.at' ET_66.hk 4 rfl
     refine d_one (i := 9) (listed' := #[yT, yT, yT, yT, yT, yT, yT, yT, yT, yT, nF, nF, nF]) rfl (by kernel_rfl) rfl rfl ?_
     refine f_app (news := x.touch.writes) F97 S97.at' 0 ET_62 rfl rfl rfl rfl rfl rfl (F97.ev 18 rfl) (F97.ev 21 rfl) ((Rd.mv (Nat.succ_pos _) Q33 (S1.trans (S3.trans (S5.trans (S9.trans (T13.trans (S14.trans (S18.trans (S21.trans (S23.trans S97))))))))))).1 (by ((repeat (first | rw [List.length_append] | rw [List.length_cons] | rw [List.length_nil] | rw [List.length_take] | rw [List.length_drop])) <;> omega)) fun A98 N98 C98 _ w98 F99 S98 l98 => ?_
     refine ⟨Sd.of (S97.trans S98) [] rfl, ?_⟩
     refine g_take (v := .agg #[.slice A31 N31 C31, .slice A98 N98 C98]) F99 rfl (i := 10) (listed' := #[yT, yT, yT, yT, yT, yT, yT, yT, yT, yT, yT, nF, nF]) rfl (by kernel_rfl) (by kernel_rfl) (by kernel_rfl) (fun _ _ _ h => h) (Sd.of (S97.trans S98) [] rfl) rfl rfl rfl rfl (fun _ hz => (r_build BI_69 rfl (lc (pr2 (F99.ev 17 rfl)) (lc (pr2 (F99.ev 22 rfl)) rfl)) rfl)) fun _ F100 => ?_
     refine g_take F100 rfl (i := 11) (listed' := #[yT, yT, yT, yT, yT, yT, yT, yT, yT, yT, yT, yT, nF]) rfl (by kernel_rfl) (by kernel_rfl) (by kernel_rfl) (fun _ _ _ h => h) (Sd.of (S97.trans S98) [] rfl) rfl rfl rfl rfl (fun _ hz => (r_field FI_71_6 rfl (F100.ev 1 rfl) rfl)) fun _ F101 => ?_
     exact G95 _ _ ⟨b28, A31, N31, C31, b33, A98, N98, C98, F101.cut rfl, (S97.trans S98).pick [0, 1, 2, 3, 4, 5] rfl⟩
   refine x_lem (fun aZ wZ => ∃ (b28 : Nat), ∃ (A31 : Option Addr), ∃ (N31 : Nat), ∃ (C31 : Nat), ∃ (b33 : Nat), Fr 31 [(18, .slice (some ⟨b33, 0, none⟩) 0 0), (17, .slice A31 N31 C31), (20, .pointer (some ⟨b1, 7, none⟩)), (2, .pointer (some ⟨b3, 0, none⟩)), (1, .pointer (some ⟨b1, 0, none⟩))] aZ ∧ Mv [bx b1 [.int .i64 x.id, .int .i64 x.age, .int .i64 x.proc, .int .i64 x.began, .slice A9 N9 C9, .slice A18 N18 C18, .slice x_Ra x_Rn x_Rc, .slice x_Wa x_Wn x_Wc, .slice Q0 Q2 Q1, .int .i64 x.state] 71, ow 151 3 encR okR (.slice A18 N18 C18) (([] : List AnsD) ++ x.answers), ow 148 6 encK okK (.slice A9 N9 C9) (([] : List CallD) ++ x.calls), bx b3 [.int .i64 0, .int .i64 0, .int .i64 0, .int .i64 0, .slice none 0 0, .slice none 0 0, .slice none 0 0, .slice none 0 0, .slice none 0 0, .int .i64 0] 71] w23 [ow 9 1 encS okS (.slice (some ⟨b33, 0, none⟩) 0 0) ([] : List ByteArray), ow 9 1 encS okS (.slice A31 N31 C31) (([] : List ByteArray) ++ x.touch.reads), bx b1 [.int .i64 x.id, .int .i64 x.age, .int .i64 x.proc, .int .i64 x.began, .slice A9 N9 C9, .slice A18 N18 C18, .slice x_Ra x_Rn x_Rc, .slice x_Wa x_Wn x_Wc, .slice Q0 Q2 Q1, .int .i64 x.state] 71, ow 151 3 encR okR (.slice A18 N18 C18) (([] : List AnsD) ++ x.answers), ow 148 6 encK okK (.slice A9 N9 C9) (([] : List CallD) ++ x.calls), bx b3 [.int .i64 0, .int .i64 0, .int .i64 0, .int .i64 0, .slice none 0 0, .slice none 0 0, .slice none 0 0, .slice none 0 0, .slice none 0 0, .int .i64 0] 71] wZ) #[yT, yT, yT, yT, yT, yT, yT, yT, nF, nF, nF, nF, nF] 5 ?_ (fun G102 => ?_)
   · rintro a102 w102 ⟨b28, A31, N31, C31, b33, F102, S102⟩
     obtain ⟨Q49, Q99, Q149⟩ := At.ownInv S102.at' ET_62.hk 1 rfl
     obtain ⟨Q50, Q100, Q150⟩ := At.ownInv S102.at' ET_67.hk 3 rfl
     obtain ⟨Q51, Q101, Q151⟩ := At.ownInv S102.at' ET_66.hk 4 rfl
     refine d_one (i := 8) (listed' := #[yT, yT, yT, yT, yT, yT, yT, yT, yT, nF, nF, nF, nF]) rfl (by kernel_rfl) rfl rfl ?_
     refine f_val (v := .slice x_Wa x_Wn x_Wc) F102 rfl rfl (r_loadB S102.at' 2 TI_62 rfl rfl (F102.ev 20 rfl) rfl rfl (fun _ => rfl) rfl) rfl fun _ F103 => ?_
     refine ⟨Sd.of S102 [] rfl, ?_⟩
     exact G97 _ _ ⟨b28, A31, N31, C31, b33, F103.cut rfl, S102.pick [0, 1, 2, 3, 4, 5] rfl⟩
   refine x_lem (fun aZ wZ => ∃ (b28 : Nat), ∃ (A31 : Option Addr), ∃ (N31 : Nat), ∃ (C31 : Nat), Fr 31 [(21, .slice x_Wa x_Wn x_Wc), (17, .slice A31 N31 C31), (2, .pointer (some ⟨b3, 0, none⟩)), (1, .pointer (some ⟨b1, 0, none⟩))] aZ ∧ Mv [bx b1 [.int .i64 x.id, .int .i64 x.age, .int .i64 x.proc, .int .i64 x.began, .slice A9 N9 C9, .slice A18 N18 C18, .slice x_Ra x_Rn x_Rc, .slice x_Wa x_Wn x_Wc, .slice Q0 Q2 Q1, .int .i64 x.state] 71, ow 151 3 encR okR (.slice A18 N18 C18) (([] : List AnsD) ++ x.answers), ow 148 6 encK okK (.slice A9 N9 C9) (([] : List CallD) ++ x.calls), bx b3 [.int .i64 0, .int .i64 0, .int .i64 0, .int .i64 0, .slice none 0 0, .slice none 0 0, .slice none 0 0, .slice none 0 0, .slice none 0 0, .int .i64 0] 71] w23 [ow 9 1 encS okS (.slice A31 N31 C31) (([] : List ByteArray) ++ x.touch.reads), bx b1 [.int .i64 x.id, .int .i64 x.age, .int .i64 x.proc, .int .i64 x.began, .slice A9 N9 C9, .slice A18 N18 C18, .slice x_Ra x_Rn x_Rc, .slice x_Wa x_Wn x_Wc, .slice Q0 Q2 Q1, .int .i64 x.state] 71, ow 151 3 encR okR (.slice A18 N18 C18) (([] : List AnsD) ++ x.answers), ow 148 6 encK okK (.slice A9 N9 C9) (([] : List CallD) ++ x.calls), bx b3 [.int .i64 0, .int .i64 0, .int .i64 0, .int .i64 0, .slice none 0 0, .slice none 0 0, .slice none 0 0, .slice none 0 0, .slice none 0 0, .int .i64 0] 71] wZ) #[yT, yT, yT, yT, yT, nF, yT, yT, yT, nF, nF, nF, nF] 5 ?_ (fun G104 => ?_)
   · rintro a104 w104 ⟨b28, A31, N31, C31, F104, S104⟩
     obtain ⟨Q52, Q102, Q152⟩ := At.ownInv S104.at' ET_62.hk 0 rfl
     obtain ⟨Q53, Q103, Q153⟩ := At.ownInv S104.at' ET_67.hk 2 rfl
     obtain ⟨Q54, Q104, Q154⟩ := At.ownInv S104.at' ET_66.hk 3 rfl
     refine d_one (i := 5) (listed' := #[yT, yT, yT, yT, yT, yT, yT, yT, yT, nF, nF, nF, nF]) rfl (by kernel_rfl) rfl rfl ?_
     refine f_buildSl (ok := okS) (vs := []) F104 S104.at' (([] : List ByteArray)) ET_62 rfl rfl rfl rfl rfl rfl rfl rfl rfl (by simp) fun b105 _ w105 F106 S105 => ?_
     refine ⟨Sd.of (S104.trans S105) [] rfl, ?_⟩
     exact G97 _ _ ⟨b28, A31, N31, C31, b105, F106.cut rfl, (S104.trans S105).pick [0, 1, 2, 3, 4, 5] rfl⟩
   refine x_lem (fun aZ wZ => ∃ (b28 : Nat), ∃ (b44 : Nat), Fr 31 [(21, .slice x_Wa x_Wn x_Wc), (18, .slice (some ⟨b44, 0, none⟩) 0 0), (16, .slice x_Ra x_Rn x_Rc), (13, .slice (some ⟨b28, 0, none⟩) 0 0), (2, .pointer (some ⟨b3, 0, none⟩)), (1, .pointer (some ⟨b1, 0, none⟩))] aZ ∧ Mv [bx b1 [.int .i64 x.id, .int .i64 x.age, .int .i64 x.proc, .int .i64 x.began, .slice A9 N9 C9, .slice A18 N18 C18, .slice x_Ra x_Rn x_Rc, .slice x_Wa x_Wn x_Wc, .slice Q0 Q2 Q1, .int .i64 x.state] 71, ow 151 3 encR okR (.slice A18 N18 C18) (([] : List AnsD) ++ x.answers), ow 148 6 encK okK (.slice A9 N9 C9) (([] : List CallD) ++ x.calls), bx b3 [.int .i64 0, .int .i64 0, .int .i64 0, .int .i64 0, .slice none 0 0, .slice none 0 0, .slice none 0 0, .slice none 0 0, .slice none 0 0, .int .i64 0] 71] w23 [ow 9 1 encS okS (.slice (some ⟨b44, 0, none⟩) 0 0) ([] : List ByteArray), ow 9 1 encS okS (.slice (some ⟨b28, 0, none⟩) 0 0) ([] : List ByteArray), bx b1 [.int .i64 x.id, .int .i64 x.age, .int .i64 x.proc, .int .i64 x.began, .slice A9 N9 C9, .slice A18 N18 C18, .slice x_Ra x_Rn x_Rc, .slice x_Wa x_Wn x_Wc, .slice Q0 Q2 Q1, .int .i64 x.state] 71, ow 151 3 encR okR (.slice A18 N18 C18) (([] : List AnsD) ++ x.answers), ow 148 6 encK okK (.slice A9 N9 C9) (([] : List CallD) ++ x.calls), bx b3 [.int .i64 0, .int .i64 0, .int .i64 0, .int .i64 0, .slice none 0 0, .slice none 0 0, .slice none 0 0, .slice none 0 0, .slice none 0 0, .int .i64 0] 71] wZ) #[yT, yT, yT, yT, nF, yT, yT, yT, yT, nF, nF, nF, nF] 5 ?_ (fun G107 => ?_)
   · rintro a107 w107 ⟨b28, b44, F107, S107⟩
     obtain ⟨Q55, Q105, Q155⟩ := At.ownInv S107.at' ET_67.hk 3 rfl
     obtain ⟨Q56, Q106, Q156⟩ := At.ownInv S107.at' ET_66.hk 4 rfl
     refine d_one (i := 4) (listed' := #[yT, yT, yT, yT, yT, yT, yT, yT, yT, nF, nF, nF, nF]) rfl (by kernel_rfl) rfl rfl ?_
     refine f_app (news := x.touch.reads) F107 S107.at' 1 ET_62 rfl rfl rfl rfl rfl rfl (F107.ev 13 rfl) (F107.ev 16 rfl) ((Rd.mv (Nat.succ_pos _) Q9 (S1.trans (S3.trans (S5.trans (S9.trans (T13.trans (S14.trans (S18.trans (S21.trans (S23.trans S107))))))))))).1 (by ((repeat (first | rw [List.length_append] | rw [List.length_cons] | rw [List.length_nil] | rw [List.length_take] | rw [List.length_drop])) <;> omega)) fun A108 N108 C108 _ w108 F109 S108 l108 => ?_
     refine ⟨Sd.of (S107.trans S108) [] rfl, ?_⟩
     exact G97 _ _ ⟨b28, A108, N108, C108, b44, F109.cut rfl, (S107.trans S108).pick [1, 0, 2, 3, 4, 5] rfl⟩
   refine x_lem (fun aZ wZ => ∃ (b28 : Nat), ∃ (A31 : Option Addr), ∃ (N31 : Nat), ∃ (C31 : Nat), Fr 31 [(17, .slice A31 N31 C31), (20, .pointer (some ⟨b1, 7, none⟩)), (2, .pointer (some ⟨b3, 0, none⟩)), (1, .pointer (some ⟨b1, 0, none⟩))] aZ ∧ Mv [bx b1 [.int .i64 x.id, .int .i64 x.age, .int .i64 x.proc, .int .i64 x.began, .slice A9 N9 C9, .slice A18 N18 C18, .slice x_Ra x_Rn x_Rc, .slice x_Wa x_Wn x_Wc, .slice Q0 Q2 Q1, .int .i64 x.state] 71, ow 151 3 encR okR (.slice A18 N18 C18) (([] : List AnsD) ++ x.answers), ow 148 6 encK okK (.slice A9 N9 C9) (([] : List CallD) ++ x.calls), bx b3 [.int .i64 0, .int .i64 0, .int .i64 0, .int .i64 0, .slice none 0 0, .slice none 0 0, .slice none 0 0, .slice none 0 0, .slice none 0 0, .int .i64 0] 71] w23 [ow 9 1 encS okS (.slice A31 N31 C31) (([] : List ByteArray) ++ x.touch.reads), bx b1 [.int .i64 x.id, .int .i64 x.age, .int .i64 x.proc, .int .i64 x.began, .slice A9 N9 C9, .slice A18 N18 C18, .slice x_Ra x_Rn x_Rc, .slice x_Wa x_Wn x_Wc, .slice Q0 Q2 Q1, .int .i64 x.state] 71, ow 151 3 encR okR (.slice A18 N18 C18) (([] : List AnsD) ++ x.answers), ow 148 6 encK okK (.slice A9 N9 C9) (([] : List CallD) ++ x.calls), bx b3 [.int .i64 0, .int .i64 0, .int .i64 0, .int .i64 0, .slice none 0 0, .slice none 0 0, .slice none 0 0, .slice none 0 0, .slice none 0 0, .int .i64 0] 71] wZ) #[yT, yT, yT, yT, yT, nF, yT, yT, nF, nF, nF, nF, nF] 6 ?_ (fun G110 => ?_)
   · rintro a110 w110 ⟨b28, A31, N31, C31, F110, S110⟩
     obtain ⟨Q57, Q107, Q157⟩ := At.ownInv S110.at' ET_62.hk 0 rfl
     obtain ⟨Q58, Q108, Q158⟩ := At.ownInv S110.at' ET_67.hk 2 rfl
     obtain ⟨Q59, Q109, Q159⟩ := At.ownInv S110.at' ET_66.hk 3 rfl
     refine d_all (rs := [5, 8]) rfl (by kernel_rfl) (by simp) (d_cons (i := 5) (listed' := #[yT, yT, yT, yT, yT, yT, yT, yT, nF, nF, nF, nF, nF]) rfl rfl ?_ (d_cons (i := 8) (listed' := #[yT, yT, yT, yT, yT, nF, yT, yT, yT, nF, nF, nF, nF]) rfl rfl ?_ d_nil))
     · skip
       refine f_buildSl (ok := okS) (vs := []) F110 S110.at' (([] : List ByteArray)) ET_62 rfl rfl rfl rfl rfl rfl rfl rfl rfl (by simp) fun b111 _ w111 F112 S111 => ?_
       refine ⟨Sd.of (S110.trans S111) [] rfl, ?_⟩
       exact G102 _ _ ⟨b28, A31, N31, C31, b111, F112.cut rfl, (S110.trans S111).pick [0, 1, 2, 3, 4, 5] rfl⟩
     · skip
       refine f_val (v := .slice x_Wa x_Wn x_Wc) F110 rfl rfl (r_loadB S110.at' 1 TI_62 rfl rfl (F110.ev 20 rfl) rfl rfl (fun _ => rfl) rfl) rfl fun _ F113 => ?_
       refine ⟨Sd.of S110 [] rfl, ?_⟩
       exact G104 _ _ ⟨b28, A31, N31, C31, F113.cut rfl, S110.pick [0, 1, 2, 3, 4] rfl⟩
   refine x_lem (fun aZ wZ => ∃ (b28 : Nat), ∃ (b44 : Nat), Fr 31 [(18, .slice (some ⟨b44, 0, none⟩) 0 0), (16, .slice x_Ra x_Rn x_Rc), (13, .slice (some ⟨b28, 0, none⟩) 0 0), (20, .pointer (some ⟨b1, 7, none⟩)), (2, .pointer (some ⟨b3, 0, none⟩)), (1, .pointer (some ⟨b1, 0, none⟩))] aZ ∧ Mv [bx b1 [.int .i64 x.id, .int .i64 x.age, .int .i64 x.proc, .int .i64 x.began, .slice A9 N9 C9, .slice A18 N18 C18, .slice x_Ra x_Rn x_Rc, .slice x_Wa x_Wn x_Wc, .slice Q0 Q2 Q1, .int .i64 x.state] 71, ow 151 3 encR okR (.slice A18 N18 C18) (([] : List AnsD) ++ x.answers), ow 148 6 encK okK (.slice A9 N9 C9) (([] : List CallD) ++ x.calls), bx b3 [.int .i64 0, .int .i64 0, .int .i64 0, .int .i64 0, .slice none 0 0, .slice none 0 0, .slice none 0 0, .slice none 0 0, .slice none 0 0, .int .i64 0] 71] w23 [ow 9 1 encS okS (.slice (some ⟨b44, 0, none⟩) 0 0) ([] : List ByteArray), ow 9 1 encS okS (.slice (some ⟨b28, 0, none⟩) 0 0) ([] : List ByteArray), bx b1 [.int .i64 x.id, .int .i64 x.age, .int .i64 x.proc, .int .i64 x.began, .slice A9 N9 C9, .slice A18 N18 C18, .slice x_Ra x_Rn x_Rc, .slice x_Wa x_Wn x_Wc, .slice Q0 Q2 Q1, .int .i64 x.state] 71, ow 151 3 encR okR (.slice A18 N18 C18) (([] : List AnsD) ++ x.answers), ow 148 6 encK okK (.slice A9 N9 C9) (([] : List CallD) ++ x.calls), bx b3 [.int .i64 0, .int .i64 0, .int .i64 0, .int .i64 0, .slice none 0 0, .slice none 0 0, .slice none 0 0, .slice none 0 0, .slice none 0 0, .int .i64 0] 71] wZ) #[yT, yT, yT, yT, nF, yT, yT, yT, nF, nF, nF, nF, nF] 6 ?_ (fun G114 => ?_)
   · rintro a114 w114 ⟨b28, b44, F114, S114⟩
     obtain ⟨Q60, Q110, Q160⟩ := At.ownInv S114.at' ET_67.hk 3 rfl
     obtain ⟨Q61, Q111, Q161⟩ := At.ownInv S114.at' ET_66.hk 4 rfl
     refine d_all (rs := [4, 8]) rfl (by kernel_rfl) (by simp) (d_cons (i := 4) (listed' := #[yT, yT, yT, yT, yT, yT, yT, yT, nF, nF, nF, nF, nF]) rfl rfl ?_ (d_cons (i := 8) (listed' := #[yT, yT, yT, yT, nF, yT, yT, yT, yT, nF, nF, nF, nF]) rfl rfl ?_ d_nil))
     · skip
       refine f_app (news := x.touch.reads) F114 S114.at' 1 ET_62 rfl rfl rfl rfl rfl rfl (F114.ev 13 rfl) (F114.ev 16 rfl) ((Rd.mv (Nat.succ_pos _) Q9 (S1.trans (S3.trans (S5.trans (S9.trans (T13.trans (S14.trans (S18.trans (S21.trans (S23.trans S114))))))))))).1 (by ((repeat (first | rw [List.length_append] | rw [List.length_cons] | rw [List.length_nil] | rw [List.length_take] | rw [List.length_drop])) <;> omega)) fun A115 N115 C115 _ w115 F116 S115 l115 => ?_
       refine ⟨Sd.of (S114.trans S115) [] rfl, ?_⟩
       exact G102 _ _ ⟨b28, A115, N115, C115, b44, F116.cut rfl, (S114.trans S115).pick [1, 0, 2, 3, 4, 5] rfl⟩
     · skip
       refine f_val (v := .slice x_Wa x_Wn x_Wc) F114 rfl rfl (r_loadB S114.at' 2 TI_62 rfl rfl (F114.ev 20 rfl) rfl rfl (fun _ => rfl) rfl) rfl fun _ F117 => ?_
       refine ⟨Sd.of S114 [] rfl, ?_⟩
       exact G107 _ _ ⟨b28, b44, F117.cut rfl, S114.pick [0, 1, 2, 3, 4, 5] rfl⟩
   refine x_lem (fun aZ wZ => ∃ (b28 : Nat), Fr 31 [(21, .slice x_Wa x_Wn x_Wc), (16, .slice x_Ra x_Rn x_Rc), (13, .slice (some ⟨b28, 0, none⟩) 0 0), (2, .pointer (some ⟨b3, 0, none⟩)), (1, .pointer (some ⟨b1, 0, none⟩))] aZ ∧ Mv [bx b1 [.int .i64 x.id, .int .i64 x.age, .int .i64 x.proc, .int .i64 x.began, .slice A9 N9 C9, .slice A18 N18 C18, .slice x_Ra x_Rn x_Rc, .slice x_Wa x_Wn x_Wc, .slice Q0 Q2 Q1, .int .i64 x.state] 71, ow 151 3 encR okR (.slice A18 N18 C18) (([] : List AnsD) ++ x.answers), ow 148 6 encK okK (.slice A9 N9 C9) (([] : List CallD) ++ x.calls), bx b3 [.int .i64 0, .int .i64 0, .int .i64 0, .int .i64 0, .slice none 0 0, .slice none 0 0, .slice none 0 0, .slice none 0 0, .slice none 0 0, .int .i64 0] 71] w23 [ow 9 1 encS okS (.slice (some ⟨b28, 0, none⟩) 0 0) ([] : List ByteArray), bx b1 [.int .i64 x.id, .int .i64 x.age, .int .i64 x.proc, .int .i64 x.began, .slice A9 N9 C9, .slice A18 N18 C18, .slice x_Ra x_Rn x_Rc, .slice x_Wa x_Wn x_Wc, .slice Q0 Q2 Q1, .int .i64 x.state] 71, ow 151 3 encR okR (.slice A18 N18 C18) (([] : List AnsD) ++ x.answers), ow 148 6 encK okK (.slice A9 N9 C9) (([] : List CallD) ++ x.calls), bx b3 [.int .i64 0, .int .i64 0, .int .i64 0, .int .i64 0, .slice none 0 0, .slice none 0 0, .slice none 0 0, .slice none 0 0, .slice none 0 0, .int .i64 0] 71] wZ) #[yT, yT, yT, yT, nF, nF, yT, yT, yT, nF, nF, nF, nF] 6 ?_ (fun G118 => ?_)
   · rintro a118 w118 ⟨b28, F118, S118⟩
     obtain ⟨Q62, Q112, Q162⟩ := At.ownInv S118.at' ET_67.hk 2 rfl
     obtain ⟨Q63, Q113, Q163⟩ := At.ownInv S118.at' ET_66.hk 3 rfl
     refine d_all (rs := [4, 5]) rfl (by kernel_rfl) (by simp) (d_cons (i := 4) (listed' := #[yT, yT, yT, yT, yT, nF, yT, yT, yT, nF, nF, nF, nF]) rfl rfl ?_ (d_cons (i := 5) (listed' := #[yT, yT, yT, yT, nF, yT, yT, yT, yT, nF, nF, nF, nF]) rfl rfl ?_ d_nil))
     · skip
       refine f_app (news := x.touch.reads) F118 S118.at' 0 ET_62 rfl rfl rfl rfl rfl rfl (F118.ev 13 rfl) (F118.ev 16 rfl) ((Rd.mv (Nat.succ_pos _) Q9 (S1.trans (S3.trans (S5.trans (S9.trans (T13.trans (S14.trans (S18.trans (S21.trans (S23.trans S118))))))))))).1 (by ((repeat (first | rw [List.length_append] | rw [List.length_cons] | rw [List.length_nil] | rw [List.length_take] | rw [List.length_drop])) <;> omega)) fun A119 N119 C119 _ w119 F120 S119 l119 => ?_
       refine ⟨Sd.of (S118.trans S119) [] rfl, ?_⟩
       exact G104 _ _ ⟨b28, A119, N119, C119, F120.cut rfl, (S118.trans S119).pick [0, 1, 2, 3, 4] rfl⟩
     · skip
       refine f_buildSl (ok := okS) (vs := []) F118 S118.at' (([] : List ByteArray)) ET_62 rfl rfl rfl rfl rfl rfl rfl rfl rfl (by simp) fun b121 _ w121 F122 S121 => ?_
       refine ⟨Sd.of (S118.trans S121) [] rfl, ?_⟩
       exact G107 _ _ ⟨b28, b121, F122.cut rfl, (S118.trans S121).pick [0, 1, 2, 3, 4, 5] rfl⟩
   refine x_lem (fun aZ wZ => ∃ (b28 : Nat), ∃ (b56 : Nat), Fr 31 [(21, .slice x_Wa x_Wn x_Wc), (18, .slice (some ⟨b56, 0, none⟩) 0 0), (13, .slice (some ⟨b28, 0, none⟩) 0 0), (15, .pointer (some ⟨b1, 6, none⟩)), (2, .pointer (some ⟨b3, 0, none⟩)), (1, .pointer (some ⟨b1, 0, none⟩))] aZ ∧ Mv [bx b1 [.int .i64 x.id, .int .i64 x.age, .int .i64 x.proc, .int .i64 x.began, .slice A9 N9 C9, .slice A18 N18 C18, .slice x_Ra x_Rn x_Rc, .slice x_Wa x_Wn x_Wc, .slice Q0 Q2 Q1, .int .i64 x.state] 71, ow 151 3 encR okR (.slice A18 N18 C18) (([] : List AnsD) ++ x.answers), ow 148 6 encK okK (.slice A9 N9 C9) (([] : List CallD) ++ x.calls), bx b3 [.int .i64 0, .int .i64 0, .int .i64 0, .int .i64 0, .slice none 0 0, .slice none 0 0, .slice none 0 0, .slice none 0 0, .slice none 0 0, .int .i64 0] 71] w23 [ow 9 1 encS okS (.slice (some ⟨b56, 0, none⟩) 0 0) ([] : List ByteArray), ow 9 1 encS okS (.slice (some ⟨b28, 0, none⟩) 0 0) ([] : List ByteArray), bx b1 [.int .i64 x.id, .int .i64 x.age, .int .i64 x.proc, .int .i64 x.began, .slice A9 N9 C9, .slice A18 N18 C18, .slice x_Ra x_Rn x_Rc, .slice x_Wa x_Wn x_Wc, .slice Q0 Q2 Q1, .int .i64 x.state] 71, ow 151 3 encR okR (.slice A18 N18 C18) (([] : List AnsD) ++ x.answers), ow 148 6 encK okK (.slice A9 N9 C9) (([] : List CallD) ++ x.calls), bx b3 [.int .i64 0, .int .i64 0, .int .i64 0, .int .i64 0, .slice none 0 0, .slice none 0 0, .slice none 0 0, .slice none 0 0, .slice none 0 0, .int .i64 0] 71] wZ) #[yT, yT, yT, nF, nF, yT, yT, yT, yT, nF, nF, nF, nF] 6 ?_ (fun G123 => ?_)
   · rintro a123 w123 ⟨b28, b56, F123, S123⟩
     obtain ⟨Q64, Q114, Q164⟩ := At.ownInv S123.at' ET_67.hk 3 rfl
     obtain ⟨Q65, Q115, Q165⟩ := At.ownInv S123.at' ET_66.hk 4 rfl
     refine d_one (i := 3) (listed' := #[yT, yT, yT, yT, nF, yT, yT, yT, yT, nF, nF, nF, nF]) rfl (by kernel_rfl) rfl rfl ?_
     refine f_val (v := .slice x_Ra x_Rn x_Rc) F123 rfl rfl (r_loadB S123.at' 2 TI_62 rfl rfl (F123.ev 15 rfl) rfl rfl (fun _ => rfl) rfl) rfl fun _ F124 => ?_
     refine ⟨Sd.of S123 [] rfl, ?_⟩
     exact G107 _ _ ⟨b28, b56, F124.cut rfl, S123.pick [0, 1, 2, 3, 4, 5] rfl⟩
   refine x_lem (fun aZ wZ => ∃ (b68 : Nat), Fr 31 [(21, .slice x_Wa x_Wn x_Wc), (18, .slice (some ⟨b68, 0, none⟩) 0 0), (16, .slice x_Ra x_Rn x_Rc), (2, .pointer (some ⟨b3, 0, none⟩)), (1, .pointer (some ⟨b1, 0, none⟩))] aZ ∧ Mv [bx b1 [.int .i64 x.id, .int .i64 x.age, .int .i64 x.proc, .int .i64 x.began, .slice A9 N9 C9, .slice A18 N18 C18, .slice x_Ra x_Rn x_Rc, .slice x_Wa x_Wn x_Wc, .slice Q0 Q2 Q1, .int .i64 x.state] 71, ow 151 3 encR okR (.slice A18 N18 C18) (([] : List AnsD) ++ x.answers), ow 148 6 encK okK (.slice A9 N9 C9) (([] : List CallD) ++ x.calls), bx b3 [.int .i64 0, .int .i64 0, .int .i64 0, .int .i64 0, .slice none 0 0, .slice none 0 0, .slice none 0 0, .slice none 0 0, .slice none 0 0, .int .i64 0] 71] w23 [ow 9 1 encS okS (.slice (some ⟨b68, 0, none⟩) 0 0) ([] : List ByteArray), bx b1 [.int .i64 x.id, .int .i64 x.age, .int .i64 x.proc, .int .i64 x.began, .slice A9 N9 C9, .slice A18 N18 C18, .slice x_Ra x_Rn x_Rc, .slice x_Wa x_Wn x_Wc, .slice Q0 Q2 Q1, .int .i64 x.state] 71, ow 151 3 encR okR (.slice A18 N18 C18) (([] : List AnsD) ++ x.answers), ow 148 6 encK okK (.slice A9 N9 C9) (([] : List CallD) ++ x.calls), bx b3 [.int .i64 0, .int .i64 0, .int .i64 0, .int .i64 0, .slice none 0 0, .slice none 0 0, .slice none 0 0, .slice none 0 0, .slice none 0 0, .int .i64 0] 71] wZ) #[nF, yT, yT, yT, nF, yT, yT, yT, yT, nF, nF, nF, nF] 6 ?_ (fun G125 => ?_)
   · rintro a125 w125 ⟨b68, F125, S125⟩
     obtain ⟨Q66, Q116, Q166⟩ := At.ownInv S125.at' ET_67.hk 2 rfl
     obtain ⟨Q67, Q117, Q167⟩ := At.ownInv S125.at' ET_66.hk 3 rfl
     refine d_one (i := 0) (listed' := #[yT, yT, yT, yT, nF, yT, yT, yT, yT, nF, nF, nF, nF]) rfl (by kernel_rfl) rfl rfl ?_
     refine f_buildSl (ok := okS) (vs := []) F125 S125.at' (([] : List ByteArray)) ET_62 rfl rfl rfl rfl rfl rfl rfl rfl rfl (by simp) fun b126 _ w126 F127 S126 => ?_
     refine ⟨Sd.of (S125.trans S126) [] rfl, ?_⟩
     exact G107 _ _ ⟨b126, b68, F127.cut rfl, (S125.trans S126).pick [1, 0, 2, 3, 4, 5] rfl⟩
   refine x_lem (fun aZ wZ => ∃ (b28 : Nat), Fr 31 [(16, .slice x_Ra x_Rn x_Rc), (13, .slice (some ⟨b28, 0, none⟩) 0 0), (20, .pointer (some ⟨b1, 7, none⟩)), (2, .pointer (some ⟨b3, 0, none⟩)), (1, .pointer (some ⟨b1, 0, none⟩))] aZ ∧ Mv [bx b1 [.int .i64 x.id, .int .i64 x.age, .int .i64 x.proc, .int .i64 x.began, .slice A9 N9 C9, .slice A18 N18 C18, .slice x_Ra x_Rn x_Rc, .slice x_Wa x_Wn x_Wc, .slice Q0 Q2 Q1, .int .i64 x.state] 71, ow 151 3 encR okR (.slice A18 N18 C18) (([] : List AnsD) ++ x.answers), ow 148 6 encK okK (.slice A9 N9 C9) (([] : List CallD) ++ x.calls), bx b3 [.int .i64 0, .int .i64 0, .int .i64 0, .int .i64 0, .slice none 0 0, .slice none 0 0, .slice none 0 0, .slice none 0 0, .slice none 0 0, .int .i64 0] 71] w23 [ow 9 1 encS okS (.slice (some ⟨b28, 0, none⟩) 0 0) ([] : List ByteArray), bx b1 [.int .i64 x.id, .int .i64 x.age, .int .i64 x.proc, .int .i64 x.began, .slice A9 N9 C9, .slice A18 N18 C18, .slice x_Ra x_Rn x_Rc, .slice x_Wa x_Wn x_Wc, .slice Q0 Q2 Q1, .int .i64 x.state] 71, ow 151 3 encR okR (.slice A18 N18 C18) (([] : List AnsD) ++ x.answers), ow 148 6 encK okK (.slice A9 N9 C9) (([] : List CallD) ++ x.calls), bx b3 [.int .i64 0, .int .i64 0, .int .i64 0, .int .i64 0, .slice none 0 0, .slice none 0 0, .slice none 0 0, .slice none 0 0, .slice none 0 0, .int .i64 0] 71] wZ) #[yT, yT, yT, yT, nF, nF, yT, yT, nF, nF, nF, nF, nF] 7 ?_ (fun G128 => ?_)
   · rintro a128 w128 ⟨b28, F128, S128⟩
     obtain ⟨Q68, Q118, Q168⟩ := At.ownInv S128.at' ET_67.hk 2 rfl
     obtain ⟨Q69, Q119, Q169⟩ := At.ownInv S128.at' ET_66.hk 3 rfl
     refine d_all (rs := [4, 5, 8]) rfl (by kernel_rfl) (by simp) (d_cons (i := 4) (listed' := #[yT, yT, yT, yT, yT, nF, yT, yT, nF, nF, nF, nF, nF]) rfl rfl ?_ (d_cons (i := 5) (listed' := #[yT, yT, yT, yT, nF, yT, yT, yT, nF, nF, nF, nF, nF]) rfl rfl ?_ (d_cons (i := 8) (listed' := #[yT, yT, yT, yT, nF, nF, yT, yT, yT, nF, nF, nF, nF]) rfl rfl ?_ d_nil)))
     · skip
       refine f_app (news := x.touch.reads) F128 S128.at' 0 ET_62 rfl rfl rfl rfl rfl rfl (F128.ev 13 rfl) (F128.ev 16 rfl) ((Rd.mv (Nat.succ_pos _) Q9 (S1.trans (S3.trans (S5.trans (S9.trans (T13.trans (S14.trans (S18.trans (S21.trans (S23.trans S128))))))))))).1 (by ((repeat (first | rw [List.length_append] | rw [List.length_cons] | rw [List.length_nil] | rw [List.length_take] | rw [List.length_drop])) <;> omega)) fun A129 N129 C129 _ w129 F130 S129 l129 => ?_
       refine ⟨Sd.of (S128.trans S129) [] rfl, ?_⟩
       exact G110 _ _ ⟨b28, A129, N129, C129, F130.cut rfl, (S128.trans S129).pick [0, 1, 2, 3, 4] rfl⟩
     · skip
       refine f_buildSl (ok := okS) (vs := []) F128 S128.at' (([] : List ByteArray)) ET_62 rfl rfl rfl rfl rfl rfl rfl rfl rfl (by simp) fun b131 _ w131 F132 S131 => ?_
       refine ⟨Sd.of (S128.trans S131) [] rfl, ?_⟩
       exact G114 _ _ ⟨b28, b131, F132.cut rfl, (S128.trans S131).pick [0, 1, 2, 3, 4, 5] rfl⟩
     · skip
       refine f_val (v := .slice x_Wa x_Wn x_Wc) F128 rfl rfl (r_loadB S128.at' 1 TI_62 rfl rfl (F128.ev 20 rfl) rfl rfl (fun _ => rfl) rfl) rfl fun _ F133 => ?_
       refine ⟨Sd.of S128 [] rfl, ?_⟩
       exact G118 _ _ ⟨b28, F133.cut rfl, S128.pick [0, 1, 2, 3, 4] rfl⟩
   refine x_lem (fun aZ wZ => ∃ (b28 : Nat), ∃ (b56 : Nat), Fr 31 [(18, .slice (some ⟨b56, 0, none⟩) 0 0), (13, .slice (some ⟨b28, 0, none⟩) 0 0), (20, .pointer (some ⟨b1, 7, none⟩)), (15, .pointer (some ⟨b1, 6, none⟩)), (2, .pointer (some ⟨b3, 0, none⟩)), (1, .pointer (some ⟨b1, 0, none⟩))] aZ ∧ Mv [bx b1 [.int .i64 x.id, .int .i64 x.age, .int .i64 x.proc, .int .i64 x.began, .slice A9 N9 C9, .slice A18 N18 C18, .slice x_Ra x_Rn x_Rc, .slice x_Wa x_Wn x_Wc, .slice Q0 Q2 Q1, .int .i64 x.state] 71, ow 151 3 encR okR (.slice A18 N18 C18) (([] : List AnsD) ++ x.answers), ow 148 6 encK okK (.slice A9 N9 C9) (([] : List CallD) ++ x.calls), bx b3 [.int .i64 0, .int .i64 0, .int .i64 0, .int .i64 0, .slice none 0 0, .slice none 0 0, .slice none 0 0, .slice none 0 0, .slice none 0 0, .int .i64 0] 71] w23 [ow 9 1 encS okS (.slice (some ⟨b56, 0, none⟩) 0 0) ([] : List ByteArray), ow 9 1 encS okS (.slice (some ⟨b28, 0, none⟩) 0 0) ([] : List ByteArray), bx b1 [.int .i64 x.id, .int .i64 x.age, .int .i64 x.proc, .int .i64 x.began, .slice A9 N9 C9, .slice A18 N18 C18, .slice x_Ra x_Rn x_Rc, .slice x_Wa x_Wn x_Wc, .slice Q0 Q2 Q1, .int .i64 x.state] 71, ow 151 3 encR okR (.slice A18 N18 C18) (([] : List AnsD) ++ x.answers), ow 148 6 encK okK (.slice A9 N9 C9) (([] : List CallD) ++ x.calls), bx b3 [.int .i64 0, .int .i64 0, .int .i64 0, .int .i64 0, .slice none 0 0, .slice none 0 0, .slice none 0 0, .slice none 0 0, .slice none 0 0, .int .i64 0] 71] wZ) #[yT, yT, yT, nF, nF, yT, yT, yT, nF, nF, nF, nF, nF] 7 ?_ (fun G134 => ?_)
   · rintro a134 w134 ⟨b28, b56, F134, S134⟩
     obtain ⟨Q70, Q120, Q170⟩ := At.ownInv S134.at' ET_67.hk 3 rfl
     obtain ⟨Q71, Q121, Q171⟩ := At.ownInv S134.at' ET_66.hk 4 rfl
     refine d_all (rs := [3, 8]) rfl (by kernel_rfl) (by simp) (d_cons (i := 3) (listed' := #[yT, yT, yT, yT, nF, yT, yT, yT, nF, nF, nF, nF, nF]) rfl rfl ?_ (d_cons (i := 8) (listed' := #[yT, yT, yT, nF, nF, yT, yT, yT, yT, nF, nF, nF, nF]) rfl rfl ?_ d_nil))
     · skip
       refine f_val (v := .slice x_Ra x_Rn x_Rc) F134 rfl rfl (r_loadB S134.at' 2 TI_62 rfl rfl (F134.ev 15 rfl) rfl rfl (fun _ => rfl) rfl) rfl fun _ F135 => ?_
       refine ⟨Sd.of S134 [] rfl, ?_⟩
       exact G114 _ _ ⟨b28, b56, F135.cut rfl, S134.pick [0, 1, 2, 3, 4, 5] rfl⟩
     · skip
       refine f_val (v := .slice x_Wa x_Wn x_Wc) F134 rfl rfl (r_loadB S134.at' 2 TI_62 rfl rfl (F134.ev 20 rfl) rfl rfl (fun _ => rfl) rfl) rfl fun _ F136 => ?_
       refine ⟨Sd.of S134 [] rfl, ?_⟩
       exact G123 _ _ ⟨b28, b56, F136.cut rfl, S134.pick [0, 1, 2, 3, 4, 5] rfl⟩
   refine x_lem (fun aZ wZ => ∃ (b28 : Nat), Fr 31 [(21, .slice x_Wa x_Wn x_Wc), (13, .slice (some ⟨b28, 0, none⟩) 0 0), (15, .pointer (some ⟨b1, 6, none⟩)), (2, .pointer (some ⟨b3, 0, none⟩)), (1, .pointer (some ⟨b1, 0, none⟩))] aZ ∧ Mv [bx b1 [.int .i64 x.id, .int .i64 x.age, .int .i64 x.proc, .int .i64 x.began, .slice A9 N9 C9, .slice A18 N18 C18, .slice x_Ra x_Rn x_Rc, .slice x_Wa x_Wn x_Wc, .slice Q0 Q2 Q1, .int .i64 x.state] 71, ow 151 3 encR okR (.slice A18 N18 C18) (([] : List AnsD) ++ x.answers), ow 148 6 encK okK (.slice A9 N9 C9) (([] : List CallD) ++ x.calls), bx b3 [.int .i64 0, .int .i64 0, .int .i64 0, .int .i64 0, .slice none 0 0, .slice none 0 0, .slice none 0 0, .slice none 0 0, .slice none 0 0, .int .i64 0] 71] w23 [ow 9 1 encS okS (.slice (some ⟨b28, 0, none⟩) 0 0) ([] : List ByteArray), bx b1 [.int .i64 x.id, .int .i64 x.age, .int .i64 x.proc, .int .i64 x.began, .slice A9 N9 C9, .slice A18 N18 C18, .slice x_Ra x_Rn x_Rc, .slice x_Wa x_Wn x_Wc, .slice Q0 Q2 Q1, .int .i64 x.state] 71, ow 151 3 encR okR (.slice A18 N18 C18) (([] : List AnsD) ++ x.answers), ow 148 6 encK okK (.slice A9 N9 C9) (([] : List CallD) ++ x.calls), bx b3 [.int .i64 0, .int .i64 0, .int .i64 0, .int .i64 0, .slice none 0 0, .slice none 0 0, .slice none 0 0, .slice none 0 0, .slice none 0 0, .int .i64 0] 71] wZ) #[yT, yT, yT, nF, nF, nF, yT, yT, yT, nF, nF, nF, nF] 7 ?_ (fun G137 => ?_)
   · rintro a137 w137 ⟨b28, F137, S137⟩
     obtain ⟨Q72, Q122, Q172⟩ := At.ownInv S137.at' ET_67.hk 2 rfl
     obtain ⟨Q73, Q123, Q173⟩ := At.ownInv S137.at' ET_66.hk 3 rfl
     refine d_all (rs := [3, 5]) rfl (by kernel_rfl) (by simp) (d_cons (i := 3) (listed' := #[yT, yT, yT, yT, nF, nF, yT, yT, yT, nF, nF, nF, nF]) rfl rfl ?_ (d_cons (i := 5) (listed' := #[yT, yT, yT, nF, nF, yT, yT, yT, yT, nF, nF, nF, nF]) rfl rfl ?_ d_nil))
     · skip
       refine f_val (v := .slice x_Ra x_Rn x_Rc) F137 rfl rfl (r_loadB S137.at' 1 TI_62 rfl rfl (F137.ev 15 rfl) rfl rfl (fun _ => rfl) rfl) rfl fun _ F138 => ?_
       refine ⟨Sd.of S137 [] rfl, ?_⟩
       exact G118 _ _ ⟨b28, F138.cut rfl, S137.pick [0, 1, 2, 3, 4] rfl⟩
     · skip
       refine f_buildSl (ok := okS) (vs := []) F137 S137.at' (([] : List ByteArray)) ET_62 rfl rfl rfl rfl rfl rfl rfl rfl rfl (by simp) fun b139 _ w139 F140 S139 => ?_
       refine ⟨Sd.of (S137.trans S139) [] rfl, ?_⟩
       exact G123 _ _ ⟨b28, b139, F140.cut rfl, (S137.trans S139).pick [0, 1, 2, 3, 4, 5] rfl⟩
   refine x_lem (fun aZ wZ => ∃ (b68 : Nat), Fr 31 [(18, .slice (some ⟨b68, 0, none⟩) 0 0), (16, .slice x_Ra x_Rn x_Rc), (20, .pointer (some ⟨b1, 7, none⟩)), (2, .pointer (some ⟨b3, 0, none⟩)), (1, .pointer (some ⟨b1, 0, none⟩))] aZ ∧ Mv [bx b1 [.int .i64 x.id, .int .i64 x.age, .int .i64 x.proc, .int .i64 x.began, .slice A9 N9 C9, .slice A18 N18 C18, .slice x_Ra x_Rn x_Rc, .slice x_Wa x_Wn x_Wc, .slice Q0 Q2 Q1, .int .i64 x.state] 71, ow 151 3 encR okR (.slice A18 N18 C18) (([] : List AnsD) ++ x.answers), ow 148 6 encK okK (.slice A9 N9 C9) (([] : List CallD) ++ x.calls), bx b3 [.int .i64 0, .int .i64 0, .int .i64 0, .int .i64 0, .slice none 0 0, .slice none 0 0, .slice none 0 0, .slice none 0 0, .slice none 0 0, .int .i64 0] 71] w23 [ow 9 1 encS okS (.slice (some ⟨b68, 0, none⟩) 0 0) ([] : List ByteArray), bx b1 [.int .i64 x.id, .int .i64 x.age, .int .i64 x.proc, .int .i64 x.began, .slice A9 N9 C9, .slice A18 N18 C18, .slice x_Ra x_Rn x_Rc, .slice x_Wa x_Wn x_Wc, .slice Q0 Q2 Q1, .int .i64 x.state] 71, ow 151 3 encR okR (.slice A18 N18 C18) (([] : List AnsD) ++ x.answers), ow 148 6 encK okK (.slice A9 N9 C9) (([] : List CallD) ++ x.calls), bx b3 [.int .i64 0, .int .i64 0, .int .i64 0, .int .i64 0, .slice none 0 0, .slice none 0 0, .slice none 0 0, .slice none 0 0, .slice none 0 0, .int .i64 0] 71] wZ) #[nF, yT, yT, yT, nF, yT, yT, yT, nF, nF, nF, nF, nF] 7 ?_ (fun G141 => ?_)
   · rintro a141 w141 ⟨b68, F141, S141⟩
     obtain ⟨Q74, Q124, Q174⟩ := At.ownInv S141.at' ET_67.hk 2 rfl
     obtain ⟨Q75, Q125, Q175⟩ := At.ownInv S141.at' ET_66.hk 3 rfl
     refine d_all (rs := [0, 8]) rfl (by kernel_rfl) (by simp) (d_cons (i := 0) (listed' := #[yT, yT, yT, yT, nF, yT, yT, yT, nF, nF, nF, nF, nF]) rfl rfl ?_ (d_cons (i := 8) (listed' := #[nF, yT, yT, yT, nF, yT, yT, yT, yT, nF, nF, nF, nF]) rfl rfl ?_ d_nil))
     · skip
       refine f_buildSl (ok := okS) (vs := []) F141 S141.at' (([] : List ByteArray)) ET_62 rfl rfl rfl rfl rfl rfl rfl rfl rfl (by simp) fun b142 _ w142 F143 S142 => ?_
       refine ⟨Sd.of (S141.trans S142) [] rfl, ?_⟩
       exact G114 _ _ ⟨b142, b68, F143.cut rfl, (S141.trans S142).pick [1, 0, 2, 3, 4, 5] rfl⟩
     · skip
       refine f_val (v := .slice x_Wa x_Wn x_Wc) F141 rfl rfl (r_loadB S141.at' 1 TI_62 rfl rfl (F141.ev 20 rfl) rfl rfl (fun _ => rfl) rfl) rfl fun _ F144 => ?_
       refine ⟨Sd.of S141 [] rfl, ?_⟩
       exact G125 _ _ ⟨b68, F144.cut rfl, S141.pick [0, 1, 2, 3, 4] rfl⟩
   refine x_lem (fun aZ wZ => Fr 31 [(21, .slice x_Wa x_Wn x_Wc), (16, .slice x_Ra x_Rn x_Rc), (2, .pointer (some ⟨b3, 0, none⟩)), (1, .pointer (some ⟨b1, 0, none⟩))] aZ ∧ Mv [bx b1 [.int .i64 x.id, .int .i64 x.age, .int .i64 x.proc, .int .i64 x.began, .slice A9 N9 C9, .slice A18 N18 C18, .slice x_Ra x_Rn x_Rc, .slice x_Wa x_Wn x_Wc, .slice Q0 Q2 Q1, .int .i64 x.state] 71, ow 151 3 encR okR (.slice A18 N18 C18) (([] : List AnsD) ++ x.answers), ow 148 6 encK okK (.slice A9 N9 C9) (([] : List CallD) ++ x.calls), bx b3 [.int .i64 0, .int .i64 0, .int .i64 0, .int .i64 0, .slice none 0 0, .slice none 0 0, .slice none 0 0, .slice none 0 0, .slice none 0 0, .int .i64 0] 71] w23 [bx b1 [.int .i64 x.id, .int .i64 x.age, .int .i64 x.proc, .int .i64 x.began, .slice A9 N9 C9, .slice A18 N18 C18, .slice x_Ra x_Rn x_Rc, .slice x_Wa x_Wn x_Wc, .slice Q0 Q2 Q1, .int .i64 x.state] 71, ow 151 3 encR okR (.slice A18 N18 C18) (([] : List AnsD) ++ x.answers), ow 148 6 encK okK (.slice A9 N9 C9) (([] : List CallD) ++ x.calls), bx b3 [.int .i64 0, .int .i64 0, .int .i64 0, .int .i64 0, .slice none 0 0, .slice none 0 0, .slice none 0 0, .slice none 0 0, .slice none 0 0, .int .i64 0] 71] wZ) #[nF, yT, yT, yT, nF, nF, yT, yT, yT, nF, nF, nF, nF] 7 ?_ (fun G145 => ?_)
   · rintro a145 w145 ⟨F145, S145⟩
     obtain ⟨Q76, Q126, Q176⟩ := At.ownInv S145.at' ET_67.hk 1 rfl
     obtain ⟨Q77, Q127, Q177⟩ := At.ownInv S145.at' ET_66.hk 2 rfl
     refine d_all (rs := [0, 5]) rfl (by kernel_rfl) (by simp) (d_cons (i := 0) (listed' := #[yT, yT, yT, yT, nF, nF, yT, yT, yT, nF, nF, nF, nF]) rfl rfl ?_ (d_cons (i := 5) (listed' := #[nF, yT, yT, yT, nF, yT, yT, yT, yT, nF, nF, nF, nF]) rfl rfl ?_ d_nil))
     · skip
       refine f_buildSl (ok := okS) (vs := []) F145 S145.at' (([] : List ByteArray)) ET_62 rfl rfl rfl rfl rfl rfl rfl rfl rfl (by simp) fun b146 _ w146 F147 S146 => ?_
       refine ⟨Sd.of (S145.trans S146) [] rfl, ?_⟩
       exact G118 _ _ ⟨b146, F147.cut rfl, (S145.trans S146).pick [0, 1, 2, 3, 4] rfl⟩
     · skip
       refine f_buildSl (ok := okS) (vs := []) F145 S145.at' (([] : List ByteArray)) ET_62 rfl rfl rfl rfl rfl rfl rfl rfl rfl (by simp) fun b148 _ w148 F149 S148 => ?_
       refine ⟨Sd.of (S145.trans S148) [] rfl, ?_⟩
       exact G125 _ _ ⟨b148, F149.cut rfl, (S145.trans S148).pick [0, 1, 2, 3, 4] rfl⟩
   refine x_lem (fun aZ wZ => ∃ (b80 : Nat), Fr 31 [(21, .slice x_Wa x_Wn x_Wc), (18, .slice (some ⟨b80, 0, none⟩) 0 0), (15, .pointer (some ⟨b1, 6, none⟩)), (2, .pointer (some ⟨b3, 0, none⟩)), (1, .pointer (some ⟨b1, 0, none⟩))] aZ ∧ Mv [bx b1 [.int .i64 x.id, .int .i64 x.age, .int .i64 x.proc, .int .i64 x.began, .slice A9 N9 C9, .slice A18 N18 C18, .slice x_Ra x_Rn x_Rc, .slice x_Wa x_Wn x_Wc, .slice Q0 Q2 Q1, .int .i64 x.state] 71, ow 151 3 encR okR (.slice A18 N18 C18) (([] : List AnsD) ++ x.answers), ow 148 6 encK okK (.slice A9 N9 C9) (([] : List CallD) ++ x.calls), bx b3 [.int .i64 0, .int .i64 0, .int .i64 0, .int .i64 0, .slice none 0 0, .slice none 0 0, .slice none 0 0, .slice none 0 0, .slice none 0 0, .int .i64 0] 71] w23 [ow 9 1 encS okS (.slice (some ⟨b80, 0, none⟩) 0 0) ([] : List ByteArray), bx b1 [.int .i64 x.id, .int .i64 x.age, .int .i64 x.proc, .int .i64 x.began, .slice A9 N9 C9, .slice A18 N18 C18, .slice x_Ra x_Rn x_Rc, .slice x_Wa x_Wn x_Wc, .slice Q0 Q2 Q1, .int .i64 x.state] 71, ow 151 3 encR okR (.slice A18 N18 C18) (([] : List AnsD) ++ x.answers), ow 148 6 encK okK (.slice A9 N9 C9) (([] : List CallD) ++ x.calls), bx b3 [.int .i64 0, .int .i64 0, .int .i64 0, .int .i64 0, .slice none 0 0, .slice none 0 0, .slice none 0 0, .slice none 0 0, .slice none 0 0, .int .i64 0] 71] wZ) #[nF, yT, yT, nF, nF, yT, yT, yT, yT, nF, nF, nF, nF] 7 ?_ (fun G150 => ?_)
   · rintro a150 w150 ⟨b80, F150, S150⟩
     obtain ⟨Q78, Q128, Q178⟩ := At.ownInv S150.at' ET_67.hk 2 rfl
     obtain ⟨Q79, Q129, Q179⟩ := At.ownInv S150.at' ET_66.hk 3 rfl
     refine d_all (rs := [0, 3]) rfl (by kernel_rfl) (by simp) (d_cons (i := 0) (listed' := #[yT, yT, yT, nF, nF, yT, yT, yT, yT, nF, nF, nF, nF]) rfl rfl ?_ (d_cons (i := 3) (listed' := #[nF, yT, yT, yT, nF, yT, yT, yT, yT, nF, nF, nF, nF]) rfl rfl ?_ d_nil))
     · skip
       refine f_buildSl (ok := okS) (vs := []) F150 S150.at' (([] : List ByteArray)) ET_62 rfl rfl rfl rfl rfl rfl rfl rfl rfl (by simp) fun b151 _ w151 F152 S151 => ?_
       refine ⟨Sd.of (S150.trans S151) [] rfl, ?_⟩
       exact G123 _ _ ⟨b151, b80, F152.cut rfl, (S150.trans S151).pick [1, 0, 2, 3, 4, 5] rfl⟩
     · skip
       refine f_val (v := .slice x_Ra x_Rn x_Rc) F150 rfl rfl (r_loadB S150.at' 1 TI_62 rfl rfl (F150.ev 15 rfl) rfl rfl (fun _ => rfl) rfl) rfl fun _ F153 => ?_
       refine ⟨Sd.of S150 [] rfl, ?_⟩
       exact G125 _ _ ⟨b80, F153.cut rfl, S150.pick [0, 1, 2, 3, 4] rfl⟩
   refine x_lem (fun aZ wZ => ∃ (b28 : Nat), Fr 31 [(13, .slice (some ⟨b28, 0, none⟩) 0 0), (20, .pointer (some ⟨b1, 7, none⟩)), (15, .pointer (some ⟨b1, 6, none⟩)), (2, .pointer (some ⟨b3, 0, none⟩)), (1, .pointer (some ⟨b1, 0, none⟩))] aZ ∧ Mv [bx b1 [.int .i64 x.id, .int .i64 x.age, .int .i64 x.proc, .int .i64 x.began, .slice A9 N9 C9, .slice A18 N18 C18, .slice x_Ra x_Rn x_Rc, .slice x_Wa x_Wn x_Wc, .slice Q0 Q2 Q1, .int .i64 x.state] 71, ow 151 3 encR okR (.slice A18 N18 C18) (([] : List AnsD) ++ x.answers), ow 148 6 encK okK (.slice A9 N9 C9) (([] : List CallD) ++ x.calls), bx b3 [.int .i64 0, .int .i64 0, .int .i64 0, .int .i64 0, .slice none 0 0, .slice none 0 0, .slice none 0 0, .slice none 0 0, .slice none 0 0, .int .i64 0] 71] w23 [ow 9 1 encS okS (.slice (some ⟨b28, 0, none⟩) 0 0) ([] : List ByteArray), bx b1 [.int .i64 x.id, .int .i64 x.age, .int .i64 x.proc, .int .i64 x.began, .slice A9 N9 C9, .slice A18 N18 C18, .slice x_Ra x_Rn x_Rc, .slice x_Wa x_Wn x_Wc, .slice Q0 Q2 Q1, .int .i64 x.state] 71, ow 151 3 encR okR (.slice A18 N18 C18) (([] : List AnsD) ++ x.answers), ow 148 6 encK okK (.slice A9 N9 C9) (([] : List CallD) ++ x.calls), bx b3 [.int .i64 0, .int .i64 0, .int .i64 0, .int .i64 0, .slice none 0 0, .slice none 0 0, .slice none 0 0, .slice none 0 0, .slice none 0 0, .int .i64 0] 71] wZ) #[yT, yT, yT, nF, nF, nF, yT, yT, nF, nF, nF, nF, nF] 8 ?_ (fun G154 => ?_)
   · rintro a154 w154 ⟨b28, F154, S154⟩
     obtain ⟨Q80, Q130, Q180⟩ := At.ownInv S154.at' ET_67.hk 2 rfl
     obtain ⟨Q81, Q131, Q181⟩ := At.ownInv S154.at' ET_66.hk 3 rfl
     refine d_all (rs := [3, 5, 8]) rfl (by kernel_rfl) (by simp) (d_cons (i := 3) (listed' := #[yT, yT, yT, yT, nF, nF, yT, yT, nF, nF, nF, nF, nF]) rfl rfl ?_ (d_cons (i := 5) (listed' := #[yT, yT, yT, nF, nF, yT, yT, yT, nF, nF, nF, nF, nF]) rfl rfl ?_ (d_cons (i := 8) (listed' := #[yT, yT, yT, nF, nF, nF, yT, yT, yT, nF, nF, nF, nF]) rfl rfl ?_ d_nil)))
     · skip
       refine f_val (v := .slice x_Ra x_Rn x_Rc) F154 rfl rfl (r_loadB S154.at' 1 TI_62 rfl rfl (F154.ev 15 rfl) rfl rfl (fun _ => rfl) rfl) rfl fun _ F155 => ?_
       refine ⟨Sd.of S154 [] rfl, ?_⟩
       exact G128 _ _ ⟨b28, F155.cut rfl, S154.pick [0, 1, 2, 3, 4] rfl⟩
     · skip
       refine f_buildSl (ok := okS) (vs := []) F154 S154.at' (([] : List ByteArray)) ET_62 rfl rfl rfl rfl rfl rfl rfl rfl rfl (by simp) fun b156 _ w156 F157 S156 => ?_
       refine ⟨Sd.of (S154.trans S156) [] rfl, ?_⟩
       exact G134 _ _ ⟨b28, b156, F157.cut rfl, (S154.trans S156).pick [0, 1, 2, 3, 4, 5] rfl⟩
     · skip
       refine f_val (v := .slice x_Wa x_Wn x_Wc) F154 rfl rfl (r_loadB S154.at' 1 TI_62 rfl rfl (F154.ev 20 rfl) rfl rfl (fun _ => rfl) rfl) rfl fun _ F158 => ?_
       refine ⟨Sd.of S154 [] rfl, ?_⟩
       exact G137 _ _ ⟨b28, F158.cut rfl, S154.pick [0, 1, 2, 3, 4] rfl⟩
   refine x_lem (fun aZ wZ => Fr 31 [(16, .slice x_Ra x_Rn x_Rc), (20, .pointer (some ⟨b1, 7, none⟩)), (2, .pointer (some ⟨b3, 0, none⟩)), (1, .pointer (some ⟨b1, 0, none⟩))] aZ ∧ Mv [bx b1 [.int .i64 x.id, .int .i64 x.age, .int .i64 x.proc, .int .i64 x.began, .slice A9 N9 C9, .slice A18 N18 C18, .slice x_Ra x_Rn x_Rc, .slice x_Wa x_Wn x_Wc, .slice Q0 Q2 Q1, .int .i64 x.state] 71, ow 151 3 encR okR (.slice A18 N18 C18) (([] : List AnsD) ++ x.answers), ow 148 6 encK okK (.slice A9 N9 C9) (([] : List CallD) ++ x.calls), bx b3 [.int .i64 0, .int .i64 0, .int .i64 0, .int .i64 0, .slice none 0 0, .slice none 0 0, .slice none 0 0, .slice none 0 0, .slice none 0 0, .int .i64 0] 71] w23 [bx b1 [.int .i64 x.id, .int .i64 x.age, .int .i64 x.proc, .int .i64 x.began, .slice A9 N9 C9, .slice A18 N18 C18, .slice x_Ra x_Rn x_Rc, .slice x_Wa x_Wn x_Wc, .slice Q0 Q2 Q1, .int .i64 x.state] 71, ow 151 3 encR okR (.slice A18 N18 C18) (([] : List AnsD) ++ x.answers), ow 148 6 encK okK (.slice A9 N9 C9) (([] : List CallD) ++ x.calls), bx b3 [.int .i64 0, .int .i64 0, .int .i64 0, .int .i64 0, .slice none 0 0, .slice none 0 0, .slice none 0 0, .slice none 0 0, .slice none 0 0, .int .i64 0] 71] wZ) #[nF, yT, yT, yT, nF, nF, yT, yT, nF, nF, nF, nF, nF] 8 ?_ (fun G159 => ?_)
   · rintro a159 w159 ⟨F159, S159⟩
     obtain ⟨Q82, Q132, Q182⟩ := At.ownInv S159.at' ET_67.hk 1 rfl
     obtain ⟨Q83, Q133, Q183⟩ := At.ownInv S159.at' ET_66.hk 2 rfl
     refine d_all (rs := [0, 5, 8]) rfl (by kernel_rfl) (by simp) (d_cons (i := 0) (listed' := #[yT, yT, yT, yT, nF, nF, yT, yT, nF, nF, nF, nF, nF]) rfl rfl ?_ (d_cons (i := 5) (listed' := #[nF, yT, yT, yT, nF, yT, yT, yT, nF, nF, nF, nF, nF]) rfl rfl ?_ (d_cons (i := 8) (listed' := #[nF, yT, yT, yT, nF, nF, yT, yT, yT, nF, nF, nF, nF]) rfl rfl ?_ d_nil)))
     · skip
       refine f_buildSl (ok := okS) (vs := []) F159 S159.at' (([] : List ByteArray)) ET_62 rfl rfl rfl rfl rfl rfl rfl rfl rfl (by simp) fun b160 _ w160 F161 S160 => ?_
       refine ⟨Sd.of (S159.trans S160) [] rfl, ?_⟩
       exact G128 _ _ ⟨b160, F161.cut rfl, (S159.trans S160).pick [0, 1, 2, 3, 4] rfl⟩
     · skip
       refine f_buildSl (ok := okS) (vs := []) F159 S159.at' (([] : List ByteArray)) ET_62 rfl rfl rfl rfl rfl rfl rfl rfl rfl (by simp) fun b162 _ w162 F163 S162 => ?_
       refine ⟨Sd.of (S159.trans S162) [] rfl, ?_⟩
       exact G141 _ _ ⟨b162, F163.cut rfl, (S159.trans S162).pick [0, 1, 2, 3, 4] rfl⟩
     · skip
       refine f_val (v := .slice x_Wa x_Wn x_Wc) F159 rfl rfl (r_loadB S159.at' 0 TI_62 rfl rfl (F159.ev 20 rfl) rfl rfl (fun _ => rfl) rfl) rfl fun _ F164 => ?_
       refine ⟨Sd.of S159 [] rfl, ?_⟩
       exact G145 _ _ ⟨F164.cut rfl, S159.pick [0, 1, 2, 3] rfl⟩
   refine x_lem (fun aZ wZ => ∃ (b80 : Nat), Fr 31 [(18, .slice (some ⟨b80, 0, none⟩) 0 0), (20, .pointer (some ⟨b1, 7, none⟩)), (15, .pointer (some ⟨b1, 6, none⟩)), (2, .pointer (some ⟨b3, 0, none⟩)), (1, .pointer (some ⟨b1, 0, none⟩))] aZ ∧ Mv [bx b1 [.int .i64 x.id, .int .i64 x.age, .int .i64 x.proc, .int .i64 x.began, .slice A9 N9 C9, .slice A18 N18 C18, .slice x_Ra x_Rn x_Rc, .slice x_Wa x_Wn x_Wc, .slice Q0 Q2 Q1, .int .i64 x.state] 71, ow 151 3 encR okR (.slice A18 N18 C18) (([] : List AnsD) ++ x.answers), ow 148 6 encK okK (.slice A9 N9 C9) (([] : List CallD) ++ x.calls), bx b3 [.int .i64 0, .int .i64 0, .int .i64 0, .int .i64 0, .slice none 0 0, .slice none 0 0, .slice none 0 0, .slice none 0 0, .slice none 0 0, .int .i64 0] 71] w23 [ow 9 1 encS okS (.slice (some ⟨b80, 0, none⟩) 0 0) ([] : List ByteArray), bx b1 [.int .i64 x.id, .int .i64 x.age, .int .i64 x.proc, .int .i64 x.began, .slice A9 N9 C9, .slice A18 N18 C18, .slice x_Ra x_Rn x_Rc, .slice x_Wa x_Wn x_Wc, .slice Q0 Q2 Q1, .int .i64 x.state] 71, ow 151 3 encR okR (.slice A18 N18 C18) (([] : List AnsD) ++ x.answers), ow 148 6 encK okK (.slice A9 N9 C9) (([] : List CallD) ++ x.calls), bx b3 [.int .i64 0, .int .i64 0, .int .i64 0, .int .i64 0, .slice none 0 0, .slice none 0 0, .slice none 0 0, .slice none 0 0, .slice none 0 0, .int .i64 0] 71] wZ) #[nF, yT, yT, nF, nF, yT, yT, yT, nF, nF, nF, nF, nF] 8 ?_ (fun G165 => ?_)
   · rintro a165 w165 ⟨b80, F165, S165⟩
     obtain ⟨Q84, Q134, Q184⟩ := At.ownInv S165.at' ET_67.hk 2 rfl
     obtain ⟨Q85, Q135, Q185⟩ := At.ownInv S165.at' ET_66.hk 3 rfl
     refine d_all (rs := [0, 3, 8]) rfl (by kernel_rfl) (by simp) (d_cons (i := 0) (listed' := #[yT, yT, yT, nF, nF, yT, yT, yT, nF, nF, nF, nF, nF]) rfl rfl ?_ (d_cons (i := 3) (listed' := #[nF, yT, yT, yT, nF, yT, yT, yT, nF, nF, nF, nF, nF]) rfl rfl ?_ (d_cons (i := 8) (listed' := #[nF, yT, yT, nF, nF, yT, yT, yT, yT, nF, nF, nF, nF]) rfl rfl ?_ d_nil)))
     · skip
       refine f_buildSl (ok := okS) (vs := []) F165 S165.at' (([] : List ByteArray)) ET_62 rfl rfl rfl rfl rfl rfl rfl rfl rfl (by simp) fun b166 _ w166 F167 S166 => ?_
       refine ⟨Sd.of (S165.trans S166) [] rfl, ?_⟩
       exact G134 _ _ ⟨b166, b80, F167.cut rfl, (S165.trans S166).pick [1, 0, 2, 3, 4, 5] rfl⟩
     · skip
       refine f_val (v := .slice x_Ra x_Rn x_Rc) F165 rfl rfl (r_loadB S165.at' 1 TI_62 rfl rfl (F165.ev 15 rfl) rfl rfl (fun _ => rfl) rfl) rfl fun _ F168 => ?_
       refine ⟨Sd.of S165 [] rfl, ?_⟩
       exact G141 _ _ ⟨b80, F168.cut rfl, S165.pick [0, 1, 2, 3, 4] rfl⟩
     · skip
       refine f_val (v := .slice x_Wa x_Wn x_Wc) F165 rfl rfl (r_loadB S165.at' 1 TI_62 rfl rfl (F165.ev 20 rfl) rfl rfl (fun _ => rfl) rfl) rfl fun _ F169 => ?_
       refine ⟨Sd.of S165 [] rfl, ?_⟩
       exact G150 _ _ ⟨b80, F169.cut rfl, S165.pick [0, 1, 2, 3, 4] rfl⟩
   refine x_lem (fun aZ wZ => Fr 31 [(21, .slice x_Wa x_Wn x_Wc), (15, .pointer (some ⟨b1, 6, none⟩)), (2, .pointer (some ⟨b3, 0, none⟩)), (1, .pointer (some ⟨b1, 0, none⟩))] aZ ∧ Mv [bx b1 [.int .i64 x.id, .int .i64 x.age, .int .i64 x.proc, .int .i64 x.began, .slice A9 N9 C9, .slice A18 N18 C18, .slice x_Ra x_Rn x_Rc, .slice x_Wa x_Wn x_Wc, .slice Q0 Q2 Q1, .int .i64 x.state] 71, ow 151 3 encR okR (.slice A18 N18 C18) (([] : List AnsD) ++ x.answers), ow 148 6 encK okK (.slice A9 N9 C9) (([] : List CallD) ++ x.calls), bx b3 [.int .i64 0, .int .i64 0, .int .i64 0, .int .i64 0, .slice none 0 0, .slice none 0 0, .slice none 0 0, .slice none 0 0, .slice none 0 0, .int .i64 0] 71] w23 [bx b1 [.int .i64 x.id, .int .i64 x.age, .int .i64 x.proc, .int .i64 x.began, .slice A9 N9 C9, .slice A18 N18 C18, .slice x_Ra x_Rn x_Rc, .slice x_Wa x_Wn x_Wc, .slice Q0 Q2 Q1, .int .i64 x.state] 71, ow 151 3 encR okR (.slice A18 N18 C18) (([] : List AnsD) ++ x.answers), ow 148 6 encK okK (.slice A9 N9 C9) (([] : List CallD) ++ x.calls), bx b3 [.int .i64 0, .int .i64 0, .int .i64 0, .int .i64 0, .slice none 0 0, .slice none 0 0, .slice none 0 0, .slice none 0 0, .slice none 0 0, .int .i64 0] 71] wZ) #[nF, yT, yT, nF, nF, nF, yT, yT, yT, nF, nF, nF, nF] 8 ?_ (fun G170 => ?_)
   · rintro a170 w170 ⟨F170, S170⟩
     obtain ⟨Q86, Q136, Q186⟩ := At.ownInv S170.at' ET_67.hk 1 rfl
     obtain ⟨Q87, Q137, Q187⟩ := At.ownInv S170.at' ET_66.hk 2 rfl
     refine d_all (rs := [0, 3, 5]) rfl (by kernel_rfl) (by simp) (d_cons (i := 0) (listed' := #[yT, yT, yT, nF, nF, nF, yT, yT, yT, nF, nF, nF, nF]) rfl rfl ?_ (d_cons (i := 3) (listed' := #[nF, yT, yT, yT, nF, nF, yT, yT, yT, nF, nF, nF, nF]) rfl rfl ?_ (d_cons (i := 5) (listed' := #[nF, yT, yT, nF, nF, yT, yT, yT, yT, nF, nF, nF, nF]) rfl rfl ?_ d_nil)))
     · skip
       refine f_buildSl (ok := okS) (vs := []) F170 S170.at' (([] : List ByteArray)) ET_62 rfl rfl rfl rfl rfl rfl rfl rfl rfl (by simp) fun b171 _ w171 F172 S171 => ?_
       refine ⟨Sd.of (S170.trans S171) [] rfl, ?_⟩
       exact G137 _ _ ⟨b171, F172.cut rfl, (S170.trans S171).pick [0, 1, 2, 3, 4] rfl⟩
     · skip
       refine f_val (v := .slice x_Ra x_Rn x_Rc) F170 rfl rfl (r_loadB S170.at' 0 TI_62 rfl rfl (F170.ev 15 rfl) rfl rfl (fun _ => rfl) rfl) rfl fun _ F173 => ?_
       refine ⟨Sd.of S170 [] rfl, ?_⟩
       exact G145 _ _ ⟨F173.cut rfl, S170.pick [0, 1, 2, 3] rfl⟩
     · skip
       refine f_buildSl (ok := okS) (vs := []) F170 S170.at' (([] : List ByteArray)) ET_62 rfl rfl rfl rfl rfl rfl rfl rfl rfl (by simp) fun b174 _ w174 F175 S174 => ?_
       refine ⟨Sd.of (S170.trans S174) [] rfl, ?_⟩
       exact G150 _ _ ⟨b174, F175.cut rfl, (S170.trans S174).pick [0, 1, 2, 3, 4] rfl⟩
   refine x_lem (fun aZ wZ => Fr 31 [(20, .pointer (some ⟨b1, 7, none⟩)), (15, .pointer (some ⟨b1, 6, none⟩)), (2, .pointer (some ⟨b3, 0, none⟩)), (1, .pointer (some ⟨b1, 0, none⟩))] aZ ∧ Mv [bx b1 [.int .i64 x.id, .int .i64 x.age, .int .i64 x.proc, .int .i64 x.began, .slice A9 N9 C9, .slice A18 N18 C18, .slice x_Ra x_Rn x_Rc, .slice x_Wa x_Wn x_Wc, .slice Q0 Q2 Q1, .int .i64 x.state] 71, ow 151 3 encR okR (.slice A18 N18 C18) (([] : List AnsD) ++ x.answers), ow 148 6 encK okK (.slice A9 N9 C9) (([] : List CallD) ++ x.calls), bx b3 [.int .i64 0, .int .i64 0, .int .i64 0, .int .i64 0, .slice none 0 0, .slice none 0 0, .slice none 0 0, .slice none 0 0, .slice none 0 0, .int .i64 0] 71] w23 [bx b1 [.int .i64 x.id, .int .i64 x.age, .int .i64 x.proc, .int .i64 x.began, .slice A9 N9 C9, .slice A18 N18 C18, .slice x_Ra x_Rn x_Rc, .slice x_Wa x_Wn x_Wc, .slice Q0 Q2 Q1, .int .i64 x.state] 71, ow 151 3 encR okR (.slice A18 N18 C18) (([] : List AnsD) ++ x.answers), ow 148 6 encK okK (.slice A9 N9 C9) (([] : List CallD) ++ x.calls), bx b3 [.int .i64 0, .int .i64 0, .int .i64 0, .int .i64 0, .slice none 0 0, .slice none 0 0, .slice none 0 0, .slice none 0 0, .slice none 0 0, .int .i64 0] 71] wZ) #[nF, yT, yT, nF, nF, nF, yT, yT, nF, nF, nF, nF, nF] 9 ?_ (fun G176 => ?_)
   · rintro a176 w176 ⟨F176, S176⟩
     obtain ⟨Q88, Q138, Q188⟩ := At.ownInv S176.at' ET_67.hk 1 rfl
     obtain ⟨Q89, Q139, Q189⟩ := At.ownInv S176.at' ET_66.hk 2 rfl
     refine d_all (rs := [0, 3, 5, 8]) rfl (by kernel_rfl) (by simp) (d_cons (i := 0) (listed' := #[yT, yT, yT, nF, nF, nF, yT, yT, nF, nF, nF, nF, nF]) rfl rfl ?_ (d_cons (i := 3) (listed' := #[nF, yT, yT, yT, nF, nF, yT, yT, nF, nF, nF, nF, nF]) rfl rfl ?_ (d_cons (i := 5) (listed' := #[nF, yT, yT, nF, nF, yT, yT, yT, nF, nF, nF, nF, nF]) rfl rfl ?_ (d_cons (i := 8) (listed' := #[nF, yT, yT, nF, nF, nF, yT, yT, yT, nF, nF, nF, nF]) rfl rfl ?_ d_nil))))
     · skip
       refine f_buildSl (ok := okS) (vs := []) F176 S176.at' (([] : List ByteArray)) ET_62 rfl rfl rfl rfl rfl rfl rfl rfl rfl (by simp) fun b177 _ w177 F178 S177 => ?_
       refine ⟨Sd.of (S176.trans S177) [] rfl, ?_⟩
       exact G154 _ _ ⟨b177, F178.cut rfl, (S176.trans S177).pick [0, 1, 2, 3, 4] rfl⟩
     · skip
       refine f_val (v := .slice x_Ra x_Rn x_Rc) F176 rfl rfl (r_loadB S176.at' 0 TI_62 rfl rfl (F176.ev 15 rfl) rfl rfl (fun _ => rfl) rfl) rfl fun _ F179 => ?_
       refine ⟨Sd.of S176 [] rfl, ?_⟩
       exact G159 _ _ ⟨F179.cut rfl, S176.pick [0, 1, 2, 3] rfl⟩
     · skip
       refine f_buildSl (ok := okS) (vs := []) F176 S176.at' (([] : List ByteArray)) ET_62 rfl rfl rfl rfl rfl rfl rfl rfl rfl (by simp) fun b180 _ w180 F181 S180 => ?_
       refine ⟨Sd.of (S176.trans S180) [] rfl, ?_⟩
       exact G165 _ _ ⟨b180, F181.cut rfl, (S176.trans S180).pick [0, 1, 2, 3, 4] rfl⟩
     · skip
       refine f_val (v := .slice x_Wa x_Wn x_Wc) F176 rfl rfl (r_loadB S176.at' 0 TI_62 rfl rfl (F176.ev 20 rfl) rfl rfl (fun _ => rfl) rfl) rfl fun _ F182 => ?_
       refine ⟨Sd.of S176 [] rfl, ?_⟩
       exact G170 _ _ ⟨F182.cut rfl, S176.pick [0, 1, 2, 3] rfl⟩
   refine g_take F20 rfl (i := 1) (listed' := #[nF, yT, nF, nF, nF, nF, nF, nF, nF, nF, nF, nF, nF]) rfl (by kernel_rfl) (by kernel_rfl) (by kernel_rfl) (fun _ _ _ h => h) (Sd.of (Mv.refl S23.at') [] rfl) rfl rfl rfl rfl (fun _ hz => (r_field FI_71_6 rfl (F20.ev 1 rfl) rfl)) fun _ F183 => ?_
   refine g_take F183 rfl (i := 2) (listed' := #[nF, yT, yT, nF, nF, nF, nF, nF, nF, nF, nF, nF, nF]) rfl (by kernel_rfl) (by kernel_rfl) (by kernel_rfl) (fun _ _ _ h => h) (Sd.of (Mv.refl S23.at') [] rfl) rfl rfl rfl rfl (fun _ hz => (r_field FI_69_0 rfl (F183.ev 14 rfl) rfl)) fun _ F184 => ?_
   refine g_take F184 rfl (i := 6) (listed' := #[nF, yT, yT, nF, nF, nF, yT, nF, nF, nF, nF, nF, nF]) rfl (by kernel_rfl) (by kernel_rfl) (by kernel_rfl) (fun _ _ _ h => h) (Sd.of (Mv.refl S23.at') [] rfl) rfl rfl rfl rfl (fun _ hz => (r_field FI_71_6 rfl (F184.ev 1 rfl) rfl)) fun _ F185 => ?_
   refine g_take F185 rfl (i := 7) (listed' := #[nF, yT, yT, nF, nF, nF, yT, yT, nF, nF, nF, nF, nF]) rfl (by kernel_rfl) (by kernel_rfl) (by kernel_rfl) (fun _ _ _ h => h) (Sd.of (Mv.refl S23.at') [] rfl) rfl rfl rfl rfl (fun _ hz => (r_field FI_69_1 rfl (F185.ev 19 rfl) rfl)) fun _ F186 => ?_
   exact G176 _ _ ⟨F186.cut rfl, (Mv.refl S23.at').pick [0, 1, 2, 3] rfl⟩
 · rintro a187 w187 ⟨b28, A31, N31, C31, b33, A36, N36, C36, F187, S187⟩
   obtain ⟨Q90, Q140, Q190⟩ := At.ownInv S187.at' ET_62.hk 4 rfl
   obtain ⟨Q91, Q141, Q191⟩ := At.ownInv S187.at' ET_62.hk 5 rfl
   refine x_normal (wp_seq (wp_region_lit (l_op (f_buildSl (ok := okI) (vs := []) F187 S187.at' (([] : List Int)) ET_53 rfl rfl rfl rfl rfl rfl rfl rfl rfl (by simp) fun b188 _ w188 F189 S188 => ?_))))
   refine l_op (f_val F189 rfl rfl (r_field FI_71_7 rfl (F189.ev 1 rfl) rfl) rfl fun _ F190 => ?_)
   refine l_op (f_val (v := .slice Q0 Q2 Q1) F190 rfl rfl (r_loadB S188.at' 1 TI_53 rfl rfl (F190.ev 26 rfl) rfl rfl (fun _ => rfl) rfl) rfl fun _ F191 => ?_)
   refine l_op (f_app (news := x.marks) F191 S188.at' 0 ET_53 rfl rfl rfl rfl rfl rfl (F191.ev 25 rfl) (F191.ev 27 rfl) ((Rd.mv (Nat.succ_pos _) Q32 (S1.trans (S3.trans (S5.trans (S9.trans (T13.trans (S14.trans (S18.trans (S21.trans (S187.trans S188))))))))))).1 (by ((repeat (first | rw [List.length_append] | rw [List.length_cons] | rw [List.length_nil] | rw [List.length_take] | rw [List.length_drop])) <;> omega)) fun A192 N192 C192 _ w192 F193 S192 l192 => ?_)
   refine l_op (f_val F193 rfl rfl (r_field FI_71_7 rfl (F193.ev 1 rfl) rfl) rfl fun _ F194 => ?_)
   refine l_op (s_store S192.at' 1 TI_53 rfl rfl rfl rfl rfl (F194.ev 29 rfl) (F194.ev 28 rfl) rfl rfl rfl rfl rfl fun w195 S195 => ?_)
   have T196 : Mv _ _ [bx b1 [.int .i64 x.id, .int .i64 x.age, .int .i64 x.proc, .int .i64 x.began, .slice A9 N9 C9, .slice A18 N18 C18, .slice A31 N31 C31, .slice A36 N36 C36, .slice A192 N192 C192, .int .i64 x.state] 71, ow 3 1 encI okI (.slice A192 N192 C192) (([] : List Int) ++ x.marks), ow 151 3 encR okR (.slice A18 N18 C18) (([] : List AnsD) ++ x.answers), ow 148 6 encK okK (.slice A9 N9 C9) (([] : List CallD) ++ x.calls), bx b3 [.int .i64 0, .int .i64 0, .int .i64 0, .int .i64 0, .slice none 0 0, .slice none 0 0, .slice none 0 0, .slice none 0 0, .slice none 0 0, .int .i64 0] 71, ow 9 1 encS okS (.slice A31 N31 C31) (([] : List ByteArray) ++ x.touch.reads), ow 9 1 encS okS (.slice A36 N36 C36) (([] : List ByteArray) ++ x.touch.writes)] _ := S195
   refine s_end (x_normal (wp_seq (wp_region_lit (l_op (f_val (v := .agg #[.int .i64 x.id, .int .i64 x.age, .int .i64 x.proc, .int .i64 x.began, .slice A9 N9 C9, .slice A18 N18 C18, .slice A31 N31 C31, .slice A36 N36 C36, .slice A192 N192 C192, .int .i64 x.state]) F194 rfl rfl (r_loadB T196.at' 0 TI_71 rfl rfl (F194.ev 1 rfl) rfl rfl (fun h => nomatch h) rfl) rfl fun _ F197 => ?_)))))
   refine l_op (s_store T196.at' 4 TI_71 rfl rfl rfl rfl rfl (F197.ev 2 rfl) (F197.ev 30 rfl) rfl rfl rfl rfl rfl fun w198 S198 => ?_)
   refine s_end (x_normal (wp_ret ?_))
   refine x_done (v := .agg #[.int .i64 x.id, .int .i64 x.age, .int .i64 x.proc, .int .i64 x.began, .slice A9 N9 C9, .slice A18 N18 C18, .slice A31 N31 C31, .slice A36 N36 C36, .slice A192 N192 C192, .int .i64 x.state]) F197 (results_1 Try.results90 (.cell (F197.ev 2 rfl) (run_loadVar' TI_71 _ [.int .i64 x.id, .int .i64 x.age, .int .i64 x.proc, .int .i64 x.began, .slice A9 N9 C9, .slice A18 N18 C18, .slice A31 N31 C31, .slice A36 N36 C36, .slice A192 N192 C192, .int .i64 x.state] rfl (fun h => nomatch h) (At.cells S198.at' 0 rfl 0 [.int .i64 x.id, .int .i64 x.age, .int .i64 x.proc, .int .i64 x.began, .slice A9 N9 C9, .slice A18 N18 C18, .slice A31 N31 C31, .slice A36 N36 C36, .slice A192 N192 C192, .int .i64 x.state] rfl)))) ?_
   exact ⟨A9, N9, C9, A18, N18, C18, A31, N31, C31, A36, N36, C36, A192, N192, C192, rfl, (Mv.cast (Mv.pick (S1.trans (S3.trans (S5.trans (S9.trans (T13.trans (S14.trans (S18.trans (S21.trans (S187.trans (S188.trans (S192.trans (T196.trans S198)))))))))))) [4, 3, 5, 6, 2] rfl) (by rw [(show (([] : List CallD) ++ x.calls) = x.calls from by first | exact List.nil_append _ | simp), (show (([] : List AnsD) ++ x.answers) = x.answers from by first | exact List.nil_append _ | simp), (show (([] : List ByteArray) ++ x.touch.reads) = x.touch.reads from by first | exact List.nil_append _ | simp), (show (([] : List ByteArray) ++ x.touch.writes) = x.touch.writes from by first | exact List.nil_append _ | simp), (show (([] : List Int) ++ x.marks) = x.marks from by first | exact List.nil_append _ | simp)]; all_goals rfl))⟩
end Go.Proofs.Ytgfilegkabbliaa
