/-
  Walks: a transaction is copied.
-/
import Derived.Test.YtgfilegkabbliaaGenXa
namespace Go.Proofs.Ytgfilegkabbliaa
open Go.ChangeShapes Go.WideShapes Go.ChangeAt Go.RowKit
set_option maxRecDepth 100000
set_option maxHeartbeats 1000000
theorem impl_Tx_clone_c {w : World} {H : Nat → Prop} {x : TxD} {Q9 : Option Addr} {Q11 Q10 : Nat} {Q6 : Option Addr} {Q8 Q7 : Nat} {x_Ra : Option Addr} {x_Rn x_Rc : Nat} {x_Wa : Option Addr} {x_Wn x_Wc : Nat} {Q3 : Option Addr} {Q5 Q4 : Nat} (Q99 : i64ok x.id) (Q97 : i64ok x.age) (Q100 : i64ok x.proc) (Q98 : i64ok x.began) (Q91 : Rd 6 encK okK H w (.slice Q9 Q11 Q10) x.calls) (Q90 : Rd 3 encR okR H w (.slice Q6 Q8 Q7) x.answers) (Q93 : Rd 1 encS okS H w (.slice x_Ra x_Rn x_Rc) x.touch.reads) (Q94 : Rd 1 encS okS H w (.slice x_Wa x_Wn x_Wc) x.touch.writes) (Q92 : Rd 1 encI okI H w (.slice Q3 Q5 Q4) x.marks) (Q101 : i64ok x.state) (p0 : x.calls.length ≤ 2097152) (p1 : x.answers.length ≤ 2097152) (p2 : x.touch.reads.length ≤ 2097152) (p3 : x.touch.writes.length ≤ 2097152) (p4 : x.marks.length ≤ 2097152) :
    Calls Try.prog 95 #[.agg #[.int .i64 x.id, .int .i64 x.age, .int .i64 x.proc, .int .i64 x.began, .slice Q9 Q11 Q10, .slice Q6 Q8 Q7, .slice x_Ra x_Rn x_Rc, .slice x_Wa x_Wn x_Wc, .slice Q3 Q5 Q4, .int .i64 x.state]] w fun e w' => ∃ (Q70 : Option Addr), ∃ (Q72 : Nat), ∃ (Q71 : Nat), ∃ (Q53 : Option Addr), ∃ (Q55 : Nat), ∃ (Q54 : Nat), ∃ (Q27 : Option Addr), ∃ (Q31 : Nat), ∃ (Q29 : Nat), ∃ (Q33 : Option Addr), ∃ (Q37 : Nat), ∃ (Q35 : Nat), ∃ (Q73 : Option Addr), ∃ (Q75 : Nat), ∃ (Q74 : Nat), e = .returned (.agg #[.int .i64 x.id, .int .i64 x.age, .int .i64 x.proc, .int .i64 x.began, .slice Q70 Q72 Q71, .slice Q53 Q55 Q54, .slice Q27 Q31 Q29, .slice Q33 Q37 Q35, .slice Q73 Q75 Q74, .int .i64 x.state]) ∧ Mv [] w [ow 148 6 encK okK (.slice Q70 Q72 Q71) x.calls, ow 151 3 encR okR (.slice Q53 Q55 Q54) x.answers, ow 9 1 encS okS (.slice Q27 Q31 Q29) x.touch.reads, ow 9 1 encS okS (.slice Q33 Q37 Q35) x.touch.writes, ow 3 1 encI okI (.slice Q73 Q75 Q74) x.marks] w' := by
 have uU : True := (fun _ _ _ _ _ _ _ _ _ _ => trivial) Q99 Q97 Q100 Q98 Q101 p0 p1 p2 p3 p4
 clear uU
 have Q24 : Rd 6 encK okK (V H w []) w (.slice Q9 Q11 Q10) x.calls := Rd.start Q91 (fun _ _ => fps_nil _)
 obtain ⟨Q108, Q103, Q302, Q307⟩ := Rd.inv Q91
 have Q25 : Rd 3 encR okR (V H w []) w (.slice Q6 Q8 Q7) x.answers := Rd.start Q90 (fun _ _ => fps_nil _)
 obtain ⟨Q107, Q102, Q301, Q306⟩ := Rd.inv Q90
 have Q95 : Rd 1 encS okS (V H w []) w (.slice x_Ra x_Rn x_Rc) x.touch.reads := Rd.start Q93 (fun _ _ => fps_nil _)
 obtain ⟨Q110, Q105, Q304, Q309⟩ := Rd.inv Q93
 have Q96 : Rd 1 encS okS (V H w []) w (.slice x_Wa x_Wn x_Wc) x.touch.writes := Rd.start Q94 (fun _ _ => fps_nil _)
 obtain ⟨Q111, Q106, Q305, Q310⟩ := Rd.inv Q94
 have Q26 : Rd 1 encI okI (V H w []) w (.slice Q3 Q5 Q4) x.marks := Rd.start Q92 (fun _ _ => fps_nil _)
 obtain ⟨Q109, Q104, Q303, Q308⟩ := Rd.inv Q92
 refine calls_enter 20 Try.func95 rfl Try.ntmps95 (Nat.le_of_ble_eq_true rfl) (fun _ F0i => ?_)
 have F0 : Fr 20 [(0, .agg #[.int .i64 x.id, .int .i64 x.age, .int .i64 x.proc, .int .i64 x.began, .slice Q9 Q11 Q10, .slice Q6 Q8 Q7, .slice x_Ra x_Rn x_Rc, .slice x_Wa x_Wn x_Wc, .slice Q3 Q5 Q4, .int .i64 x.state])] _ := F0i
 clear F0i
 refine wp_seq (wp_region_lit (l_op (f_box F0 (At.nil w) rfl rfl rfl (F0.ev 0 rfl) rfl rfl fun b1 _ w1 F2 S1 => ?_)))
 refine l_op (f_alloc F2 S1.at' ZI_71 rfl rfl rfl rfl rfl fun b3 _ w3 F4 S3 => ?_)
 refine s_end (x_normal (wp_seq ?_))
 refine x_draw (fun aZ wZ => ∃ (Q0 : Option Addr), ∃ (Q2 : Nat), ∃ (Q1 : Nat), ∃ (Q12 : Option Addr), ∃ (Q14 : Nat), ∃ (Q13 : Nat), ∃ (Q15 : Option Addr), ∃ (Q17 : Nat), ∃ (Q16 : Nat), ∃ (Q18 : Option Addr), ∃ (Q20 : Nat), ∃ (Q19 : Nat), ∃ (Q21 : Option Addr), ∃ (Q23 : Nat), ∃ (Q22 : Nat), Fr 20 [(1, .pointer (some ⟨b1, 0, none⟩)), (2, .pointer (some ⟨b3, 0, none⟩))] aZ ∧ Mv [bx b3 [.int .i64 0, .int .i64 0, .int .i64 0, .int .i64 0, .slice none 0 0, .slice none 0 0, .slice none 0 0, .slice none 0 0, .slice none 0 0, .int .i64 0] 71, bx b1 [.int .i64 x.id, .int .i64 x.age, .int .i64 x.proc, .int .i64 x.began, .slice Q9 Q11 Q10, .slice Q6 Q8 Q7, .slice x_Ra x_Rn x_Rc, .slice x_Wa x_Wn x_Wc, .slice Q3 Q5 Q4, .int .i64 x.state] 71] w3 [bx b3 [.int .i64 0, .int .i64 0, .int .i64 0, .int .i64 0, .slice none 0 0, .slice none 0 0, .slice none 0 0, .slice none 0 0, .slice none 0 0, .int .i64 0] 71, bx b1 [.int .i64 x.id, .int .i64 x.age, .int .i64 x.proc, .int .i64 x.began, .slice Q0 Q2 Q1, .slice Q12 Q14 Q13, .slice Q18 Q20 Q19, .slice Q21 Q23 Q22, .slice Q15 Q17 Q16, .int .i64 x.state] 71, ow 148 6 encK okK (.slice Q0 Q2 Q1) x.calls, ow 151 3 encR okR (.slice Q12 Q14 Q13) x.answers, ow 3 1 encI okI (.slice Q15 Q17 Q16) x.marks, ow 9 1 encS okS (.slice Q18 Q20 Q19) x.touch.reads, ow 9 1 encS okS (.slice Q21 Q23 Q22) x.touch.writes] wZ) [] mixed S3.at' (listed := #[false, false, false, false, false, false, false, false, false, false, false, false, false, false, false, false, false, false, false, false]) rfl (fun w6 S6 => ?_) [] rfl ?_
 · skip
   refine x_lem (fun aZ wZ => ∃ (Q0 : Option Addr), ∃ (Q2 : Nat), ∃ (Q1 : Nat), ∃ (Q12 : Option Addr), ∃ (Q14 : Nat), ∃ (Q13 : Nat), ∃ (Q15 : Option Addr), ∃ (Q17 : Nat), ∃ (Q16 : Nat), ∃ (Q18 : Option Addr), ∃ (Q20 : Nat), ∃ (Q19 : Nat), ∃ (Q21 : Option Addr), ∃ (Q23 : Nat), ∃ (Q22 : Nat), Fr 20 [(18, .pointer (some ⟨b1, 6, none⟩)), (14, .agg #[.slice Q18 Q20 Q19, .slice Q21 Q23 Q22]), (2, .pointer (some ⟨b3, 0, none⟩)), (1, .pointer (some ⟨b1, 0, none⟩))] aZ ∧ Mv [bx b3 [.int .i64 0, .int .i64 0, .int .i64 0, .int .i64 0, .slice none 0 0, .slice none 0 0, .slice none 0 0, .slice none 0 0, .slice none 0 0, .int .i64 0] 71, bx b1 [.int .i64 x.id, .int .i64 x.age, .int .i64 x.proc, .int .i64 x.began, .slice Q9 Q11 Q10, .slice Q6 Q8 Q7, .slice x_Ra x_Rn x_Rc, .slice x_Wa x_Wn x_Wc, .slice Q3 Q5 Q4, .int .i64 x.state] 71] w6 [bx b1 [.int .i64 x.id, .int .i64 x.age, .int .i64 x.proc, .int .i64 x.began, .slice Q0 Q2 Q1, .slice Q12 Q14 Q13, .slice x_Ra x_Rn x_Rc, .slice x_Wa x_Wn x_Wc, .slice Q15 Q17 Q16, .int .i64 x.state] 71, ow 9 1 encS okS (.slice Q18 Q20 Q19) x.touch.reads, ow 9 1 encS okS (.slice Q21 Q23 Q22) x.touch.writes, ow 3 1 encI okI (.slice Q15 Q17 Q16) x.marks, ow 151 3 encR okR (.slice Q12 Q14 Q13) x.answers, ow 148 6 encK okK (.slice Q0 Q2 Q1) x.calls, bx b3 [.int .i64 0, .int .i64 0, .int .i64 0, .int .i64 0, .slice none 0 0, .slice none 0 0, .slice none 0 0, .slice none 0 0, .slice none 0 0, .int .i64 0] 71] wZ) #[yT, yT, yT, yT, yT, yT, yT, yT, yT, yT, yT, yT, yT, yT, yT, yT, yT, yT, yT, nF] 1 ?_ (fun G104 => ?_)
   · rintro a104 w104 ⟨Q0, Q2, Q1, Q12, Q14, Q13, Q15, Q17, Q16, Q18, Q20, Q19, Q21, Q23, Q22, F104, S104⟩
     obtain ⟨Q112, Q175, Q238⟩ := At.ownInv S104.at' ET_62.hk 1 rfl
     obtain ⟨Q113, Q176, Q239⟩ := At.ownInv S104.at' ET_62.hk 2 rfl
     obtain ⟨Q114, Q177, Q240⟩ := At.ownInv S104.at' ET_53.hk 3 rfl
     obtain ⟨Q115, Q178, Q241⟩ := At.ownInv S104.at' ET_67.hk 4 rfl
     obtain ⟨Q116, Q179, Q242⟩ := At.ownInv S104.at' ET_66.hk 5 rfl
     refine d_one (i := 19) (listed' := #[yT, yT, yT, yT, yT, yT, yT, yT, yT, yT, yT, yT, yT, yT, yT, yT, yT, yT, yT, yT]) rfl (by kernel_rfl) rfl rfl ?_
     refine s_store S104.at' 0 TI_69 rfl rfl rfl rfl rfl (F104.ev 18 rfl) (F104.ev 14 rfl) rfl rfl rfl rfl rfl fun w105 S105 => ?_
     refine ⟨Sd.of (S104.trans S105) [] rfl, ?_⟩
     refine wpAnyH_done (by kernel_rfl) (x_normal ?_) _
     exact ⟨Q0, Q2, Q1, Q12, Q14, Q13, Q15, Q17, Q16, Q18, Q20, Q19, Q21, Q23, Q22, F104.cut rfl, ((S6.trans (S104.trans S105)).pick [6, 0, 5, 4, 3, 1, 2] rfl)⟩
   refine x_lem (fun aZ wZ => ∃ (Q0 : Option Addr), ∃ (Q2 : Nat), ∃ (Q1 : Nat), ∃ (Q12 : Option Addr), ∃ (Q14 : Nat), ∃ (Q13 : Nat), ∃ (Q15 : Option Addr), ∃ (Q17 : Nat), ∃ (Q16 : Nat), ∃ (Q18 : Option Addr), ∃ (Q20 : Nat), ∃ (Q19 : Nat), ∃ (Q21 : Option Addr), ∃ (Q23 : Nat), ∃ (Q22 : Nat), Fr 20 [(17, .pointer (some ⟨b1, 8, none⟩)), (14, .agg #[.slice Q18 Q20 Q19, .slice Q21 Q23 Q22]), (11, .slice Q15 Q17 Q16), (2, .pointer (some ⟨b3, 0, none⟩)), (1, .pointer (some ⟨b1, 0, none⟩))] aZ ∧ Mv [bx b3 [.int .i64 0, .int .i64 0, .int .i64 0, .int .i64 0, .slice none 0 0, .slice none 0 0, .slice none 0 0, .slice none 0 0, .slice none 0 0, .int .i64 0] 71, bx b1 [.int .i64 x.id, .int .i64 x.age, .int .i64 x.proc, .int .i64 x.began, .slice Q9 Q11 Q10, .slice Q6 Q8 Q7, .slice x_Ra x_Rn x_Rc, .slice x_Wa x_Wn x_Wc, .slice Q3 Q5 Q4, .int .i64 x.state] 71] w6 [bx b1 [.int .i64 x.id, .int .i64 x.age, .int .i64 x.proc, .int .i64 x.began, .slice Q0 Q2 Q1, .slice Q12 Q14 Q13, .slice x_Ra x_Rn x_Rc, .slice x_Wa x_Wn x_Wc, .slice Q3 Q5 Q4, .int .i64 x.state] 71, ow 9 1 encS okS (.slice Q18 Q20 Q19) x.touch.reads, ow 9 1 encS okS (.slice Q21 Q23 Q22) x.touch.writes, ow 3 1 encI okI (.slice Q15 Q17 Q16) x.marks, ow 151 3 encR okR (.slice Q12 Q14 Q13) x.answers, ow 148 6 encK okK (.slice Q0 Q2 Q1) x.calls, bx b3 [.int .i64 0, .int .i64 0, .int .i64 0, .int .i64 0, .slice none 0 0, .slice none 0 0, .slice none 0 0, .slice none 0 0, .slice none 0 0, .int .i64 0] 71] wZ) #[yT, yT, yT, yT, yT, yT, yT, yT, yT, yT, yT, yT, yT, yT, yT, yT, yT, nF, nF, nF] 3 ?_ (fun G106 => ?_)
   · rintro a106 w106 ⟨Q0, Q2, Q1, Q12, Q14, Q13, Q15, Q17, Q16, Q18, Q20, Q19, Q21, Q23, Q22, F106, S106⟩
     obtain ⟨Q117, Q180, Q243⟩ := At.ownInv S106.at' ET_62.hk 1 rfl
     obtain ⟨Q118, Q181, Q244⟩ := At.ownInv S106.at' ET_62.hk 2 rfl
     obtain ⟨Q119, Q182, Q245⟩ := At.ownInv S106.at' ET_53.hk 3 rfl
     obtain ⟨Q120, Q183, Q246⟩ := At.ownInv S106.at' ET_67.hk 4 rfl
     obtain ⟨Q121, Q184, Q247⟩ := At.ownInv S106.at' ET_66.hk 5 rfl
     refine d_one (i := 17) (listed' := #[yT, yT, yT, yT, yT, yT, yT, yT, yT, yT, yT, yT, yT, yT, yT, yT, yT, yT, nF, nF]) rfl (by kernel_rfl) rfl rfl ?_
     refine s_store S106.at' 0 TI_53 rfl rfl rfl rfl rfl (F106.ev 17 rfl) (F106.ev 11 rfl) rfl rfl rfl rfl rfl fun w107 S107 => ?_
     refine ⟨Sd.of (S106.trans S107) [] rfl, ?_⟩
     refine g_take F106 rfl (i := 18) (listed' := #[yT, yT, yT, yT, yT, yT, yT, yT, yT, yT, yT, yT, yT, yT, yT, yT, yT, yT, yT, nF]) rfl (by kernel_rfl) (by kernel_rfl) (by kernel_rfl) (fun _ _ _ h => h) (Sd.of (S106.trans S107) [] rfl) rfl rfl rfl rfl (fun _ hz => (r_field FI_71_6 rfl (F106.ev 1 rfl) rfl)) fun _ F108 => ?_
     exact G104 _ _ ⟨Q0, Q2, Q1, Q12, Q14, Q13, Q15, Q17, Q16, Q18, Q20, Q19, Q21, Q23, Q22, F108.cut rfl, (S106.trans S107).pick [0, 1, 2, 3, 4, 5, 6] rfl⟩
   refine x_lem (fun aZ wZ => ∃ (Q0 : Option Addr), ∃ (Q2 : Nat), ∃ (Q1 : Nat), ∃ (Q12 : Option Addr), ∃ (Q14 : Nat), ∃ (Q13 : Nat), ∃ (Q15 : Option Addr), ∃ (Q17 : Nat), ∃ (Q16 : Nat), ∃ (Q18 : Option Addr), ∃ (Q20 : Nat), ∃ (Q19 : Nat), ∃ (Q21 : Option Addr), ∃ (Q23 : Nat), ∃ (Q22 : Nat), Fr 20 [(16, .pointer (some ⟨b1, 5, none⟩)), (14, .agg #[.slice Q18 Q20 Q19, .slice Q21 Q23 Q22]), (11, .slice Q15 Q17 Q16), (8, .slice Q12 Q14 Q13), (2, .pointer (some ⟨b3, 0, none⟩)), (1, .pointer (some ⟨b1, 0, none⟩))] aZ ∧ Mv [bx b3 [.int .i64 0, .int .i64 0, .int .i64 0, .int .i64 0, .slice none 0 0, .slice none 0 0, .slice none 0 0, .slice none 0 0, .slice none 0 0, .int .i64 0] 71, bx b1 [.int .i64 x.id, .int .i64 x.age, .int .i64 x.proc, .int .i64 x.began, .slice Q9 Q11 Q10, .slice Q6 Q8 Q7, .slice x_Ra x_Rn x_Rc, .slice x_Wa x_Wn x_Wc, .slice Q3 Q5 Q4, .int .i64 x.state] 71] w6 [bx b1 [.int .i64 x.id, .int .i64 x.age, .int .i64 x.proc, .int .i64 x.began, .slice Q0 Q2 Q1, .slice Q6 Q8 Q7, .slice x_Ra x_Rn x_Rc, .slice x_Wa x_Wn x_Wc, .slice Q3 Q5 Q4, .int .i64 x.state] 71, ow 9 1 encS okS (.slice Q18 Q20 Q19) x.touch.reads, ow 9 1 encS okS (.slice Q21 Q23 Q22) x.touch.writes, ow 3 1 encI okI (.slice Q15 Q17 Q16) x.marks, ow 151 3 encR okR (.slice Q12 Q14 Q13) x.answers, ow 148 6 encK okK (.slice Q0 Q2 Q1) x.calls, bx b3 [.int .i64 0, .int .i64 0, .int .i64 0, .int .i64 0, .slice none 0 0, .slice none 0 0, .slice none 0 0, .slice none 0 0, .slice none 0 0, .int .i64 0] 71] wZ) #[yT, yT, yT, yT, yT, yT, yT, yT, yT, yT, yT, yT, yT, yT, yT, nF, nF, nF, nF, nF] 5 ?_ (fun G109 => ?_)
   · rintro a109 w109 ⟨Q0, Q2, Q1, Q12, Q14, Q13, Q15, Q17, Q16, Q18, Q20, Q19, Q21, Q23, Q22, F109, S109⟩
     obtain ⟨Q122, Q185, Q248⟩ := At.ownInv S109.at' ET_62.hk 1 rfl
     obtain ⟨Q123, Q186, Q249⟩ := At.ownInv S109.at' ET_62.hk 2 rfl
     obtain ⟨Q124, Q187, Q250⟩ := At.ownInv S109.at' ET_53.hk 3 rfl
     obtain ⟨Q125, Q188, Q251⟩ := At.ownInv S109.at' ET_67.hk 4 rfl
     obtain ⟨Q126, Q189, Q252⟩ := At.ownInv S109.at' ET_66.hk 5 rfl
     refine d_one (i := 15) (listed' := #[yT, yT, yT, yT, yT, yT, yT, yT, yT, yT, yT, yT, yT, yT, yT, yT, nF, nF, nF, nF]) rfl (by kernel_rfl) rfl rfl ?_
     refine s_store S109.at' 0 TI_67 rfl rfl rfl rfl rfl (F109.ev 16 rfl) (F109.ev 8 rfl) rfl rfl rfl rfl rfl fun w110 S110 => ?_
     refine ⟨Sd.of (S109.trans S110) [] rfl, ?_⟩
     refine g_take F109 rfl (i := 16) (listed' := #[yT, yT, yT, yT, yT, yT, yT, yT, yT, yT, yT, yT, yT, yT, yT, yT, yT, nF, nF, nF]) rfl (by kernel_rfl) (by kernel_rfl) (by kernel_rfl) (fun _ _ _ h => h) (Sd.of (S109.trans S110) [] rfl) rfl rfl rfl rfl (fun _ hz => (r_field FI_71_7 rfl (F109.ev 1 rfl) rfl)) fun _ F111 => ?_
     exact G106 _ _ ⟨Q0, Q2, Q1, Q12, Q14, Q13, Q15, Q17, Q16, Q18, Q20, Q19, Q21, Q23, Q22, F111.cut rfl, (S109.trans S110).pick [0, 1, 2, 3, 4, 5, 6] rfl⟩
   refine x_lem (fun aZ wZ => ∃ (Q0 : Option Addr), ∃ (Q2 : Nat), ∃ (Q1 : Nat), ∃ (Q12 : Option Addr), ∃ (Q14 : Nat), ∃ (Q13 : Nat), ∃ (Q15 : Option Addr), ∃ (Q17 : Nat), ∃ (Q16 : Nat), ∃ (Q18 : Option Addr), ∃ (Q20 : Nat), ∃ (Q19 : Nat), ∃ (Q21 : Option Addr), ∃ (Q23 : Nat), ∃ (Q22 : Nat), Fr 20 [(14, .agg #[.slice Q18 Q20 Q19, .slice Q21 Q23 Q22]), (15, .pointer (some ⟨b1, 4, none⟩)), (11, .slice Q15 Q17 Q16), (8, .slice Q12 Q14 Q13), (5, .slice Q0 Q2 Q1), (2, .pointer (some ⟨b3, 0, none⟩)), (1, .pointer (some ⟨b1, 0, none⟩))] aZ ∧ Mv [bx b3 [.int .i64 0, .int .i64 0, .int .i64 0, .int .i64 0, .slice none 0 0, .slice none 0 0, .slice none 0 0, .slice none 0 0, .slice none 0 0, .int .i64 0] 71, bx b1 [.int .i64 x.id, .int .i64 x.age, .int .i64 x.proc, .int .i64 x.began, .slice Q9 Q11 Q10, .slice Q6 Q8 Q7, .slice x_Ra x_Rn x_Rc, .slice x_Wa x_Wn x_Wc, .slice Q3 Q5 Q4, .int .i64 x.state] 71] w6 [ow 9 1 encS okS (.slice Q18 Q20 Q19) x.touch.reads, ow 9 1 encS okS (.slice Q21 Q23 Q22) x.touch.writes, ow 3 1 encI okI (.slice Q15 Q17 Q16) x.marks, ow 151 3 encR okR (.slice Q12 Q14 Q13) x.answers, ow 148 6 encK okK (.slice Q0 Q2 Q1) x.calls, bx b3 [.int .i64 0, .int .i64 0, .int .i64 0, .int .i64 0, .slice none 0 0, .slice none 0 0, .slice none 0 0, .slice none 0 0, .slice none 0 0, .int .i64 0] 71, bx b1 [.int .i64 x.id, .int .i64 x.age, .int .i64 x.proc, .int .i64 x.began, .slice Q9 Q11 Q10, .slice Q6 Q8 Q7, .slice x_Ra x_Rn x_Rc, .slice x_Wa x_Wn x_Wc, .slice Q3 Q5 Q4, .int .i64 x.state] 71] wZ) #[yT, yT, yT, yT, yT, yT, yT, yT, yT, yT, yT, yT, yT, nF, nF, nF, nF, nF, nF, nF] 7 ?_ (fun G112 => ?_)
   · rintro a112 w112 ⟨Q0, Q2, Q1, Q12, Q14, Q13, Q15, Q17, Q16, Q18, Q20, Q19, Q21, Q23, Q22, F112, S112⟩
     obtain ⟨Q127, Q190, Q253⟩ := At.ownInv S112.at' ET_62.hk 0 rfl
     obtain ⟨Q128, Q191, Q254⟩ := At.ownInv S112.at' ET_62.hk 1 rfl
     obtain ⟨Q129, Q192, Q255⟩ := At.ownInv S112.at' ET_53.hk 2 rfl
     obtain ⟨Q130, Q193, Q256⟩ := At.ownInv S112.at' ET_67.hk 3 rfl
     obtain ⟨Q131, Q194, Q257⟩ := At.ownInv S112.at' ET_66.hk 4 rfl
     refine d_one (i := 13) (listed' := #[yT, yT, yT, yT, yT, yT, yT, yT, yT, yT, yT, yT, yT, yT, nF, nF, nF, nF, nF, nF]) rfl (by kernel_rfl) rfl rfl ?_
     refine s_store S112.at' 6 TI_66 rfl rfl rfl rfl rfl (F112.ev 15 rfl) (F112.ev 5 rfl) rfl rfl rfl rfl rfl fun w113 S113 => ?_
     refine ⟨Sd.of (S112.trans S113) [] rfl, ?_⟩
     refine g_take F112 rfl (i := 14) (listed' := #[yT, yT, yT, yT, yT, yT, yT, yT, yT, yT, yT, yT, yT, yT, yT, nF, nF, nF, nF, nF]) rfl (by kernel_rfl) (by kernel_rfl) (by kernel_rfl) (fun _ _ _ h => h) (Sd.of (S112.trans S113) [] rfl) rfl rfl rfl rfl (fun _ hz => (r_field FI_71_5 rfl (F112.ev 1 rfl) rfl)) fun _ F114 => ?_
     exact G109 _ _ ⟨Q0, Q2, Q1, Q12, Q14, Q13, Q15, Q17, Q16, Q18, Q20, Q19, Q21, Q23, Q22, F114.cut rfl, (S112.trans S113).pick [0, 1, 2, 3, 4, 5, 6] rfl⟩
   refine x_lem (fun aZ wZ => ∃ (Q0 : Option Addr), ∃ (Q2 : Nat), ∃ (Q1 : Nat), ∃ (Q12 : Option Addr), ∃ (Q14 : Nat), ∃ (Q13 : Nat), ∃ (Q15 : Option Addr), ∃ (Q17 : Nat), ∃ (Q16 : Nat), Fr 20 [(15, .pointer (some ⟨b1, 4, none⟩)), (13, .agg #[.slice x_Ra x_Rn x_Rc, .slice x_Wa x_Wn x_Wc]), (11, .slice Q15 Q17 Q16), (8, .slice Q12 Q14 Q13), (5, .slice Q0 Q2 Q1), (2, .pointer (some ⟨b3, 0, none⟩)), (1, .pointer (some ⟨b1, 0, none⟩))] aZ ∧ Mv [bx b3 [.int .i64 0, .int .i64 0, .int .i64 0, .int .i64 0, .slice none 0 0, .slice none 0 0, .slice none 0 0, .slice none 0 0, .slice none 0 0, .int .i64 0] 71, bx b1 [.int .i64 x.id, .int .i64 x.age, .int .i64 x.proc, .int .i64 x.began, .slice Q9 Q11 Q10, .slice Q6 Q8 Q7, .slice x_Ra x_Rn x_Rc, .slice x_Wa x_Wn x_Wc, .slice Q3 Q5 Q4, .int .i64 x.state] 71] w6 [ow 3 1 encI okI (.slice Q15 Q17 Q16) x.marks, ow 151 3 encR okR (.slice Q12 Q14 Q13) x.answers, ow 148 6 encK okK (.slice Q0 Q2 Q1) x.calls, bx b3 [.int .i64 0, .int .i64 0, .int .i64 0, .int .i64 0, .slice none 0 0, .slice none 0 0, .slice none 0 0, .slice none 0 0, .slice none 0 0, .int .i64 0] 71, bx b1 [.int .i64 x.id, .int .i64 x.age, .int .i64 x.proc, .int .i64 x.began, .slice Q9 Q11 Q10, .slice Q6 Q8 Q7, .slice x_Ra x_Rn x_Rc, .slice x_Wa x_Wn x_Wc, .slice Q3 Q5 Q4, .int .i64 x.state] 71] wZ) #[yT, yT, yT, yT, yT, yT, yT, yT, yT, yT, yT, nF, yT, nF, nF, nF, nF, nF, nF, nF] 8 ?_ (fun G115 => ?_)
   · rintro a115 w115 ⟨Q0, Q2, Q1, Q12, Q14, Q13, Q15, Q17, Q16, F115, S115⟩
     obtain ⟨Q132, Q195, Q258⟩ := At.ownInv S115.at' ET_53.hk 0 rfl
     obtain ⟨Q133, Q196, Q259⟩ := At.ownInv S115.at' ET_67.hk 1 rfl
     obtain ⟨Q134, Q197, Q260⟩ := At.ownInv S115.at' ET_66.hk 2 rfl
     refine d_one (i := 11) (listed' := #[yT, yT, yT, yT, yT, yT, yT, yT, yT, yT, yT, yT, yT, nF, nF, nF, nF, nF, nF, nF]) rfl (by kernel_rfl) rfl rfl ?_
     refine f_call F115 CF_137 rfl rfl rfl rfl (lc (F115.ev 13 rfl) rfl) (impl_Touch_clone_c (t := x.touch) (Rd.mv (Nat.succ_pos _) Q95 (S1.trans (S3.trans (S6.trans S115)))) (Rd.mv (Nat.succ_pos _) Q96 (S1.trans (S3.trans (S6.trans S115)))) (by first | assumption | omega | (simp <;> omega)) (by first | assumption | omega | (simp <;> omega))) ?_
     rintro _ w116 ⟨Q28, Q32, Q30, Q34, Q38, Q36, rfl, m116⟩
     refine ⟨_, rfl, fun _ F117 => ?_⟩
     have S116 : Mv _ _ [ow 9 1 encS okS (.slice Q28 Q32 Q30) x.touch.reads, ow 9 1 encS okS (.slice Q34 Q38 Q36) x.touch.writes, ow 3 1 encI okI (.slice Q15 Q17 Q16) x.marks, ow 151 3 encR okR (.slice Q12 Q14 Q13) x.answers, ow 148 6 encK okK (.slice Q0 Q2 Q1) x.calls, bx b3 [.int .i64 0, .int .i64 0, .int .i64 0, .int .i64 0, .slice none 0 0, .slice none 0 0, .slice none 0 0, .slice none 0 0, .slice none 0 0, .int .i64 0] 71, bx b1 [.int .i64 x.id, .int .i64 x.age, .int .i64 x.proc, .int .i64 x.began, .slice Q9 Q11 Q10, .slice Q6 Q8 Q7, .slice x_Ra x_Rn x_Rc, .slice x_Wa x_Wn x_Wc, .slice Q3 Q5 Q4, .int .i64 x.state] 71] _ := At.frame S115.at' [] rfl m116
     obtain ⟨Q135, Q198, Q261⟩ := At.ownInv S116.at' ET_62.hk 0 rfl
     obtain ⟨Q136, Q199, Q262⟩ := At.ownInv S116.at' ET_62.hk 1 rfl
     clear m116
     refine ⟨Sd.of (S115.trans S116) [] rfl, ?_⟩
     exact G112 _ _ ⟨Q0, Q2, Q1, Q12, Q14, Q13, Q15, Q17, Q16, Q28, Q32, Q30, Q34, Q38, Q36, F117.cut rfl, (S115.trans S116).pick [0, 1, 2, 3, 4, 5, 6] rfl⟩
   refine x_lem (fun aZ wZ => ∃ (Q0 : Option Addr), ∃ (Q2 : Nat), ∃ (Q1 : Nat), ∃ (Q12 : Option Addr), ∃ (Q14 : Nat), ∃ (Q13 : Nat), Fr 20 [(15, .pointer (some ⟨b1, 4, none⟩)), (13, .agg #[.slice x_Ra x_Rn x_Rc, .slice x_Wa x_Wn x_Wc]), (10, .slice Q3 Q5 Q4), (8, .slice Q12 Q14 Q13), (5, .slice Q0 Q2 Q1), (2, .pointer (some ⟨b3, 0, none⟩)), (1, .pointer (some ⟨b1, 0, none⟩))] aZ ∧ Mv [bx b3 [.int .i64 0, .int .i64 0, .int .i64 0, .int .i64 0, .slice none 0 0, .slice none 0 0, .slice none 0 0, .slice none 0 0, .slice none 0 0, .int .i64 0] 71, bx b1 [.int .i64 x.id, .int .i64 x.age, .int .i64 x.proc, .int .i64 x.began, .slice Q9 Q11 Q10, .slice Q6 Q8 Q7, .slice x_Ra x_Rn x_Rc, .slice x_Wa x_Wn x_Wc, .slice Q3 Q5 Q4, .int .i64 x.state] 71] w6 [ow 151 3 encR okR (.slice Q12 Q14 Q13) x.answers, ow 148 6 encK okK (.slice Q0 Q2 Q1) x.calls, bx b3 [.int .i64 0, .int .i64 0, .int .i64 0, .int .i64 0, .slice none 0 0, .slice none 0 0, .slice none 0 0, .slice none 0 0, .slice none 0 0, .int .i64 0] 71, bx b1 [.int .i64 x.id, .int .i64 x.age, .int .i64 x.proc, .int .i64 x.began, .slice Q9 Q11 Q10, .slice Q6 Q8 Q7, .slice x_Ra x_Rn x_Rc, .slice x_Wa x_Wn x_Wc, .slice Q3 Q5 Q4, .int .i64 x.state] 71] wZ) #[yT, yT, yT, yT, yT, yT, yT, yT, nF, yT, yT, nF, yT, nF, nF, nF, nF, nF, nF, nF] 9 ?_ (fun G118 => ?_)
   · rintro a118 w118 ⟨Q0, Q2, Q1, Q12, Q14, Q13, F118, S118⟩
     obtain ⟨Q137, Q200, Q263⟩ := At.ownInv S118.at' ET_67.hk 0 rfl
     obtain ⟨Q138, Q201, Q264⟩ := At.ownInv S118.at' ET_66.hk 1 rfl
     refine d_one (i := 8) (listed' := #[yT, yT, yT, yT, yT, yT, yT, yT, yT, yT, yT, nF, yT, nF, nF, nF, nF, nF, nF, nF]) rfl (by kernel_rfl) rfl rfl ?_
     refine f_call F118 CF_136 rfl rfl rfl rfl (lc (F118.ev 10 rfl) rfl) (slices_Clone_Sint_int_c (s := x.marks) (Rd.mv (Nat.succ_pos _) Q26 (S1.trans (S3.trans (S6.trans S118)))) (by first | assumption | omega | (simp <;> omega))) ?_
     rintro _ w119 ⟨Q39, Q76, Q56, rfl, m119⟩
     refine ⟨_, rfl, fun _ F120 => ?_⟩
     have S119 : Mv _ _ [ow 3 1 encI okI (.slice Q39 Q76 Q56) x.marks, ow 151 3 encR okR (.slice Q12 Q14 Q13) x.answers, ow 148 6 encK okK (.slice Q0 Q2 Q1) x.calls, bx b3 [.int .i64 0, .int .i64 0, .int .i64 0, .int .i64 0, .slice none 0 0, .slice none 0 0, .slice none 0 0, .slice none 0 0, .slice none 0 0, .int .i64 0] 71, bx b1 [.int .i64 x.id, .int .i64 x.age, .int .i64 x.proc, .int .i64 x.began, .slice Q9 Q11 Q10, .slice Q6 Q8 Q7, .slice x_Ra x_Rn x_Rc, .slice x_Wa x_Wn x_Wc, .slice Q3 Q5 Q4, .int .i64 x.state] 71] _ := At.frame S118.at' [] rfl m119
     obtain ⟨Q139, Q202, Q265⟩ := At.ownInv S119.at' ET_53.hk 0 rfl
     clear m119
     refine ⟨Sd.of (S118.trans S119) [] rfl, ?_⟩
     exact G115 _ _ ⟨Q0, Q2, Q1, Q12, Q14, Q13, Q39, Q76, Q56, F120.cut rfl, (S118.trans S119).pick [0, 1, 2, 3, 4] rfl⟩
   refine x_lem (fun aZ wZ => ∃ (Q0 : Option Addr), ∃ (Q2 : Nat), ∃ (Q1 : Nat), ∃ (Q12 : Option Addr), ∃ (Q14 : Nat), ∃ (Q13 : Nat), ∃ (Q15 : Option Addr), ∃ (Q17 : Nat), ∃ (Q16 : Nat), Fr 20 [(11, .slice Q15 Q17 Q16), (8, .slice Q12 Q14 Q13), (5, .slice Q0 Q2 Q1), (12, .pointer (some ⟨b1, 6, none⟩)), (2, .pointer (some ⟨b3, 0, none⟩)), (1, .pointer (some ⟨b1, 0, none⟩))] aZ ∧ Mv [bx b3 [.int .i64 0, .int .i64 0, .int .i64 0, .int .i64 0, .slice none 0 0, .slice none 0 0, .slice none 0 0, .slice none 0 0, .slice none 0 0, .int .i64 0] 71, bx b1 [.int .i64 x.id, .int .i64 x.age, .int .i64 x.proc, .int .i64 x.began, .slice Q9 Q11 Q10, .slice Q6 Q8 Q7, .slice x_Ra x_Rn x_Rc, .slice x_Wa x_Wn x_Wc, .slice Q3 Q5 Q4, .int .i64 x.state] 71] w6 [ow 3 1 encI okI (.slice Q15 Q17 Q16) x.marks, ow 151 3 encR okR (.slice Q12 Q14 Q13) x.answers, ow 148 6 encK okK (.slice Q0 Q2 Q1) x.calls, bx b3 [.int .i64 0, .int .i64 0, .int .i64 0, .int .i64 0, .slice none 0 0, .slice none 0 0, .slice none 0 0, .slice none 0 0, .slice none 0 0, .int .i64 0] 71, bx b1 [.int .i64 x.id, .int .i64 x.age, .int .i64 x.proc, .int .i64 x.began, .slice Q9 Q11 Q10, .slice Q6 Q8 Q7, .slice x_Ra x_Rn x_Rc, .slice x_Wa x_Wn x_Wc, .slice Q3 Q5 Q4, .int .i64 x.state] 71] wZ) #[yT, yT, yT, yT, yT, yT, yT, yT, yT, yT, nF, nF, nF, nF, nF, nF, nF, nF, nF, nF] 10 ?_ (fun G121 => ?_)
   · rintro a121 w121 ⟨Q0, Q2, Q1, Q12, Q14, Q13, Q15, Q17, Q16, F121, S121⟩
     obtain ⟨Q140, Q203, Q266⟩ := At.ownInv S121.at' ET_53.hk 0 rfl
     obtain ⟨Q141, Q204, Q267⟩ := At.ownInv S121.at' ET_67.hk 1 rfl
     obtain ⟨Q142, Q205, Q268⟩ := At.ownInv S121.at' ET_66.hk 2 rfl
     refine d_one (i := 10) (listed' := #[yT, yT, yT, yT, yT, yT, yT, yT, yT, yT, yT, nF, nF, nF, nF, nF, nF, nF, nF, nF]) rfl (by kernel_rfl) rfl rfl ?_
     refine f_val (v := .agg #[.slice x_Ra x_Rn x_Rc, .slice x_Wa x_Wn x_Wc]) F121 rfl rfl (r_loadB S121.at' 4 TI_69 rfl rfl (F121.ev 12 rfl) rfl rfl (fun h => nomatch h) rfl) rfl fun _ F122 => ?_
     refine ⟨Sd.of S121 [] rfl, ?_⟩
     refine g_take F122 rfl (i := 12) (listed' := #[yT, yT, yT, yT, yT, yT, yT, yT, yT, yT, yT, nF, yT, nF, nF, nF, nF, nF, nF, nF]) rfl (by kernel_rfl) (by kernel_rfl) (by kernel_rfl) (fun _ _ _ h => h) (Sd.of S121 [] rfl) rfl rfl rfl rfl (fun _ hz => (r_field FI_71_4 rfl (F122.ev 1 rfl) rfl)) fun _ F123 => ?_
     exact G115 _ _ ⟨Q0, Q2, Q1, Q12, Q14, Q13, Q15, Q17, Q16, F123.cut rfl, S121.pick [0, 1, 2, 3, 4] rfl⟩
   refine x_lem (fun aZ wZ => ∃ (Q0 : Option Addr), ∃ (Q2 : Nat), ∃ (Q1 : Nat), Fr 20 [(15, .pointer (some ⟨b1, 4, none⟩)), (13, .agg #[.slice x_Ra x_Rn x_Rc, .slice x_Wa x_Wn x_Wc]), (10, .slice Q3 Q5 Q4), (7, .slice Q6 Q8 Q7), (5, .slice Q0 Q2 Q1), (2, .pointer (some ⟨b3, 0, none⟩)), (1, .pointer (some ⟨b1, 0, none⟩))] aZ ∧ Mv [bx b3 [.int .i64 0, .int .i64 0, .int .i64 0, .int .i64 0, .slice none 0 0, .slice none 0 0, .slice none 0 0, .slice none 0 0, .slice none 0 0, .int .i64 0] 71, bx b1 [.int .i64 x.id, .int .i64 x.age, .int .i64 x.proc, .int .i64 x.began, .slice Q9 Q11 Q10, .slice Q6 Q8 Q7, .slice x_Ra x_Rn x_Rc, .slice x_Wa x_Wn x_Wc, .slice Q3 Q5 Q4, .int .i64 x.state] 71] w6 [ow 148 6 encK okK (.slice Q0 Q2 Q1) x.calls, bx b3 [.int .i64 0, .int .i64 0, .int .i64 0, .int .i64 0, .slice none 0 0, .slice none 0 0, .slice none 0 0, .slice none 0 0, .slice none 0 0, .int .i64 0] 71, bx b1 [.int .i64 x.id, .int .i64 x.age, .int .i64 x.proc, .int .i64 x.began, .slice Q9 Q11 Q10, .slice Q6 Q8 Q7, .slice x_Ra x_Rn x_Rc, .slice x_Wa x_Wn x_Wc, .slice Q3 Q5 Q4, .int .i64 x.state] 71] wZ) #[yT, yT, yT, yT, yT, nF, yT, yT, nF, yT, yT, nF, yT, nF, nF, nF, nF, nF, nF, nF] 10 ?_ (fun G124 => ?_)
   · rintro a124 w124 ⟨Q0, Q2, Q1, F124, S124⟩
     obtain ⟨Q143, Q206, Q269⟩ := At.ownInv S124.at' ET_66.hk 0 rfl
     refine d_one (i := 5) (listed' := #[yT, yT, yT, yT, yT, yT, yT, yT, nF, yT, yT, nF, yT, nF, nF, nF, nF, nF, nF, nF]) rfl (by kernel_rfl) rfl rfl ?_
     refine f_call F124 CF_135 rfl rfl rfl rfl (lc (F124.ev 7 rfl) rfl) (slices_Clone_Simpl_Answer_impl_Answer_c (s := x.answers) (Rd.mv (Nat.succ_pos _) Q25 (S1.trans (S3.trans (S6.trans S124)))) (by first | assumption | omega | (simp <;> omega))) ?_
     rintro _ w125 ⟨Q40, Q77, Q57, rfl, m125⟩
     refine ⟨_, rfl, fun _ F126 => ?_⟩
     have S125 : Mv _ _ [ow 151 3 encR okR (.slice Q40 Q77 Q57) x.answers, ow 148 6 encK okK (.slice Q0 Q2 Q1) x.calls, bx b3 [.int .i64 0, .int .i64 0, .int .i64 0, .int .i64 0, .slice none 0 0, .slice none 0 0, .slice none 0 0, .slice none 0 0, .slice none 0 0, .int .i64 0] 71, bx b1 [.int .i64 x.id, .int .i64 x.age, .int .i64 x.proc, .int .i64 x.began, .slice Q9 Q11 Q10, .slice Q6 Q8 Q7, .slice x_Ra x_Rn x_Rc, .slice x_Wa x_Wn x_Wc, .slice Q3 Q5 Q4, .int .i64 x.state] 71] _ := At.frame S124.at' [] rfl m125
     obtain ⟨Q144, Q207, Q270⟩ := At.ownInv S125.at' ET_67.hk 0 rfl
     clear m125
     refine ⟨Sd.of (S124.trans S125) [] rfl, ?_⟩
     exact G118 _ _ ⟨Q0, Q2, Q1, Q40, Q77, Q57, F126.cut rfl, (S124.trans S125).pick [0, 1, 2, 3] rfl⟩
   refine x_lem (fun aZ wZ => ∃ (Q0 : Option Addr), ∃ (Q2 : Nat), ∃ (Q1 : Nat), ∃ (Q12 : Option Addr), ∃ (Q14 : Nat), ∃ (Q13 : Nat), Fr 20 [(10, .slice Q3 Q5 Q4), (8, .slice Q12 Q14 Q13), (5, .slice Q0 Q2 Q1), (12, .pointer (some ⟨b1, 6, none⟩)), (2, .pointer (some ⟨b3, 0, none⟩)), (1, .pointer (some ⟨b1, 0, none⟩))] aZ ∧ Mv [bx b3 [.int .i64 0, .int .i64 0, .int .i64 0, .int .i64 0, .slice none 0 0, .slice none 0 0, .slice none 0 0, .slice none 0 0, .slice none 0 0, .int .i64 0] 71, bx b1 [.int .i64 x.id, .int .i64 x.age, .int .i64 x.proc, .int .i64 x.began, .slice Q9 Q11 Q10, .slice Q6 Q8 Q7, .slice x_Ra x_Rn x_Rc, .slice x_Wa x_Wn x_Wc, .slice Q3 Q5 Q4, .int .i64 x.state] 71] w6 [ow 151 3 encR okR (.slice Q12 Q14 Q13) x.answers, ow 148 6 encK okK (.slice Q0 Q2 Q1) x.calls, bx b3 [.int .i64 0, .int .i64 0, .int .i64 0, .int .i64 0, .slice none 0 0, .slice none 0 0, .slice none 0 0, .slice none 0 0, .slice none 0 0, .int .i64 0] 71, bx b1 [.int .i64 x.id, .int .i64 x.age, .int .i64 x.proc, .int .i64 x.began, .slice Q9 Q11 Q10, .slice Q6 Q8 Q7, .slice x_Ra x_Rn x_Rc, .slice x_Wa x_Wn x_Wc, .slice Q3 Q5 Q4, .int .i64 x.state] 71] wZ) #[yT, yT, yT, yT, yT, yT, yT, yT, nF, yT, nF, nF, nF, nF, nF, nF, nF, nF, nF, nF] 11 ?_ (fun G127 => ?_)
   · rintro a127 w127 ⟨Q0, Q2, Q1, Q12, Q14, Q13, F127, S127⟩
     obtain ⟨Q145, Q208, Q271⟩ := At.ownInv S127.at' ET_67.hk 0 rfl
     obtain ⟨Q146, Q209, Q272⟩ := At.ownInv S127.at' ET_66.hk 1 rfl
     refine d_all (rs := [8, 10]) rfl (by kernel_rfl) (by simp) (d_cons (i := 8) (listed' := #[yT, yT, yT, yT, yT, yT, yT, yT, yT, yT, nF, nF, nF, nF, nF, nF, nF, nF, nF, nF]) rfl rfl ?_ (d_cons (i := 10) (listed' := #[yT, yT, yT, yT, yT, yT, yT, yT, nF, yT, yT, nF, nF, nF, nF, nF, nF, nF, nF, nF]) rfl rfl ?_ d_nil))
     · skip
       refine f_call F127 CF_136 rfl rfl rfl rfl (lc (F127.ev 10 rfl) rfl) (slices_Clone_Sint_int_c (s := x.marks) (Rd.mv (Nat.succ_pos _) Q26 (S1.trans (S3.trans (S6.trans S127)))) (by first | assumption | omega | (simp <;> omega))) ?_
       rintro _ w128 ⟨Q41, Q78, Q58, rfl, m128⟩
       refine ⟨_, rfl, fun _ F129 => ?_⟩
       have S128 : Mv _ _ [ow 3 1 encI okI (.slice Q41 Q78 Q58) x.marks, ow 151 3 encR okR (.slice Q12 Q14 Q13) x.answers, ow 148 6 encK okK (.slice Q0 Q2 Q1) x.calls, bx b3 [.int .i64 0, .int .i64 0, .int .i64 0, .int .i64 0, .slice none 0 0, .slice none 0 0, .slice none 0 0, .slice none 0 0, .slice none 0 0, .int .i64 0] 71, bx b1 [.int .i64 x.id, .int .i64 x.age, .int .i64 x.proc, .int .i64 x.began, .slice Q9 Q11 Q10, .slice Q6 Q8 Q7, .slice x_Ra x_Rn x_Rc, .slice x_Wa x_Wn x_Wc, .slice Q3 Q5 Q4, .int .i64 x.state] 71] _ := At.frame S127.at' [] rfl m128
       obtain ⟨Q147, Q210, Q273⟩ := At.ownInv S128.at' ET_53.hk 0 rfl
       clear m128
       refine ⟨Sd.of (S127.trans S128) [] rfl, ?_⟩
       exact G121 _ _ ⟨Q0, Q2, Q1, Q12, Q14, Q13, Q41, Q78, Q58, F129.cut rfl, (S127.trans S128).pick [0, 1, 2, 3, 4] rfl⟩
     · skip
       refine f_val (v := .agg #[.slice x_Ra x_Rn x_Rc, .slice x_Wa x_Wn x_Wc]) F127 rfl rfl (r_loadB S127.at' 3 TI_69 rfl rfl (F127.ev 12 rfl) rfl rfl (fun h => nomatch h) rfl) rfl fun _ F130 => ?_
       refine ⟨Sd.of S127 [] rfl, ?_⟩
       refine g_take F130 rfl (i := 12) (listed' := #[yT, yT, yT, yT, yT, yT, yT, yT, nF, yT, yT, nF, yT, nF, nF, nF, nF, nF, nF, nF]) rfl (by kernel_rfl) (by kernel_rfl) (by kernel_rfl) (fun _ _ _ h => h) (Sd.of S127 [] rfl) rfl rfl rfl rfl (fun _ hz => (r_field FI_71_4 rfl (F130.ev 1 rfl) rfl)) fun _ F131 => ?_
       exact G118 _ _ ⟨Q0, Q2, Q1, Q12, Q14, Q13, F131.cut rfl, S127.pick [0, 1, 2, 3] rfl⟩
   refine x_lem (fun aZ wZ => ∃ (Q0 : Option Addr), ∃ (Q2 : Nat), ∃ (Q1 : Nat), ∃ (Q12 : Option Addr), ∃ (Q14 : Nat), ∃ (Q13 : Nat), Fr 20 [(13, .agg #[.slice x_Ra x_Rn x_Rc, .slice x_Wa x_Wn x_Wc]), (8, .slice Q12 Q14 Q13), (5, .slice Q0 Q2 Q1), (9, .pointer (some ⟨b1, 8, none⟩)), (2, .pointer (some ⟨b3, 0, none⟩)), (1, .pointer (some ⟨b1, 0, none⟩))] aZ ∧ Mv [bx b3 [.int .i64 0, .int .i64 0, .int .i64 0, .int .i64 0, .slice none 0 0, .slice none 0 0, .slice none 0 0, .slice none 0 0, .slice none 0 0, .int .i64 0] 71, bx b1 [.int .i64 x.id, .int .i64 x.age, .int .i64 x.proc, .int .i64 x.began, .slice Q9 Q11 Q10, .slice Q6 Q8 Q7, .slice x_Ra x_Rn x_Rc, .slice x_Wa x_Wn x_Wc, .slice Q3 Q5 Q4, .int .i64 x.state] 71] w6 [ow 151 3 encR okR (.slice Q12 Q14 Q13) x.answers, ow 148 6 encK okK (.slice Q0 Q2 Q1) x.calls, bx b3 [.int .i64 0, .int .i64 0, .int .i64 0, .int .i64 0, .slice none 0 0, .slice none 0 0, .slice none 0 0, .slice none 0 0, .slice none 0 0, .int .i64 0] 71, bx b1 [.int .i64 x.id, .int .i64 x.age, .int .i64 x.proc, .int .i64 x.began, .slice Q9 Q11 Q10, .slice Q6 Q8 Q7, .slice x_Ra x_Rn x_Rc, .slice x_Wa x_Wn x_Wc, .slice Q3 Q5 Q4, .int .i64 x.state] 71] wZ) #[yT, yT, yT, yT, yT, yT, yT, nF, nF, yT, yT, nF, nF, nF, nF, nF, nF, nF, nF, nF] 11 ?_ (fun G132 => ?_)
   · rintro a132 w132 ⟨Q0, Q2, Q1, Q12, Q14, Q13, F132, S132⟩
     obtain ⟨Q148, Q211, Q274⟩ := At.ownInv S132.at' ET_67.hk 0 rfl
     obtain ⟨Q149, Q212, Q275⟩ := At.ownInv S132.at' ET_66.hk 1 rfl
     refine d_one (i := 7) (listed' := #[yT, yT, yT, yT, yT, yT, yT, yT, nF, yT, yT, nF, nF, nF, nF, nF, nF, nF, nF, nF]) rfl (by kernel_rfl) rfl rfl ?_
     refine f_val (v := .slice Q3 Q5 Q4) F132 rfl rfl (r_loadB S132.at' 3 TI_53 rfl rfl (F132.ev 9 rfl) rfl rfl (fun _ => rfl) rfl) rfl fun _ F133 => ?_
     refine ⟨Sd.of S132 [] rfl, ?_⟩
     refine g_take F133 rfl (i := 12) (listed' := #[yT, yT, yT, yT, yT, yT, yT, yT, nF, yT, yT, nF, yT, nF, nF, nF, nF, nF, nF, nF]) rfl (by kernel_rfl) (by kernel_rfl) (by kernel_rfl) (fun _ _ _ h => h) (Sd.of S132 [] rfl) rfl rfl rfl rfl (fun _ hz => (r_field FI_71_4 rfl (F133.ev 1 rfl) rfl)) fun _ F134 => ?_
     exact G118 _ _ ⟨Q0, Q2, Q1, Q12, Q14, Q13, F134.cut rfl, S132.pick [0, 1, 2, 3] rfl⟩
   refine x_lem (fun aZ wZ => ∃ (Q0 : Option Addr), ∃ (Q2 : Nat), ∃ (Q1 : Nat), ∃ (Q12 : Option Addr), ∃ (Q14 : Nat), ∃ (Q13 : Nat), Fr 20 [(8, .slice Q12 Q14 Q13), (5, .slice Q0 Q2 Q1), (12, .pointer (some ⟨b1, 6, none⟩)), (9, .pointer (some ⟨b1, 8, none⟩)), (2, .pointer (some ⟨b3, 0, none⟩)), (1, .pointer (some ⟨b1, 0, none⟩))] aZ ∧ Mv [bx b3 [.int .i64 0, .int .i64 0, .int .i64 0, .int .i64 0, .slice none 0 0, .slice none 0 0, .slice none 0 0, .slice none 0 0, .slice none 0 0, .int .i64 0] 71, bx b1 [.int .i64 x.id, .int .i64 x.age, .int .i64 x.proc, .int .i64 x.began, .slice Q9 Q11 Q10, .slice Q6 Q8 Q7, .slice x_Ra x_Rn x_Rc, .slice x_Wa x_Wn x_Wc, .slice Q3 Q5 Q4, .int .i64 x.state] 71] w6 [ow 151 3 encR okR (.slice Q12 Q14 Q13) x.answers, ow 148 6 encK okK (.slice Q0 Q2 Q1) x.calls, bx b3 [.int .i64 0, .int .i64 0, .int .i64 0, .int .i64 0, .slice none 0 0, .slice none 0 0, .slice none 0 0, .slice none 0 0, .slice none 0 0, .int .i64 0] 71, bx b1 [.int .i64 x.id, .int .i64 x.age, .int .i64 x.proc, .int .i64 x.began, .slice Q9 Q11 Q10, .slice Q6 Q8 Q7, .slice x_Ra x_Rn x_Rc, .slice x_Wa x_Wn x_Wc, .slice Q3 Q5 Q4, .int .i64 x.state] 71] wZ) #[yT, yT, yT, yT, yT, yT, yT, nF, nF, yT, nF, nF, nF, nF, nF, nF, nF, nF, nF, nF] 12 ?_ (fun G135 => ?_)
   · rintro a135 w135 ⟨Q0, Q2, Q1, Q12, Q14, Q13, F135, S135⟩
     obtain ⟨Q150, Q213, Q276⟩ := At.ownInv S135.at' ET_67.hk 0 rfl
     obtain ⟨Q151, Q214, Q277⟩ := At.ownInv S135.at' ET_66.hk 1 rfl
     refine d_all (rs := [7, 10]) rfl (by kernel_rfl) (by simp) (d_cons (i := 7) (listed' := #[yT, yT, yT, yT, yT, yT, yT, yT, nF, yT, nF, nF, nF, nF, nF, nF, nF, nF, nF, nF]) rfl rfl ?_ (d_cons (i := 10) (listed' := #[yT, yT, yT, yT, yT, yT, yT, nF, nF, yT, yT, nF, nF, nF, nF, nF, nF, nF, nF, nF]) rfl rfl ?_ d_nil))
     · skip
       refine f_val (v := .slice Q3 Q5 Q4) F135 rfl rfl (r_loadB S135.at' 3 TI_53 rfl rfl (F135.ev 9 rfl) rfl rfl (fun _ => rfl) rfl) rfl fun _ F136 => ?_
       refine ⟨Sd.of S135 [] rfl, ?_⟩
       exact G127 _ _ ⟨Q0, Q2, Q1, Q12, Q14, Q13, F136.cut rfl, S135.pick [0, 1, 2, 3] rfl⟩
     · skip
       refine f_val (v := .agg #[.slice x_Ra x_Rn x_Rc, .slice x_Wa x_Wn x_Wc]) F135 rfl rfl (r_loadB S135.at' 3 TI_69 rfl rfl (F135.ev 12 rfl) rfl rfl (fun h => nomatch h) rfl) rfl fun _ F137 => ?_
       refine ⟨Sd.of S135 [] rfl, ?_⟩
       exact G132 _ _ ⟨Q0, Q2, Q1, Q12, Q14, Q13, F137.cut rfl, S135.pick [0, 1, 2, 3] rfl⟩
   refine x_lem (fun aZ wZ => ∃ (Q0 : Option Addr), ∃ (Q2 : Nat), ∃ (Q1 : Nat), Fr 20 [(10, .slice Q3 Q5 Q4), (7, .slice Q6 Q8 Q7), (5, .slice Q0 Q2 Q1), (12, .pointer (some ⟨b1, 6, none⟩)), (2, .pointer (some ⟨b3, 0, none⟩)), (1, .pointer (some ⟨b1, 0, none⟩))] aZ ∧ Mv [bx b3 [.int .i64 0, .int .i64 0, .int .i64 0, .int .i64 0, .slice none 0 0, .slice none 0 0, .slice none 0 0, .slice none 0 0, .slice none 0 0, .int .i64 0] 71, bx b1 [.int .i64 x.id, .int .i64 x.age, .int .i64 x.proc, .int .i64 x.began, .slice Q9 Q11 Q10, .slice Q6 Q8 Q7, .slice x_Ra x_Rn x_Rc, .slice x_Wa x_Wn x_Wc, .slice Q3 Q5 Q4, .int .i64 x.state] 71] w6 [ow 148 6 encK okK (.slice Q0 Q2 Q1) x.calls, bx b3 [.int .i64 0, .int .i64 0, .int .i64 0, .int .i64 0, .slice none 0 0, .slice none 0 0, .slice none 0 0, .slice none 0 0, .slice none 0 0, .int .i64 0] 71, bx b1 [.int .i64 x.id, .int .i64 x.age, .int .i64 x.proc, .int .i64 x.began, .slice Q9 Q11 Q10, .slice Q6 Q8 Q7, .slice x_Ra x_Rn x_Rc, .slice x_Wa x_Wn x_Wc, .slice Q3 Q5 Q4, .int .i64 x.state] 71] wZ) #[yT, yT, yT, yT, yT, nF, yT, yT, nF, yT, nF, nF, nF, nF, nF, nF, nF, nF, nF, nF] 12 ?_ (fun G138 => ?_)
   · rintro a138 w138 ⟨Q0, Q2, Q1, F138, S138⟩
     obtain ⟨Q152, Q215, Q278⟩ := At.ownInv S138.at' ET_66.hk 0 rfl
     refine d_all (rs := [5, 10]) rfl (by kernel_rfl) (by simp) (d_cons (i := 5) (listed' := #[yT, yT, yT, yT, yT, yT, yT, yT, nF, yT, nF, nF, nF, nF, nF, nF, nF, nF, nF, nF]) rfl rfl ?_ (d_cons (i := 10) (listed' := #[yT, yT, yT, yT, yT, nF, yT, yT, nF, yT, yT, nF, nF, nF, nF, nF, nF, nF, nF, nF]) rfl rfl ?_ d_nil))
     · skip
       refine f_call F138 CF_135 rfl rfl rfl rfl (lc (F138.ev 7 rfl) rfl) (slices_Clone_Simpl_Answer_impl_Answer_c (s := x.answers) (Rd.mv (Nat.succ_pos _) Q25 (S1.trans (S3.trans (S6.trans S138)))) (by first | assumption | omega | (simp <;> omega))) ?_
       rintro _ w139 ⟨Q42, Q79, Q59, rfl, m139⟩
       refine ⟨_, rfl, fun _ F140 => ?_⟩
       have S139 : Mv _ _ [ow 151 3 encR okR (.slice Q42 Q79 Q59) x.answers, ow 148 6 encK okK (.slice Q0 Q2 Q1) x.calls, bx b3 [.int .i64 0, .int .i64 0, .int .i64 0, .int .i64 0, .slice none 0 0, .slice none 0 0, .slice none 0 0, .slice none 0 0, .slice none 0 0, .int .i64 0] 71, bx b1 [.int .i64 x.id, .int .i64 x.age, .int .i64 x.proc, .int .i64 x.began, .slice Q9 Q11 Q10, .slice Q6 Q8 Q7, .slice x_Ra x_Rn x_Rc, .slice x_Wa x_Wn x_Wc, .slice Q3 Q5 Q4, .int .i64 x.state] 71] _ := At.frame S138.at' [] rfl m139
       obtain ⟨Q153, Q216, Q279⟩ := At.ownInv S139.at' ET_67.hk 0 rfl
       clear m139
       refine ⟨Sd.of (S138.trans S139) [] rfl, ?_⟩
       exact G127 _ _ ⟨Q0, Q2, Q1, Q42, Q79, Q59, F140.cut rfl, (S138.trans S139).pick [0, 1, 2, 3] rfl⟩
     · skip
       refine f_val (v := .agg #[.slice x_Ra x_Rn x_Rc, .slice x_Wa x_Wn x_Wc]) F138 rfl rfl (r_loadB S138.at' 2 TI_69 rfl rfl (F138.ev 12 rfl) rfl rfl (fun h => nomatch h) rfl) rfl fun _ F141 => ?_
       refine ⟨Sd.of S138 [] rfl, ?_⟩
       refine g_take F141 rfl (i := 12) (listed' := #[yT, yT, yT, yT, yT, nF, yT, yT, nF, yT, yT, nF, yT, nF, nF, nF, nF, nF, nF, nF]) rfl (by kernel_rfl) (by kernel_rfl) (by kernel_rfl) (fun _ _ _ h => h) (Sd.of S138 [] rfl) rfl rfl rfl rfl (fun _ hz => (r_field FI_71_4 rfl (F141.ev 1 rfl) rfl)) fun _ F142 => ?_
       exact G124 _ _ ⟨Q0, Q2, Q1, F142.cut rfl, S138.pick [0, 1, 2] rfl⟩
   refine x_lem (fun aZ wZ => ∃ (Q0 : Option Addr), ∃ (Q2 : Nat), ∃ (Q1 : Nat), Fr 20 [(13, .agg #[.slice x_Ra x_Rn x_Rc, .slice x_Wa x_Wn x_Wc]), (7, .slice Q6 Q8 Q7), (5, .slice Q0 Q2 Q1), (9, .pointer (some ⟨b1, 8, none⟩)), (2, .pointer (some ⟨b3, 0, none⟩)), (1, .pointer (some ⟨b1, 0, none⟩))] aZ ∧ Mv [bx b3 [.int .i64 0, .int .i64 0, .int .i64 0, .int .i64 0, .slice none 0 0, .slice none 0 0, .slice none 0 0, .slice none 0 0, .slice none 0 0, .int .i64 0] 71, bx b1 [.int .i64 x.id, .int .i64 x.age, .int .i64 x.proc, .int .i64 x.began, .slice Q9 Q11 Q10, .slice Q6 Q8 Q7, .slice x_Ra x_Rn x_Rc, .slice x_Wa x_Wn x_Wc, .slice Q3 Q5 Q4, .int .i64 x.state] 71] w6 [ow 148 6 encK okK (.slice Q0 Q2 Q1) x.calls, bx b3 [.int .i64 0, .int .i64 0, .int .i64 0, .int .i64 0, .slice none 0 0, .slice none 0 0, .slice none 0 0, .slice none 0 0, .slice none 0 0, .int .i64 0] 71, bx b1 [.int .i64 x.id, .int .i64 x.age, .int .i64 x.proc, .int .i64 x.began, .slice Q9 Q11 Q10, .slice Q6 Q8 Q7, .slice x_Ra x_Rn x_Rc, .slice x_Wa x_Wn x_Wc, .slice Q3 Q5 Q4, .int .i64 x.state] 71] wZ) #[yT, yT, yT, yT, yT, nF, yT, nF, nF, yT, yT, nF, nF, nF, nF, nF, nF, nF, nF, nF] 12 ?_ (fun G143 => ?_)
   · rintro a143 w143 ⟨Q0, Q2, Q1, F143, S143⟩
     obtain ⟨Q154, Q217, Q280⟩ := At.ownInv S143.at' ET_66.hk 0 rfl
     refine d_all (rs := [5, 7]) rfl (by kernel_rfl) (by simp) (d_cons (i := 5) (listed' := #[yT, yT, yT, yT, yT, yT, yT, nF, nF, yT, yT, nF, nF, nF, nF, nF, nF, nF, nF, nF]) rfl rfl ?_ (d_cons (i := 7) (listed' := #[yT, yT, yT, yT, yT, nF, yT, yT, nF, yT, yT, nF, nF, nF, nF, nF, nF, nF, nF, nF]) rfl rfl ?_ d_nil))
     · skip
       refine f_call F143 CF_135 rfl rfl rfl rfl (lc (F143.ev 7 rfl) rfl) (slices_Clone_Simpl_Answer_impl_Answer_c (s := x.answers) (Rd.mv (Nat.succ_pos _) Q25 (S1.trans (S3.trans (S6.trans S143)))) (by first | assumption | omega | (simp <;> omega))) ?_
       rintro _ w144 ⟨Q43, Q80, Q60, rfl, m144⟩
       refine ⟨_, rfl, fun _ F145 => ?_⟩
       have S144 : Mv _ _ [ow 151 3 encR okR (.slice Q43 Q80 Q60) x.answers, ow 148 6 encK okK (.slice Q0 Q2 Q1) x.calls, bx b3 [.int .i64 0, .int .i64 0, .int .i64 0, .int .i64 0, .slice none 0 0, .slice none 0 0, .slice none 0 0, .slice none 0 0, .slice none 0 0, .int .i64 0] 71, bx b1 [.int .i64 x.id, .int .i64 x.age, .int .i64 x.proc, .int .i64 x.began, .slice Q9 Q11 Q10, .slice Q6 Q8 Q7, .slice x_Ra x_Rn x_Rc, .slice x_Wa x_Wn x_Wc, .slice Q3 Q5 Q4, .int .i64 x.state] 71] _ := At.frame S143.at' [] rfl m144
       obtain ⟨Q155, Q218, Q281⟩ := At.ownInv S144.at' ET_67.hk 0 rfl
       clear m144
       refine ⟨Sd.of (S143.trans S144) [] rfl, ?_⟩
       exact G132 _ _ ⟨Q0, Q2, Q1, Q43, Q80, Q60, F145.cut rfl, (S143.trans S144).pick [0, 1, 2, 3] rfl⟩
     · skip
       refine f_val (v := .slice Q3 Q5 Q4) F143 rfl rfl (r_loadB S143.at' 2 TI_53 rfl rfl (F143.ev 9 rfl) rfl rfl (fun _ => rfl) rfl) rfl fun _ F146 => ?_
       refine ⟨Sd.of S143 [] rfl, ?_⟩
       refine g_take F146 rfl (i := 12) (listed' := #[yT, yT, yT, yT, yT, nF, yT, yT, nF, yT, yT, nF, yT, nF, nF, nF, nF, nF, nF, nF]) rfl (by kernel_rfl) (by kernel_rfl) (by kernel_rfl) (fun _ _ _ h => h) (Sd.of S143 [] rfl) rfl rfl rfl rfl (fun _ hz => (r_field FI_71_4 rfl (F146.ev 1 rfl) rfl)) fun _ F147 => ?_
       exact G124 _ _ ⟨Q0, Q2, Q1, F147.cut rfl, S143.pick [0, 1, 2] rfl⟩
   refine x_lem (fun aZ wZ => ∃ (Q0 : Option Addr), ∃ (Q2 : Nat), ∃ (Q1 : Nat), Fr 20 [(13, .agg #[.slice x_Ra x_Rn x_Rc, .slice x_Wa x_Wn x_Wc]), (10, .slice Q3 Q5 Q4), (5, .slice Q0 Q2 Q1), (6, .pointer (some ⟨b1, 5, none⟩)), (2, .pointer (some ⟨b3, 0, none⟩)), (1, .pointer (some ⟨b1, 0, none⟩))] aZ ∧ Mv [bx b3 [.int .i64 0, .int .i64 0, .int .i64 0, .int .i64 0, .slice none 0 0, .slice none 0 0, .slice none 0 0, .slice none 0 0, .slice none 0 0, .int .i64 0] 71, bx b1 [.int .i64 x.id, .int .i64 x.age, .int .i64 x.proc, .int .i64 x.began, .slice Q9 Q11 Q10, .slice Q6 Q8 Q7, .slice x_Ra x_Rn x_Rc, .slice x_Wa x_Wn x_Wc, .slice Q3 Q5 Q4, .int .i64 x.state] 71] w6 [ow 148 6 encK okK (.slice Q0 Q2 Q1) x.calls, bx b3 [.int .i64 0, .int .i64 0, .int .i64 0, .int .i64 0, .slice none 0 0, .slice none 0 0, .slice none 0 0, .slice none 0 0, .slice none 0 0, .int .i64 0] 71, bx b1 [.int .i64 x.id, .int .i64 x.age, .int .i64 x.proc, .int .i64 x.began, .slice Q9 Q11 Q10, .slice Q6 Q8 Q7, .slice x_Ra x_Rn x_Rc, .slice x_Wa x_Wn x_Wc, .slice Q3 Q5 Q4, .int .i64 x.state] 71] wZ) #[yT, yT, yT, yT, nF, nF, yT, yT, nF, yT, yT, nF, nF, nF, nF, nF, nF, nF, nF, nF] 12 ?_ (fun G148 => ?_)
   · rintro a148 w148 ⟨Q0, Q2, Q1, F148, S148⟩
     obtain ⟨Q156, Q219, Q282⟩ := At.ownInv S148.at' ET_66.hk 0 rfl
     refine d_one (i := 4) (listed' := #[yT, yT, yT, yT, yT, nF, yT, yT, nF, yT, yT, nF, nF, nF, nF, nF, nF, nF, nF, nF]) rfl (by kernel_rfl) rfl rfl ?_
     refine f_val (v := .slice Q6 Q8 Q7) F148 rfl rfl (r_loadB S148.at' 2 TI_67 rfl rfl (F148.ev 6 rfl) rfl rfl (fun _ => rfl) rfl) rfl fun _ F149 => ?_
     refine ⟨Sd.of S148 [] rfl, ?_⟩
     refine g_take F149 rfl (i := 12) (listed' := #[yT, yT, yT, yT, yT, nF, yT, yT, nF, yT, yT, nF, yT, nF, nF, nF, nF, nF, nF, nF]) rfl (by kernel_rfl) (by kernel_rfl) (by kernel_rfl) (fun _ _ _ h => h) (Sd.of S148 [] rfl) rfl rfl rfl rfl (fun _ hz => (r_field FI_71_4 rfl (F149.ev 1 rfl) rfl)) fun _ F150 => ?_
     exact G124 _ _ ⟨Q0, Q2, Q1, F150.cut rfl, S148.pick [0, 1, 2] rfl⟩
   refine x_lem (fun aZ wZ => Fr 20 [(13, .agg #[.slice x_Ra x_Rn x_Rc, .slice x_Wa x_Wn x_Wc]), (10, .slice Q3 Q5 Q4), (7, .slice Q6 Q8 Q7), (4, .slice Q9 Q11 Q10), (2, .pointer (some ⟨b3, 0, none⟩)), (1, .pointer (some ⟨b1, 0, none⟩))] aZ ∧ Mv [bx b3 [.int .i64 0, .int .i64 0, .int .i64 0, .int .i64 0, .slice none 0 0, .slice none 0 0, .slice none 0 0, .slice none 0 0, .slice none 0 0, .int .i64 0] 71, bx b1 [.int .i64 x.id, .int .i64 x.age, .int .i64 x.proc, .int .i64 x.began, .slice Q9 Q11 Q10, .slice Q6 Q8 Q7, .slice x_Ra x_Rn x_Rc, .slice x_Wa x_Wn x_Wc, .slice Q3 Q5 Q4, .int .i64 x.state] 71] w6 [bx b3 [.int .i64 0, .int .i64 0, .int .i64 0, .int .i64 0, .slice none 0 0, .slice none 0 0, .slice none 0 0, .slice none 0 0, .slice none 0 0, .int .i64 0] 71, bx b1 [.int .i64 x.id, .int .i64 x.age, .int .i64 x.proc, .int .i64 x.began, .slice Q9 Q11 Q10, .slice Q6 Q8 Q7, .slice x_Ra x_Rn x_Rc, .slice x_Wa x_Wn x_Wc, .slice Q3 Q5 Q4, .int .i64 x.state] 71] wZ) #[yT, yT, nF, yT, yT, nF, yT, yT, nF, yT, yT, nF, nF, nF, nF, nF, nF, nF, nF, nF] 12 ?_ (fun G151 => ?_)
   · rintro a151 w151 ⟨F151, S151⟩
     refine d_one (i := 2) (listed' := #[yT, yT, yT, yT, yT, nF, yT, yT, nF, yT, yT, nF, nF, nF, nF, nF, nF, nF, nF, nF]) rfl (by kernel_rfl) rfl rfl ?_
     refine f_call F151 CF_134 rfl rfl rfl rfl (lc (F151.ev 4 rfl) rfl) (slices_Clone_Simpl_Call_impl_Call_c (s := x.calls) (Rd.mv (Nat.succ_pos _) Q24 (S1.trans (S3.trans (S6.trans S151)))) (by first | assumption | omega | (simp <;> omega))) ?_
     rintro _ w152 ⟨Q44, Q81, Q61, rfl, m152⟩
     refine ⟨_, rfl, fun _ F153 => ?_⟩
     have S152 : Mv _ _ [ow 148 6 encK okK (.slice Q44 Q81 Q61) x.calls, bx b3 [.int .i64 0, .int .i64 0, .int .i64 0, .int .i64 0, .slice none 0 0, .slice none 0 0, .slice none 0 0, .slice none 0 0, .slice none 0 0, .int .i64 0] 71, bx b1 [.int .i64 x.id, .int .i64 x.age, .int .i64 x.proc, .int .i64 x.began, .slice Q9 Q11 Q10, .slice Q6 Q8 Q7, .slice x_Ra x_Rn x_Rc, .slice x_Wa x_Wn x_Wc, .slice Q3 Q5 Q4, .int .i64 x.state] 71] _ := At.frame S151.at' [] rfl m152
     obtain ⟨Q157, Q220, Q283⟩ := At.ownInv S152.at' ET_66.hk 0 rfl
     clear m152
     refine ⟨Sd.of (S151.trans S152) [] rfl, ?_⟩
     refine g_take F153 rfl (i := 12) (listed' := #[yT, yT, yT, yT, yT, nF, yT, yT, nF, yT, yT, nF, yT, nF, nF, nF, nF, nF, nF, nF]) rfl (by kernel_rfl) (by kernel_rfl) (by kernel_rfl) (fun _ _ _ h => h) (Sd.of (S151.trans S152) [] rfl) rfl rfl rfl rfl (fun _ hz => (r_field FI_71_4 rfl (F153.ev 1 rfl) rfl)) fun _ F154 => ?_
     exact G124 _ _ ⟨Q44, Q81, Q61, F154.cut rfl, (S151.trans S152).pick [0, 1, 2] rfl⟩
   refine x_lem (fun aZ wZ => ∃ (Q0 : Option Addr), ∃ (Q2 : Nat), ∃ (Q1 : Nat), Fr 20 [(7, .slice Q6 Q8 Q7), (5, .slice Q0 Q2 Q1), (12, .pointer (some ⟨b1, 6, none⟩)), (9, .pointer (some ⟨b1, 8, none⟩)), (2, .pointer (some ⟨b3, 0, none⟩)), (1, .pointer (some ⟨b1, 0, none⟩))] aZ ∧ Mv [bx b3 [.int .i64 0, .int .i64 0, .int .i64 0, .int .i64 0, .slice none 0 0, .slice none 0 0, .slice none 0 0, .slice none 0 0, .slice none 0 0, .int .i64 0] 71, bx b1 [.int .i64 x.id, .int .i64 x.age, .int .i64 x.proc, .int .i64 x.began, .slice Q9 Q11 Q10, .slice Q6 Q8 Q7, .slice x_Ra x_Rn x_Rc, .slice x_Wa x_Wn x_Wc, .slice Q3 Q5 Q4, .int .i64 x.state] 71] w6 [ow 148 6 encK okK (.slice Q0 Q2 Q1) x.calls, bx b3 [.int .i64 0, .int .i64 0, .int .i64 0, .int .i64 0, .slice none 0 0, .slice none 0 0, .slice none 0 0, .slice none 0 0, .slice none 0 0, .int .i64 0] 71, bx b1 [.int .i64 x.id, .int .i64 x.age, .int .i64 x.proc, .int .i64 x.began, .slice Q9 Q11 Q10, .slice Q6 Q8 Q7, .slice x_Ra x_Rn x_Rc, .slice x_Wa x_Wn x_Wc, .slice Q3 Q5 Q4, .int .i64 x.state] 71] wZ) #[yT, yT, yT, yT, yT, nF, yT, nF, nF, yT, nF, nF, nF, nF, nF, nF, nF, nF, nF, nF] 13 ?_ (fun G155 => ?_)
   · rintro a155 w155 ⟨Q0, Q2, Q1, F155, S155⟩
     obtain ⟨Q158, Q221, Q284⟩ := At.ownInv S155.at' ET_66.hk 0 rfl
     refine d_all (rs := [5, 7, 10]) rfl (by kernel_rfl) (by simp) (d_cons (i := 5) (listed' := #[yT, yT, yT, yT, yT, yT, yT, nF, nF, yT, nF, nF, nF, nF, nF, nF, nF, nF, nF, nF]) rfl rfl ?_ (d_cons (i := 7) (listed' := #[yT, yT, yT, yT, yT, nF, yT, yT, nF, yT, nF, nF, nF, nF, nF, nF, nF, nF, nF, nF]) rfl rfl ?_ (d_cons (i := 10) (listed' := #[yT, yT, yT, yT, yT, nF, yT, nF, nF, yT, yT, nF, nF, nF, nF, nF, nF, nF, nF, nF]) rfl rfl ?_ d_nil)))
     · skip
       refine f_call F155 CF_135 rfl rfl rfl rfl (lc (F155.ev 7 rfl) rfl) (slices_Clone_Simpl_Answer_impl_Answer_c (s := x.answers) (Rd.mv (Nat.succ_pos _) Q25 (S1.trans (S3.trans (S6.trans S155)))) (by first | assumption | omega | (simp <;> omega))) ?_
       rintro _ w156 ⟨Q45, Q82, Q62, rfl, m156⟩
       refine ⟨_, rfl, fun _ F157 => ?_⟩
       have S156 : Mv _ _ [ow 151 3 encR okR (.slice Q45 Q82 Q62) x.answers, ow 148 6 encK okK (.slice Q0 Q2 Q1) x.calls, bx b3 [.int .i64 0, .int .i64 0, .int .i64 0, .int .i64 0, .slice none 0 0, .slice none 0 0, .slice none 0 0, .slice none 0 0, .slice none 0 0, .int .i64 0] 71, bx b1 [.int .i64 x.id, .int .i64 x.age, .int .i64 x.proc, .int .i64 x.began, .slice Q9 Q11 Q10, .slice Q6 Q8 Q7, .slice x_Ra x_Rn x_Rc, .slice x_Wa x_Wn x_Wc, .slice Q3 Q5 Q4, .int .i64 x.state] 71] _ := At.frame S155.at' [] rfl m156
       obtain ⟨Q159, Q222, Q285⟩ := At.ownInv S156.at' ET_67.hk 0 rfl
       clear m156
       refine ⟨Sd.of (S155.trans S156) [] rfl, ?_⟩
       exact G135 _ _ ⟨Q0, Q2, Q1, Q45, Q82, Q62, F157.cut rfl, (S155.trans S156).pick [0, 1, 2, 3] rfl⟩
     · skip
       refine f_val (v := .slice Q3 Q5 Q4) F155 rfl rfl (r_loadB S155.at' 2 TI_53 rfl rfl (F155.ev 9 rfl) rfl rfl (fun _ => rfl) rfl) rfl fun _ F158 => ?_
       refine ⟨Sd.of S155 [] rfl, ?_⟩
       exact G138 _ _ ⟨Q0, Q2, Q1, F158.cut rfl, S155.pick [0, 1, 2] rfl⟩
     · skip
       refine f_val (v := .agg #[.slice x_Ra x_Rn x_Rc, .slice x_Wa x_Wn x_Wc]) F155 rfl rfl (r_loadB S155.at' 2 TI_69 rfl rfl (F155.ev 12 rfl) rfl rfl (fun h => nomatch h) rfl) rfl fun _ F159 => ?_
       refine ⟨Sd.of S155 [] rfl, ?_⟩
       exact G143 _ _ ⟨Q0, Q2, Q1, F159.cut rfl, S155.pick [0, 1, 2] rfl⟩
   refine x_lem (fun aZ wZ => ∃ (Q0 : Option Addr), ∃ (Q2 : Nat), ∃ (Q1 : Nat), Fr 20 [(10, .slice Q3 Q5 Q4), (5, .slice Q0 Q2 Q1), (12, .pointer (some ⟨b1, 6, none⟩)), (6, .pointer (some ⟨b1, 5, none⟩)), (2, .pointer (some ⟨b3, 0, none⟩)), (1, .pointer (some ⟨b1, 0, none⟩))] aZ ∧ Mv [bx b3 [.int .i64 0, .int .i64 0, .int .i64 0, .int .i64 0, .slice none 0 0, .slice none 0 0, .slice none 0 0, .slice none 0 0, .slice none 0 0, .int .i64 0] 71, bx b1 [.int .i64 x.id, .int .i64 x.age, .int .i64 x.proc, .int .i64 x.began, .slice Q9 Q11 Q10, .slice Q6 Q8 Q7, .slice x_Ra x_Rn x_Rc, .slice x_Wa x_Wn x_Wc, .slice Q3 Q5 Q4, .int .i64 x.state] 71] w6 [ow 148 6 encK okK (.slice Q0 Q2 Q1) x.calls, bx b3 [.int .i64 0, .int .i64 0, .int .i64 0, .int .i64 0, .slice none 0 0, .slice none 0 0, .slice none 0 0, .slice none 0 0, .slice none 0 0, .int .i64 0] 71, bx b1 [.int .i64 x.id, .int .i64 x.age, .int .i64 x.proc, .int .i64 x.began, .slice Q9 Q11 Q10, .slice Q6 Q8 Q7, .slice x_Ra x_Rn x_Rc, .slice x_Wa x_Wn x_Wc, .slice Q3 Q5 Q4, .int .i64 x.state] 71] wZ) #[yT, yT, yT, yT, nF, nF, yT, yT, nF, yT, nF, nF, nF, nF, nF, nF, nF, nF, nF, nF] 13 ?_ (fun G160 => ?_)
   · rintro a160 w160 ⟨Q0, Q2, Q1, F160, S160⟩
     obtain ⟨Q160, Q223, Q286⟩ := At.ownInv S160.at' ET_66.hk 0 rfl
     refine d_all (rs := [4, 10]) rfl (by kernel_rfl) (by simp) (d_cons (i := 4) (listed' := #[yT, yT, yT, yT, yT, nF, yT, yT, nF, yT, nF, nF, nF, nF, nF, nF, nF, nF, nF, nF]) rfl rfl ?_ (d_cons (i := 10) (listed' := #[yT, yT, yT, yT, nF, nF, yT, yT, nF, yT, yT, nF, nF, nF, nF, nF, nF, nF, nF, nF]) rfl rfl ?_ d_nil))
     · skip
       refine f_val (v := .slice Q6 Q8 Q7) F160 rfl rfl (r_loadB S160.at' 2 TI_67 rfl rfl (F160.ev 6 rfl) rfl rfl (fun _ => rfl) rfl) rfl fun _ F161 => ?_
       refine ⟨Sd.of S160 [] rfl, ?_⟩
       exact G138 _ _ ⟨Q0, Q2, Q1, F161.cut rfl, S160.pick [0, 1, 2] rfl⟩
     · skip
       refine f_val (v := .agg #[.slice x_Ra x_Rn x_Rc, .slice x_Wa x_Wn x_Wc]) F160 rfl rfl (r_loadB S160.at' 2 TI_69 rfl rfl (F160.ev 12 rfl) rfl rfl (fun h => nomatch h) rfl) rfl fun _ F162 => ?_
       refine ⟨Sd.of S160 [] rfl, ?_⟩
       exact G148 _ _ ⟨Q0, Q2, Q1, F162.cut rfl, S160.pick [0, 1, 2] rfl⟩
   refine x_lem (fun aZ wZ => ∃ (Q0 : Option Addr), ∃ (Q2 : Nat), ∃ (Q1 : Nat), Fr 20 [(13, .agg #[.slice x_Ra x_Rn x_Rc, .slice x_Wa x_Wn x_Wc]), (5, .slice Q0 Q2 Q1), (9, .pointer (some ⟨b1, 8, none⟩)), (6, .pointer (some ⟨b1, 5, none⟩)), (2, .pointer (some ⟨b3, 0, none⟩)), (1, .pointer (some ⟨b1, 0, none⟩))] aZ ∧ Mv [bx b3 [.int .i64 0, .int .i64 0, .int .i64 0, .int .i64 0, .slice none 0 0, .slice none 0 0, .slice none 0 0, .slice none 0 0, .slice none 0 0, .int .i64 0] 71, bx b1 [.int .i64 x.id, .int .i64 x.age, .int .i64 x.proc, .int .i64 x.began, .slice Q9 Q11 Q10, .slice Q6 Q8 Q7, .slice x_Ra x_Rn x_Rc, .slice x_Wa x_Wn x_Wc, .slice Q3 Q5 Q4, .int .i64 x.state] 71] w6 [ow 148 6 encK okK (.slice Q0 Q2 Q1) x.calls, bx b3 [.int .i64 0, .int .i64 0, .int .i64 0, .int .i64 0, .slice none 0 0, .slice none 0 0, .slice none 0 0, .slice none 0 0, .slice none 0 0, .int .i64 0] 71, bx b1 [.int .i64 x.id, .int .i64 x.age, .int .i64 x.proc, .int .i64 x.began, .slice Q9 Q11 Q10, .slice Q6 Q8 Q7, .slice x_Ra x_Rn x_Rc, .slice x_Wa x_Wn x_Wc, .slice Q3 Q5 Q4, .int .i64 x.state] 71] wZ) #[yT, yT, yT, yT, nF, nF, yT, nF, nF, yT, yT, nF, nF, nF, nF, nF, nF, nF, nF, nF] 13 ?_ (fun G163 => ?_)
   · rintro a163 w163 ⟨Q0, Q2, Q1, F163, S163⟩
     obtain ⟨Q161, Q224, Q287⟩ := At.ownInv S163.at' ET_66.hk 0 rfl
     refine d_all (rs := [4, 7]) rfl (by kernel_rfl) (by simp) (d_cons (i := 4) (listed' := #[yT, yT, yT, yT, yT, nF, yT, nF, nF, yT, yT, nF, nF, nF, nF, nF, nF, nF, nF, nF]) rfl rfl ?_ (d_cons (i := 7) (listed' := #[yT, yT, yT, yT, nF, nF, yT, yT, nF, yT, yT, nF, nF, nF, nF, nF, nF, nF, nF, nF]) rfl rfl ?_ d_nil))
     · skip
       refine f_val (v := .slice Q6 Q8 Q7) F163 rfl rfl (r_loadB S163.at' 2 TI_67 rfl rfl (F163.ev 6 rfl) rfl rfl (fun _ => rfl) rfl) rfl fun _ F164 => ?_
       refine ⟨Sd.of S163 [] rfl, ?_⟩
       exact G143 _ _ ⟨Q0, Q2, Q1, F164.cut rfl, S163.pick [0, 1, 2] rfl⟩
     · skip
       refine f_val (v := .slice Q3 Q5 Q4) F163 rfl rfl (r_loadB S163.at' 2 TI_53 rfl rfl (F163.ev 9 rfl) rfl rfl (fun _ => rfl) rfl) rfl fun _ F165 => ?_
       refine ⟨Sd.of S163 [] rfl, ?_⟩
       exact G148 _ _ ⟨Q0, Q2, Q1, F165.cut rfl, S163.pick [0, 1, 2] rfl⟩
   refine x_lem (fun aZ wZ => Fr 20 [(10, .slice Q3 Q5 Q4), (7, .slice Q6 Q8 Q7), (4, .slice Q9 Q11 Q10), (12, .pointer (some ⟨b1, 6, none⟩)), (2, .pointer (some ⟨b3, 0, none⟩)), (1, .pointer (some ⟨b1, 0, none⟩))] aZ ∧ Mv [bx b3 [.int .i64 0, .int .i64 0, .int .i64 0, .int .i64 0, .slice none 0 0, .slice none 0 0, .slice none 0 0, .slice none 0 0, .slice none 0 0, .int .i64 0] 71, bx b1 [.int .i64 x.id, .int .i64 x.age, .int .i64 x.proc, .int .i64 x.began, .slice Q9 Q11 Q10, .slice Q6 Q8 Q7, .slice x_Ra x_Rn x_Rc, .slice x_Wa x_Wn x_Wc, .slice Q3 Q5 Q4, .int .i64 x.state] 71] w6 [bx b3 [.int .i64 0, .int .i64 0, .int .i64 0, .int .i64 0, .slice none 0 0, .slice none 0 0, .slice none 0 0, .slice none 0 0, .slice none 0 0, .int .i64 0] 71, bx b1 [.int .i64 x.id, .int .i64 x.age, .int .i64 x.proc, .int .i64 x.began, .slice Q9 Q11 Q10, .slice Q6 Q8 Q7, .slice x_Ra x_Rn x_Rc, .slice x_Wa x_Wn x_Wc, .slice Q3 Q5 Q4, .int .i64 x.state] 71] wZ) #[yT, yT, nF, yT, yT, nF, yT, yT, nF, yT, nF, nF, nF, nF, nF, nF, nF, nF, nF, nF] 13 ?_ (fun G166 => ?_)
   · rintro a166 w166 ⟨F166, S166⟩
     refine d_all (rs := [2, 10]) rfl (by kernel_rfl) (by simp) (d_cons (i := 2) (listed' := #[yT, yT, yT, yT, yT, nF, yT, yT, nF, yT, nF, nF, nF, nF, nF, nF, nF, nF, nF, nF]) rfl rfl ?_ (d_cons (i := 10) (listed' := #[yT, yT, nF, yT, yT, nF, yT, yT, nF, yT, yT, nF, nF, nF, nF, nF, nF, nF, nF, nF]) rfl rfl ?_ d_nil))
     · skip
       refine f_call F166 CF_134 rfl rfl rfl rfl (lc (F166.ev 4 rfl) rfl) (slices_Clone_Simpl_Call_impl_Call_c (s := x.calls) (Rd.mv (Nat.succ_pos _) Q24 (S1.trans (S3.trans (S6.trans S166)))) (by first | assumption | omega | (simp <;> omega))) ?_
       rintro _ w167 ⟨Q46, Q83, Q63, rfl, m167⟩
       refine ⟨_, rfl, fun _ F168 => ?_⟩
       have S167 : Mv _ _ [ow 148 6 encK okK (.slice Q46 Q83 Q63) x.calls, bx b3 [.int .i64 0, .int .i64 0, .int .i64 0, .int .i64 0, .slice none 0 0, .slice none 0 0, .slice none 0 0, .slice none 0 0, .slice none 0 0, .int .i64 0] 71, bx b1 [.int .i64 x.id, .int .i64 x.age, .int .i64 x.proc, .int .i64 x.began, .slice Q9 Q11 Q10, .slice Q6 Q8 Q7, .slice x_Ra x_Rn x_Rc, .slice x_Wa x_Wn x_Wc, .slice Q3 Q5 Q4, .int .i64 x.state] 71] _ := At.frame S166.at' [] rfl m167
       obtain ⟨Q162, Q225, Q288⟩ := At.ownInv S167.at' ET_66.hk 0 rfl
       clear m167
       refine ⟨Sd.of (S166.trans S167) [] rfl, ?_⟩
       exact G138 _ _ ⟨Q46, Q83, Q63, F168.cut rfl, (S166.trans S167).pick [0, 1, 2] rfl⟩
     · skip
       refine f_val (v := .agg #[.slice x_Ra x_Rn x_Rc, .slice x_Wa x_Wn x_Wc]) F166 rfl rfl (r_loadB S166.at' 1 TI_69 rfl rfl (F166.ev 12 rfl) rfl rfl (fun h => nomatch h) rfl) rfl fun _ F169 => ?_
       refine ⟨Sd.of S166 [] rfl, ?_⟩
       exact G151 _ _ ⟨F169.cut rfl, S166.pick [0, 1] rfl⟩
   refine x_lem (fun aZ wZ => Fr 20 [(13, .agg #[.slice x_Ra x_Rn x_Rc, .slice x_Wa x_Wn x_Wc]), (7, .slice Q6 Q8 Q7), (4, .slice Q9 Q11 Q10), (9, .pointer (some ⟨b1, 8, none⟩)), (2, .pointer (some ⟨b3, 0, none⟩)), (1, .pointer (some ⟨b1, 0, none⟩))] aZ ∧ Mv [bx b3 [.int .i64 0, .int .i64 0, .int .i64 0, .int .i64 0, .slice none 0 0, .slice none 0 0, .slice none 0 0, .slice none 0 0, .slice none 0 0, .int .i64 0] 71, bx b1 [.int .i64 x.id, .int .i64 x.age, .int .i64 x.proc, .int .i64 x.began, .slice Q9 Q11 Q10, .slice Q6 Q8 Q7, .slice x_Ra x_Rn x_Rc, .slice x_Wa x_Wn x_Wc, .slice Q3 Q5 Q4, .int .i64 x.state] 71] w6 [bx b3 [.int .i64 0, .int .i64 0, .int .i64 0, .int .i64 0, .slice none 0 0, .slice none 0 0, .slice none 0 0, .slice none 0 0, .slice none 0 0, .int .i64 0] 71, bx b1 [.int .i64 x.id, .int .i64 x.age, .int .i64 x.proc, .int .i64 x.began, .slice Q9 Q11 Q10, .slice Q6 Q8 Q7, .slice x_Ra x_Rn x_Rc, .slice x_Wa x_Wn x_Wc, .slice Q3 Q5 Q4, .int .i64 x.state] 71] wZ) #[yT, yT, nF, yT, yT, nF, yT, nF, nF, yT, yT, nF, nF, nF, nF, nF, nF, nF, nF, nF] 13 ?_ (fun G170 => ?_)
   · rintro a170 w170 ⟨F170, S170⟩
     refine d_all (rs := [2, 7]) rfl (by kernel_rfl) (by simp) (d_cons (i := 2) (listed' := #[yT, yT, yT, yT, yT, nF, yT, nF, nF, yT, yT, nF, nF, nF, nF, nF, nF, nF, nF, nF]) rfl rfl ?_ (d_cons (i := 7) (listed' := #[yT, yT, nF, yT, yT, nF, yT, yT, nF, yT, yT, nF, nF, nF, nF, nF, nF, nF, nF, nF]) rfl rfl ?_ d_nil))
     · skip
       refine f_call F170 CF_134 rfl rfl rfl rfl (lc (F170.ev 4 rfl) rfl) (slices_Clone_Simpl_Call_impl_Call_c (s := x.calls) (Rd.mv (Nat.succ_pos _) Q24 (S1.trans (S3.trans (S6.trans S170)))) (by first | assumption | omega | (simp <;> omega))) ?_
       rintro _ w171 ⟨Q47, Q84, Q64, rfl, m171⟩
       refine ⟨_, rfl, fun _ F172 => ?_⟩
       have S171 : Mv _ _ [ow 148 6 encK okK (.slice Q47 Q84 Q64) x.calls, bx b3 [.int .i64 0, .int .i64 0, .int .i64 0, .int .i64 0, .slice none 0 0, .slice none 0 0, .slice none 0 0, .slice none 0 0, .slice none 0 0, .int .i64 0] 71, bx b1 [.int .i64 x.id, .int .i64 x.age, .int .i64 x.proc, .int .i64 x.began, .slice Q9 Q11 Q10, .slice Q6 Q8 Q7, .slice x_Ra x_Rn x_Rc, .slice x_Wa x_Wn x_Wc, .slice Q3 Q5 Q4, .int .i64 x.state] 71] _ := At.frame S170.at' [] rfl m171
       obtain ⟨Q163, Q226, Q289⟩ := At.ownInv S171.at' ET_66.hk 0 rfl
       clear m171
       refine ⟨Sd.of (S170.trans S171) [] rfl, ?_⟩
       exact G143 _ _ ⟨Q47, Q84, Q64, F172.cut rfl, (S170.trans S171).pick [0, 1, 2] rfl⟩
     · skip
       refine f_val (v := .slice Q3 Q5 Q4) F170 rfl rfl (r_loadB S170.at' 1 TI_53 rfl rfl (F170.ev 9 rfl) rfl rfl (fun _ => rfl) rfl) rfl fun _ F173 => ?_
       refine ⟨Sd.of S170 [] rfl, ?_⟩
       exact G151 _ _ ⟨F173.cut rfl, S170.pick [0, 1] rfl⟩
   refine x_lem (fun aZ wZ => Fr 20 [(13, .agg #[.slice x_Ra x_Rn x_Rc, .slice x_Wa x_Wn x_Wc]), (10, .slice Q3 Q5 Q4), (4, .slice Q9 Q11 Q10), (6, .pointer (some ⟨b1, 5, none⟩)), (2, .pointer (some ⟨b3, 0, none⟩)), (1, .pointer (some ⟨b1, 0, none⟩))] aZ ∧ Mv [bx b3 [.int .i64 0, .int .i64 0, .int .i64 0, .int .i64 0, .slice none 0 0, .slice none 0 0, .slice none 0 0, .slice none 0 0, .slice none 0 0, .int .i64 0] 71, bx b1 [.int .i64 x.id, .int .i64 x.age, .int .i64 x.proc, .int .i64 x.began, .slice Q9 Q11 Q10, .slice Q6 Q8 Q7, .slice x_Ra x_Rn x_Rc, .slice x_Wa x_Wn x_Wc, .slice Q3 Q5 Q4, .int .i64 x.state] 71] w6 [bx b3 [.int .i64 0, .int .i64 0, .int .i64 0, .int .i64 0, .slice none 0 0, .slice none 0 0, .slice none 0 0, .slice none 0 0, .slice none 0 0, .int .i64 0] 71, bx b1 [.int .i64 x.id, .int .i64 x.age, .int .i64 x.proc, .int .i64 x.began, .slice Q9 Q11 Q10, .slice Q6 Q8 Q7, .slice x_Ra x_Rn x_Rc, .slice x_Wa x_Wn x_Wc, .slice Q3 Q5 Q4, .int .i64 x.state] 71] wZ) #[yT, yT, nF, yT, nF, nF, yT, yT, nF, yT, yT, nF, nF, nF, nF, nF, nF, nF, nF, nF] 13 ?_ (fun G174 => ?_)
   · rintro a174 w174 ⟨F174, S174⟩
     refine d_all (rs := [2, 4]) rfl (by kernel_rfl) (by simp) (d_cons (i := 2) (listed' := #[yT, yT, yT, yT, nF, nF, yT, yT, nF, yT, yT, nF, nF, nF, nF, nF, nF, nF, nF, nF]) rfl rfl ?_ (d_cons (i := 4) (listed' := #[yT, yT, nF, yT, yT, nF, yT, yT, nF, yT, yT, nF, nF, nF, nF, nF, nF, nF, nF, nF]) rfl rfl ?_ d_nil))
     · skip
       refine f_call F174 CF_134 rfl rfl rfl rfl (lc (F174.ev 4 rfl) rfl) (slices_Clone_Simpl_Call_impl_Call_c (s := x.calls) (Rd.mv (Nat.succ_pos _) Q24 (S1.trans (S3.trans (S6.trans S174)))) (by first | assumption | omega | (simp <;> omega))) ?_
       rintro _ w175 ⟨Q48, Q85, Q65, rfl, m175⟩
       refine ⟨_, rfl, fun _ F176 => ?_⟩
       have S175 : Mv _ _ [ow 148 6 encK okK (.slice Q48 Q85 Q65) x.calls, bx b3 [.int .i64 0, .int .i64 0, .int .i64 0, .int .i64 0, .slice none 0 0, .slice none 0 0, .slice none 0 0, .slice none 0 0, .slice none 0 0, .int .i64 0] 71, bx b1 [.int .i64 x.id, .int .i64 x.age, .int .i64 x.proc, .int .i64 x.began, .slice Q9 Q11 Q10, .slice Q6 Q8 Q7, .slice x_Ra x_Rn x_Rc, .slice x_Wa x_Wn x_Wc, .slice Q3 Q5 Q4, .int .i64 x.state] 71] _ := At.frame S174.at' [] rfl m175
       obtain ⟨Q164, Q227, Q290⟩ := At.ownInv S175.at' ET_66.hk 0 rfl
       clear m175
       refine ⟨Sd.of (S174.trans S175) [] rfl, ?_⟩
       exact G148 _ _ ⟨Q48, Q85, Q65, F176.cut rfl, (S174.trans S175).pick [0, 1, 2] rfl⟩
     · skip
       refine f_val (v := .slice Q6 Q8 Q7) F174 rfl rfl (r_loadB S174.at' 1 TI_67 rfl rfl (F174.ev 6 rfl) rfl rfl (fun _ => rfl) rfl) rfl fun _ F177 => ?_
       refine ⟨Sd.of S174 [] rfl, ?_⟩
       exact G151 _ _ ⟨F177.cut rfl, S174.pick [0, 1] rfl⟩
   refine x_lem (fun aZ wZ => Fr 20 [(13, .agg #[.slice x_Ra x_Rn x_Rc, .slice x_Wa x_Wn x_Wc]), (10, .slice Q3 Q5 Q4), (7, .slice Q6 Q8 Q7), (3, .pointer (some ⟨b1, 4, none⟩)), (2, .pointer (some ⟨b3, 0, none⟩)), (1, .pointer (some ⟨b1, 0, none⟩))] aZ ∧ Mv [bx b3 [.int .i64 0, .int .i64 0, .int .i64 0, .int .i64 0, .slice none 0 0, .slice none 0 0, .slice none 0 0, .slice none 0 0, .slice none 0 0, .int .i64 0] 71, bx b1 [.int .i64 x.id, .int .i64 x.age, .int .i64 x.proc, .int .i64 x.began, .slice Q9 Q11 Q10, .slice Q6 Q8 Q7, .slice x_Ra x_Rn x_Rc, .slice x_Wa x_Wn x_Wc, .slice Q3 Q5 Q4, .int .i64 x.state] 71] w6 [bx b3 [.int .i64 0, .int .i64 0, .int .i64 0, .int .i64 0, .slice none 0 0, .slice none 0 0, .slice none 0 0, .slice none 0 0, .slice none 0 0, .int .i64 0] 71, bx b1 [.int .i64 x.id, .int .i64 x.age, .int .i64 x.proc, .int .i64 x.began, .slice Q9 Q11 Q10, .slice Q6 Q8 Q7, .slice x_Ra x_Rn x_Rc, .slice x_Wa x_Wn x_Wc, .slice Q3 Q5 Q4, .int .i64 x.state] 71] wZ) #[yT, nF, nF, yT, yT, nF, yT, yT, nF, yT, yT, nF, nF, nF, nF, nF, nF, nF, nF, nF] 13 ?_ (fun G178 => ?_)
   · rintro a178 w178 ⟨F178, S178⟩
     refine d_one (i := 1) (listed' := #[yT, yT, nF, yT, yT, nF, yT, yT, nF, yT, yT, nF, nF, nF, nF, nF, nF, nF, nF, nF]) rfl (by kernel_rfl) rfl rfl ?_
     refine f_val (v := .slice Q9 Q11 Q10) F178 rfl rfl (r_loadB S178.at' 1 TI_66 rfl rfl (F178.ev 3 rfl) rfl rfl (fun _ => rfl) rfl) rfl fun _ F179 => ?_
     refine ⟨Sd.of S178 [] rfl, ?_⟩
     exact G151 _ _ ⟨F179.cut rfl, S178.pick [0, 1] rfl⟩
   refine x_lem (fun aZ wZ => ∃ (Q0 : Option Addr), ∃ (Q2 : Nat), ∃ (Q1 : Nat), Fr 20 [(5, .slice Q0 Q2 Q1), (12, .pointer (some ⟨b1, 6, none⟩)), (9, .pointer (some ⟨b1, 8, none⟩)), (6, .pointer (some ⟨b1, 5, none⟩)), (2, .pointer (some ⟨b3, 0, none⟩)), (1, .pointer (some ⟨b1, 0, none⟩))] aZ ∧ Mv [bx b3 [.int .i64 0, .int .i64 0, .int .i64 0, .int .i64 0, .slice none 0 0, .slice none 0 0, .slice none 0 0, .slice none 0 0, .slice none 0 0, .int .i64 0] 71, bx b1 [.int .i64 x.id, .int .i64 x.age, .int .i64 x.proc, .int .i64 x.began, .slice Q9 Q11 Q10, .slice Q6 Q8 Q7, .slice x_Ra x_Rn x_Rc, .slice x_Wa x_Wn x_Wc, .slice Q3 Q5 Q4, .int .i64 x.state] 71] w6 [ow 148 6 encK okK (.slice Q0 Q2 Q1) x.calls, bx b3 [.int .i64 0, .int .i64 0, .int .i64 0, .int .i64 0, .slice none 0 0, .slice none 0 0, .slice none 0 0, .slice none 0 0, .slice none 0 0, .int .i64 0] 71, bx b1 [.int .i64 x.id, .int .i64 x.age, .int .i64 x.proc, .int .i64 x.began, .slice Q9 Q11 Q10, .slice Q6 Q8 Q7, .slice x_Ra x_Rn x_Rc, .slice x_Wa x_Wn x_Wc, .slice Q3 Q5 Q4, .int .i64 x.state] 71] wZ) #[yT, yT, yT, yT, nF, nF, yT, nF, nF, yT, nF, nF, nF, nF, nF, nF, nF, nF, nF, nF] 14 ?_ (fun G180 => ?_)
   · rintro a180 w180 ⟨Q0, Q2, Q1, F180, S180⟩
     obtain ⟨Q165, Q228, Q291⟩ := At.ownInv S180.at' ET_66.hk 0 rfl
     refine d_all (rs := [4, 7, 10]) rfl (by kernel_rfl) (by simp) (d_cons (i := 4) (listed' := #[yT, yT, yT, yT, yT, nF, yT, nF, nF, yT, nF, nF, nF, nF, nF, nF, nF, nF, nF, nF]) rfl rfl ?_ (d_cons (i := 7) (listed' := #[yT, yT, yT, yT, nF, nF, yT, yT, nF, yT, nF, nF, nF, nF, nF, nF, nF, nF, nF, nF]) rfl rfl ?_ (d_cons (i := 10) (listed' := #[yT, yT, yT, yT, nF, nF, yT, nF, nF, yT, yT, nF, nF, nF, nF, nF, nF, nF, nF, nF]) rfl rfl ?_ d_nil)))
     · skip
       refine f_val (v := .slice Q6 Q8 Q7) F180 rfl rfl (r_loadB S180.at' 2 TI_67 rfl rfl (F180.ev 6 rfl) rfl rfl (fun _ => rfl) rfl) rfl fun _ F181 => ?_
       refine ⟨Sd.of S180 [] rfl, ?_⟩
       exact G155 _ _ ⟨Q0, Q2, Q1, F181.cut rfl, S180.pick [0, 1, 2] rfl⟩
     · skip
       refine f_val (v := .slice Q3 Q5 Q4) F180 rfl rfl (r_loadB S180.at' 2 TI_53 rfl rfl (F180.ev 9 rfl) rfl rfl (fun _ => rfl) rfl) rfl fun _ F182 => ?_
       refine ⟨Sd.of S180 [] rfl, ?_⟩
       exact G160 _ _ ⟨Q0, Q2, Q1, F182.cut rfl, S180.pick [0, 1, 2] rfl⟩
     · skip
       refine f_val (v := .agg #[.slice x_Ra x_Rn x_Rc, .slice x_Wa x_Wn x_Wc]) F180 rfl rfl (r_loadB S180.at' 2 TI_69 rfl rfl (F180.ev 12 rfl) rfl rfl (fun h => nomatch h) rfl) rfl fun _ F183 => ?_
       refine ⟨Sd.of S180 [] rfl, ?_⟩
       exact G163 _ _ ⟨Q0, Q2, Q1, F183.cut rfl, S180.pick [0, 1, 2] rfl⟩
   refine x_lem (fun aZ wZ => Fr 20 [(7, .slice Q6 Q8 Q7), (4, .slice Q9 Q11 Q10), (12, .pointer (some ⟨b1, 6, none⟩)), (9, .pointer (some ⟨b1, 8, none⟩)), (2, .pointer (some ⟨b3, 0, none⟩)), (1, .pointer (some ⟨b1, 0, none⟩))] aZ ∧ Mv [bx b3 [.int .i64 0, .int .i64 0, .int .i64 0, .int .i64 0, .slice none 0 0, .slice none 0 0, .slice none 0 0, .slice none 0 0, .slice none 0 0, .int .i64 0] 71, bx b1 [.int .i64 x.id, .int .i64 x.age, .int .i64 x.proc, .int .i64 x.began, .slice Q9 Q11 Q10, .slice Q6 Q8 Q7, .slice x_Ra x_Rn x_Rc, .slice x_Wa x_Wn x_Wc, .slice Q3 Q5 Q4, .int .i64 x.state] 71] w6 [bx b3 [.int .i64 0, .int .i64 0, .int .i64 0, .int .i64 0, .slice none 0 0, .slice none 0 0, .slice none 0 0, .slice none 0 0, .slice none 0 0, .int .i64 0] 71, bx b1 [.int .i64 x.id, .int .i64 x.age, .int .i64 x.proc, .int .i64 x.began, .slice Q9 Q11 Q10, .slice Q6 Q8 Q7, .slice x_Ra x_Rn x_Rc, .slice x_Wa x_Wn x_Wc, .slice Q3 Q5 Q4, .int .i64 x.state] 71] wZ) #[yT, yT, nF, yT, yT, nF, yT, nF, nF, yT, nF, nF, nF, nF, nF, nF, nF, nF, nF, nF] 14 ?_ (fun G184 => ?_)
   · rintro a184 w184 ⟨F184, S184⟩
     refine d_all (rs := [2, 7, 10]) rfl (by kernel_rfl) (by simp) (d_cons (i := 2) (listed' := #[yT, yT, yT, yT, yT, nF, yT, nF, nF, yT, nF, nF, nF, nF, nF, nF, nF, nF, nF, nF]) rfl rfl ?_ (d_cons (i := 7) (listed' := #[yT, yT, nF, yT, yT, nF, yT, yT, nF, yT, nF, nF, nF, nF, nF, nF, nF, nF, nF, nF]) rfl rfl ?_ (d_cons (i := 10) (listed' := #[yT, yT, nF, yT, yT, nF, yT, nF, nF, yT, yT, nF, nF, nF, nF, nF, nF, nF, nF, nF]) rfl rfl ?_ d_nil)))
     · skip
       refine f_call F184 CF_134 rfl rfl rfl rfl (lc (F184.ev 4 rfl) rfl) (slices_Clone_Simpl_Call_impl_Call_c (s := x.calls) (Rd.mv (Nat.succ_pos _) Q24 (S1.trans (S3.trans (S6.trans S184)))) (by first | assumption | omega | (simp <;> omega))) ?_
       rintro _ w185 ⟨Q49, Q86, Q66, rfl, m185⟩
       refine ⟨_, rfl, fun _ F186 => ?_⟩
       have S185 : Mv _ _ [ow 148 6 encK okK (.slice Q49 Q86 Q66) x.calls, bx b3 [.int .i64 0, .int .i64 0, .int .i64 0, .int .i64 0, .slice none 0 0, .slice none 0 0, .slice none 0 0, .slice none 0 0, .slice none 0 0, .int .i64 0] 71, bx b1 [.int .i64 x.id, .int .i64 x.age, .int .i64 x.proc, .int .i64 x.began, .slice Q9 Q11 Q10, .slice Q6 Q8 Q7, .slice x_Ra x_Rn x_Rc, .slice x_Wa x_Wn x_Wc, .slice Q3 Q5 Q4, .int .i64 x.state] 71] _ := At.frame S184.at' [] rfl m185
       obtain ⟨Q166, Q229, Q292⟩ := At.ownInv S185.at' ET_66.hk 0 rfl
       clear m185
       refine ⟨Sd.of (S184.trans S185) [] rfl, ?_⟩
       exact G155 _ _ ⟨Q49, Q86, Q66, F186.cut rfl, (S184.trans S185).pick [0, 1, 2] rfl⟩
     · skip
       refine f_val (v := .slice Q3 Q5 Q4) F184 rfl rfl (r_loadB S184.at' 1 TI_53 rfl rfl (F184.ev 9 rfl) rfl rfl (fun _ => rfl) rfl) rfl fun _ F187 => ?_
       refine ⟨Sd.of S184 [] rfl, ?_⟩
       exact G166 _ _ ⟨F187.cut rfl, S184.pick [0, 1] rfl⟩
     · skip
       refine f_val (v := .agg #[.slice x_Ra x_Rn x_Rc, .slice x_Wa x_Wn x_Wc]) F184 rfl rfl (r_loadB S184.at' 1 TI_69 rfl rfl (F184.ev 12 rfl) rfl rfl (fun h => nomatch h) rfl) rfl fun _ F188 => ?_
       refine ⟨Sd.of S184 [] rfl, ?_⟩
       exact G170 _ _ ⟨F188.cut rfl, S184.pick [0, 1] rfl⟩
   refine x_lem (fun aZ wZ => Fr 20 [(10, .slice Q3 Q5 Q4), (4, .slice Q9 Q11 Q10), (12, .pointer (some ⟨b1, 6, none⟩)), (6, .pointer (some ⟨b1, 5, none⟩)), (2, .pointer (some ⟨b3, 0, none⟩)), (1, .pointer (some ⟨b1, 0, none⟩))] aZ ∧ Mv [bx b3 [.int .i64 0, .int .i64 0, .int .i64 0, .int .i64 0, .slice none 0 0, .slice none 0 0, .slice none 0 0, .slice none 0 0, .slice none 0 0, .int .i64 0] 71, bx b1 [.int .i64 x.id, .int .i64 x.age, .int .i64 x.proc, .int .i64 x.began, .slice Q9 Q11 Q10, .slice Q6 Q8 Q7, .slice x_Ra x_Rn x_Rc, .slice x_Wa x_Wn x_Wc, .slice Q3 Q5 Q4, .int .i64 x.state] 71] w6 [bx b3 [.int .i64 0, .int .i64 0, .int .i64 0, .int .i64 0, .slice none 0 0, .slice none 0 0, .slice none 0 0, .slice none 0 0, .slice none 0 0, .int .i64 0] 71, bx b1 [.int .i64 x.id, .int .i64 x.age, .int .i64 x.proc, .int .i64 x.began, .slice Q9 Q11 Q10, .slice Q6 Q8 Q7, .slice x_Ra x_Rn x_Rc, .slice x_Wa x_Wn x_Wc, .slice Q3 Q5 Q4, .int .i64 x.state] 71] wZ) #[yT, yT, nF, yT, nF, nF, yT, yT, nF, yT, nF, nF, nF, nF, nF, nF, nF, nF, nF, nF] 14 ?_ (fun G189 => ?_)
   · rintro a189 w189 ⟨F189, S189⟩
     refine d_all (rs := [2, 4, 10]) rfl (by kernel_rfl) (by simp) (d_cons (i := 2) (listed' := #[yT, yT, yT, yT, nF, nF, yT, yT, nF, yT, nF, nF, nF, nF, nF, nF, nF, nF, nF, nF]) rfl rfl ?_ (d_cons (i := 4) (listed' := #[yT, yT, nF, yT, yT, nF, yT, yT, nF, yT, nF, nF, nF, nF, nF, nF, nF, nF, nF, nF]) rfl rfl ?_ (d_cons (i := 10) (listed' := #[yT, yT, nF, yT, nF, nF, yT, yT, nF, yT, yT, nF, nF, nF, nF, nF, nF, nF, nF, nF]) rfl rfl ?_ d_nil)))
     · skip
       refine f_call F189 CF_134 rfl rfl rfl rfl (lc (F189.ev 4 rfl) rfl) (slices_Clone_Simpl_Call_impl_Call_c (s := x.calls) (Rd.mv (Nat.succ_pos _) Q24 (S1.trans (S3.trans (S6.trans S189)))) (by first | assumption | omega | (simp <;> omega))) ?_
       rintro _ w190 ⟨Q50, Q87, Q67, rfl, m190⟩
       refine ⟨_, rfl, fun _ F191 => ?_⟩
       have S190 : Mv _ _ [ow 148 6 encK okK (.slice Q50 Q87 Q67) x.calls, bx b3 [.int .i64 0, .int .i64 0, .int .i64 0, .int .i64 0, .slice none 0 0, .slice none 0 0, .slice none 0 0, .slice none 0 0, .slice none 0 0, .int .i64 0] 71, bx b1 [.int .i64 x.id, .int .i64 x.age, .int .i64 x.proc, .int .i64 x.began, .slice Q9 Q11 Q10, .slice Q6 Q8 Q7, .slice x_Ra x_Rn x_Rc, .slice x_Wa x_Wn x_Wc, .slice Q3 Q5 Q4, .int .i64 x.state] 71] _ := At.frame S189.at' [] rfl m190
       obtain ⟨Q167, Q230, Q293⟩ := At.ownInv S190.at' ET_66.hk 0 rfl
       clear m190
       refine ⟨Sd.of (S189.trans S190) [] rfl, ?_⟩
       exact G160 _ _ ⟨Q50, Q87, Q67, F191.cut rfl, (S189.trans S190).pick [0, 1, 2] rfl⟩
     · skip
       refine f_val (v := .slice Q6 Q8 Q7) F189 rfl rfl (r_loadB S189.at' 1 TI_67 rfl rfl (F189.ev 6 rfl) rfl rfl (fun _ => rfl) rfl) rfl fun _ F192 => ?_
       refine ⟨Sd.of S189 [] rfl, ?_⟩
       exact G166 _ _ ⟨F192.cut rfl, S189.pick [0, 1] rfl⟩
     · skip
       refine f_val (v := .agg #[.slice x_Ra x_Rn x_Rc, .slice x_Wa x_Wn x_Wc]) F189 rfl rfl (r_loadB S189.at' 1 TI_69 rfl rfl (F189.ev 12 rfl) rfl rfl (fun h => nomatch h) rfl) rfl fun _ F193 => ?_
       refine ⟨Sd.of S189 [] rfl, ?_⟩
       exact G174 _ _ ⟨F193.cut rfl, S189.pick [0, 1] rfl⟩
   refine x_lem (fun aZ wZ => Fr 20 [(13, .agg #[.slice x_Ra x_Rn x_Rc, .slice x_Wa x_Wn x_Wc]), (4, .slice Q9 Q11 Q10), (9, .pointer (some ⟨b1, 8, none⟩)), (6, .pointer (some ⟨b1, 5, none⟩)), (2, .pointer (some ⟨b3, 0, none⟩)), (1, .pointer (some ⟨b1, 0, none⟩))] aZ ∧ Mv [bx b3 [.int .i64 0, .int .i64 0, .int .i64 0, .int .i64 0, .slice none 0 0, .slice none 0 0, .slice none 0 0, .slice none 0 0, .slice none 0 0, .int .i64 0] 71, bx b1 [.int .i64 x.id, .int .i64 x.age, .int .i64 x.proc, .int .i64 x.began, .slice Q9 Q11 Q10, .slice Q6 Q8 Q7, .slice x_Ra x_Rn x_Rc, .slice x_Wa x_Wn x_Wc, .slice Q3 Q5 Q4, .int .i64 x.state] 71] w6 [bx b3 [.int .i64 0, .int .i64 0, .int .i64 0, .int .i64 0, .slice none 0 0, .slice none 0 0, .slice none 0 0, .slice none 0 0, .slice none 0 0, .int .i64 0] 71, bx b1 [.int .i64 x.id, .int .i64 x.age, .int .i64 x.proc, .int .i64 x.began, .slice Q9 Q11 Q10, .slice Q6 Q8 Q7, .slice x_Ra x_Rn x_Rc, .slice x_Wa x_Wn x_Wc, .slice Q3 Q5 Q4, .int .i64 x.state] 71] wZ) #[yT, yT, nF, yT, nF, nF, yT, nF, nF, yT, yT, nF, nF, nF, nF, nF, nF, nF, nF, nF] 14 ?_ (fun G194 => ?_)
   · rintro a194 w194 ⟨F194, S194⟩
     refine d_all (rs := [2, 4, 7]) rfl (by kernel_rfl) (by simp) (d_cons (i := 2) (listed' := #[yT, yT, yT, yT, nF, nF, yT, nF, nF, yT, yT, nF, nF, nF, nF, nF, nF, nF, nF, nF]) rfl rfl ?_ (d_cons (i := 4) (listed' := #[yT, yT, nF, yT, yT, nF, yT, nF, nF, yT, yT, nF, nF, nF, nF, nF, nF, nF, nF, nF]) rfl rfl ?_ (d_cons (i := 7) (listed' := #[yT, yT, nF, yT, nF, nF, yT, yT, nF, yT, yT, nF, nF, nF, nF, nF, nF, nF, nF, nF]) rfl rfl ?_ d_nil)))
     · skip
       refine f_call F194 CF_134 rfl rfl rfl rfl (lc (F194.ev 4 rfl) rfl) (slices_Clone_Simpl_Call_impl_Call_c (s := x.calls) (Rd.mv (Nat.succ_pos _) Q24 (S1.trans (S3.trans (S6.trans S194)))) (by first | assumption | omega | (simp <;> omega))) ?_
       rintro _ w195 ⟨Q51, Q88, Q68, rfl, m195⟩
       refine ⟨_, rfl, fun _ F196 => ?_⟩
       have S195 : Mv _ _ [ow 148 6 encK okK (.slice Q51 Q88 Q68) x.calls, bx b3 [.int .i64 0, .int .i64 0, .int .i64 0, .int .i64 0, .slice none 0 0, .slice none 0 0, .slice none 0 0, .slice none 0 0, .slice none 0 0, .int .i64 0] 71, bx b1 [.int .i64 x.id, .int .i64 x.age, .int .i64 x.proc, .int .i64 x.began, .slice Q9 Q11 Q10, .slice Q6 Q8 Q7, .slice x_Ra x_Rn x_Rc, .slice x_Wa x_Wn x_Wc, .slice Q3 Q5 Q4, .int .i64 x.state] 71] _ := At.frame S194.at' [] rfl m195
       obtain ⟨Q168, Q231, Q294⟩ := At.ownInv S195.at' ET_66.hk 0 rfl
       clear m195
       refine ⟨Sd.of (S194.trans S195) [] rfl, ?_⟩
       exact G163 _ _ ⟨Q51, Q88, Q68, F196.cut rfl, (S194.trans S195).pick [0, 1, 2] rfl⟩
     · skip
       refine f_val (v := .slice Q6 Q8 Q7) F194 rfl rfl (r_loadB S194.at' 1 TI_67 rfl rfl (F194.ev 6 rfl) rfl rfl (fun _ => rfl) rfl) rfl fun _ F197 => ?_
       refine ⟨Sd.of S194 [] rfl, ?_⟩
       exact G170 _ _ ⟨F197.cut rfl, S194.pick [0, 1] rfl⟩
     · skip
       refine f_val (v := .slice Q3 Q5 Q4) F194 rfl rfl (r_loadB S194.at' 1 TI_53 rfl rfl (F194.ev 9 rfl) rfl rfl (fun _ => rfl) rfl) rfl fun _ F198 => ?_
       refine ⟨Sd.of S194 [] rfl, ?_⟩
       exact G174 _ _ ⟨F198.cut rfl, S194.pick [0, 1] rfl⟩
   refine x_lem (fun aZ wZ => Fr 20 [(10, .slice Q3 Q5 Q4), (7, .slice Q6 Q8 Q7), (12, .pointer (some ⟨b1, 6, none⟩)), (3, .pointer (some ⟨b1, 4, none⟩)), (2, .pointer (some ⟨b3, 0, none⟩)), (1, .pointer (some ⟨b1, 0, none⟩))] aZ ∧ Mv [bx b3 [.int .i64 0, .int .i64 0, .int .i64 0, .int .i64 0, .slice none 0 0, .slice none 0 0, .slice none 0 0, .slice none 0 0, .slice none 0 0, .int .i64 0] 71, bx b1 [.int .i64 x.id, .int .i64 x.age, .int .i64 x.proc, .int .i64 x.began, .slice Q9 Q11 Q10, .slice Q6 Q8 Q7, .slice x_Ra x_Rn x_Rc, .slice x_Wa x_Wn x_Wc, .slice Q3 Q5 Q4, .int .i64 x.state] 71] w6 [bx b3 [.int .i64 0, .int .i64 0, .int .i64 0, .int .i64 0, .slice none 0 0, .slice none 0 0, .slice none 0 0, .slice none 0 0, .slice none 0 0, .int .i64 0] 71, bx b1 [.int .i64 x.id, .int .i64 x.age, .int .i64 x.proc, .int .i64 x.began, .slice Q9 Q11 Q10, .slice Q6 Q8 Q7, .slice x_Ra x_Rn x_Rc, .slice x_Wa x_Wn x_Wc, .slice Q3 Q5 Q4, .int .i64 x.state] 71] wZ) #[yT, nF, nF, yT, yT, nF, yT, yT, nF, yT, nF, nF, nF, nF, nF, nF, nF, nF, nF, nF] 14 ?_ (fun G199 => ?_)
   · rintro a199 w199 ⟨F199, S199⟩
     refine d_all (rs := [1, 10]) rfl (by kernel_rfl) (by simp) (d_cons (i := 1) (listed' := #[yT, yT, nF, yT, yT, nF, yT, yT, nF, yT, nF, nF, nF, nF, nF, nF, nF, nF, nF, nF]) rfl rfl ?_ (d_cons (i := 10) (listed' := #[yT, nF, nF, yT, yT, nF, yT, yT, nF, yT, yT, nF, nF, nF, nF, nF, nF, nF, nF, nF]) rfl rfl ?_ d_nil))
     · skip
       refine f_val (v := .slice Q9 Q11 Q10) F199 rfl rfl (r_loadB S199.at' 1 TI_66 rfl rfl (F199.ev 3 rfl) rfl rfl (fun _ => rfl) rfl) rfl fun _ F200 => ?_
       refine ⟨Sd.of S199 [] rfl, ?_⟩
       exact G166 _ _ ⟨F200.cut rfl, S199.pick [0, 1] rfl⟩
     · skip
       refine f_val (v := .agg #[.slice x_Ra x_Rn x_Rc, .slice x_Wa x_Wn x_Wc]) F199 rfl rfl (r_loadB S199.at' 1 TI_69 rfl rfl (F199.ev 12 rfl) rfl rfl (fun h => nomatch h) rfl) rfl fun _ F201 => ?_
       refine ⟨Sd.of S199 [] rfl, ?_⟩
       exact G178 _ _ ⟨F201.cut rfl, S199.pick [0, 1] rfl⟩
   refine x_lem (fun aZ wZ => Fr 20 [(13, .agg #[.slice x_Ra x_Rn x_Rc, .slice x_Wa x_Wn x_Wc]), (7, .slice Q6 Q8 Q7), (9, .pointer (some ⟨b1, 8, none⟩)), (3, .pointer (some ⟨b1, 4, none⟩)), (2, .pointer (some ⟨b3, 0, none⟩)), (1, .pointer (some ⟨b1, 0, none⟩))] aZ ∧ Mv [bx b3 [.int .i64 0, .int .i64 0, .int .i64 0, .int .i64 0, .slice none 0 0, .slice none 0 0, .slice none 0 0, .slice none 0 0, .slice none 0 0, .int .i64 0] 71, bx b1 [.int .i64 x.id, .int .i64 x.age, .int .i64 x.proc, .int .i64 x.began, .slice Q9 Q11 Q10, .slice Q6 Q8 Q7, .slice x_Ra x_Rn x_Rc, .slice x_Wa x_Wn x_Wc, .slice Q3 Q5 Q4, .int .i64 x.state] 71] w6 [bx b3 [.int .i64 0, .int .i64 0, .int .i64 0, .int .i64 0, .slice none 0 0, .slice none 0 0, .slice none 0 0, .slice none 0 0, .slice none 0 0, .int .i64 0] 71, bx b1 [.int .i64 x.id, .int .i64 x.age, .int .i64 x.proc, .int .i64 x.began, .slice Q9 Q11 Q10, .slice Q6 Q8 Q7, .slice x_Ra x_Rn x_Rc, .slice x_Wa x_Wn x_Wc, .slice Q3 Q5 Q4, .int .i64 x.state] 71] wZ) #[yT, nF, nF, yT, yT, nF, yT, nF, nF, yT, yT, nF, nF, nF, nF, nF, nF, nF, nF, nF] 14 ?_ (fun G202 => ?_)
   · rintro a202 w202 ⟨F202, S202⟩
     refine d_all (rs := [1, 7]) rfl (by kernel_rfl) (by simp) (d_cons (i := 1) (listed' := #[yT, yT, nF, yT, yT, nF, yT, nF, nF, yT, yT, nF, nF, nF, nF, nF, nF, nF, nF, nF]) rfl rfl ?_ (d_cons (i := 7) (listed' := #[yT, nF, nF, yT, yT, nF, yT, yT, nF, yT, yT, nF, nF, nF, nF, nF, nF, nF, nF, nF]) rfl rfl ?_ d_nil))
     · skip
       refine f_val (v := .slice Q9 Q11 Q10) F202 rfl rfl (r_loadB S202.at' 1 TI_66 rfl rfl (F202.ev 3 rfl) rfl rfl (fun _ => rfl) rfl) rfl fun _ F203 => ?_
       refine ⟨Sd.of S202 [] rfl, ?_⟩
       exact G170 _ _ ⟨F203.cut rfl, S202.pick [0, 1] rfl⟩
     · skip
       refine f_val (v := .slice Q3 Q5 Q4) F202 rfl rfl (r_loadB S202.at' 1 TI_53 rfl rfl (F202.ev 9 rfl) rfl rfl (fun _ => rfl) rfl) rfl fun _ F204 => ?_
       refine ⟨Sd.of S202 [] rfl, ?_⟩
       exact G178 _ _ ⟨F204.cut rfl, S202.pick [0, 1] rfl⟩
   refine x_lem (fun aZ wZ => Fr 20 [(13, .agg #[.slice x_Ra x_Rn x_Rc, .slice x_Wa x_Wn x_Wc]), (10, .slice Q3 Q5 Q4), (6, .pointer (some ⟨b1, 5, none⟩)), (3, .pointer (some ⟨b1, 4, none⟩)), (2, .pointer (some ⟨b3, 0, none⟩)), (1, .pointer (some ⟨b1, 0, none⟩))] aZ ∧ Mv [bx b3 [.int .i64 0, .int .i64 0, .int .i64 0, .int .i64 0, .slice none 0 0, .slice none 0 0, .slice none 0 0, .slice none 0 0, .slice none 0 0, .int .i64 0] 71, bx b1 [.int .i64 x.id, .int .i64 x.age, .int .i64 x.proc, .int .i64 x.began, .slice Q9 Q11 Q10, .slice Q6 Q8 Q7, .slice x_Ra x_Rn x_Rc, .slice x_Wa x_Wn x_Wc, .slice Q3 Q5 Q4, .int .i64 x.state] 71] w6 [bx b3 [.int .i64 0, .int .i64 0, .int .i64 0, .int .i64 0, .slice none 0 0, .slice none 0 0, .slice none 0 0, .slice none 0 0, .slice none 0 0, .int .i64 0] 71, bx b1 [.int .i64 x.id, .int .i64 x.age, .int .i64 x.proc, .int .i64 x.began, .slice Q9 Q11 Q10, .slice Q6 Q8 Q7, .slice x_Ra x_Rn x_Rc, .slice x_Wa x_Wn x_Wc, .slice Q3 Q5 Q4, .int .i64 x.state] 71] wZ) #[yT, nF, nF, yT, nF, nF, yT, yT, nF, yT, yT, nF, nF, nF, nF, nF, nF, nF, nF, nF] 14 ?_ (fun G205 => ?_)
   · rintro a205 w205 ⟨F205, S205⟩
     refine d_all (rs := [1, 4]) rfl (by kernel_rfl) (by simp) (d_cons (i := 1) (listed' := #[yT, yT, nF, yT, nF, nF, yT, yT, nF, yT, yT, nF, nF, nF, nF, nF, nF, nF, nF, nF]) rfl rfl ?_ (d_cons (i := 4) (listed' := #[yT, nF, nF, yT, yT, nF, yT, yT, nF, yT, yT, nF, nF, nF, nF, nF, nF, nF, nF, nF]) rfl rfl ?_ d_nil))
     · skip
       refine f_val (v := .slice Q9 Q11 Q10) F205 rfl rfl (r_loadB S205.at' 1 TI_66 rfl rfl (F205.ev 3 rfl) rfl rfl (fun _ => rfl) rfl) rfl fun _ F206 => ?_
       refine ⟨Sd.of S205 [] rfl, ?_⟩
       exact G174 _ _ ⟨F206.cut rfl, S205.pick [0, 1] rfl⟩
     · skip
       refine f_val (v := .slice Q6 Q8 Q7) F205 rfl rfl (r_loadB S205.at' 1 TI_67 rfl rfl (F205.ev 6 rfl) rfl rfl (fun _ => rfl) rfl) rfl fun _ F207 => ?_
       refine ⟨Sd.of S205 [] rfl, ?_⟩
       exact G178 _ _ ⟨F207.cut rfl, S205.pick [0, 1] rfl⟩
   refine x_lem (fun aZ wZ => Fr 20 [(4, .slice Q9 Q11 Q10), (12, .pointer (some ⟨b1, 6, none⟩)), (9, .pointer (some ⟨b1, 8, none⟩)), (6, .pointer (some ⟨b1, 5, none⟩)), (2, .pointer (some ⟨b3, 0, none⟩)), (1, .pointer (some ⟨b1, 0, none⟩))] aZ ∧ Mv [bx b3 [.int .i64 0, .int .i64 0, .int .i64 0, .int .i64 0, .slice none 0 0, .slice none 0 0, .slice none 0 0, .slice none 0 0, .slice none 0 0, .int .i64 0] 71, bx b1 [.int .i64 x.id, .int .i64 x.age, .int .i64 x.proc, .int .i64 x.began, .slice Q9 Q11 Q10, .slice Q6 Q8 Q7, .slice x_Ra x_Rn x_Rc, .slice x_Wa x_Wn x_Wc, .slice Q3 Q5 Q4, .int .i64 x.state] 71] w6 [bx b3 [.int .i64 0, .int .i64 0, .int .i64 0, .int .i64 0, .slice none 0 0, .slice none 0 0, .slice none 0 0, .slice none 0 0, .slice none 0 0, .int .i64 0] 71, bx b1 [.int .i64 x.id, .int .i64 x.age, .int .i64 x.proc, .int .i64 x.began, .slice Q9 Q11 Q10, .slice Q6 Q8 Q7, .slice x_Ra x_Rn x_Rc, .slice x_Wa x_Wn x_Wc, .slice Q3 Q5 Q4, .int .i64 x.state] 71] wZ) #[yT, yT, nF, yT, nF, nF, yT, nF, nF, yT, nF, nF, nF, nF, nF, nF, nF, nF, nF, nF] 15 ?_ (fun G208 => ?_)
   · rintro a208 w208 ⟨F208, S208⟩
     refine d_all (rs := [2, 4, 7, 10]) rfl (by kernel_rfl) (by simp) (d_cons (i := 2) (listed' := #[yT, yT, yT, yT, nF, nF, yT, nF, nF, yT, nF, nF, nF, nF, nF, nF, nF, nF, nF, nF]) rfl rfl ?_ (d_cons (i := 4) (listed' := #[yT, yT, nF, yT, yT, nF, yT, nF, nF, yT, nF, nF, nF, nF, nF, nF, nF, nF, nF, nF]) rfl rfl ?_ (d_cons (i := 7) (listed' := #[yT, yT, nF, yT, nF, nF, yT, yT, nF, yT, nF, nF, nF, nF, nF, nF, nF, nF, nF, nF]) rfl rfl ?_ (d_cons (i := 10) (listed' := #[yT, yT, nF, yT, nF, nF, yT, nF, nF, yT, yT, nF, nF, nF, nF, nF, nF, nF, nF, nF]) rfl rfl ?_ d_nil))))
     · skip
       refine f_call F208 CF_134 rfl rfl rfl rfl (lc (F208.ev 4 rfl) rfl) (slices_Clone_Simpl_Call_impl_Call_c (s := x.calls) (Rd.mv (Nat.succ_pos _) Q24 (S1.trans (S3.trans (S6.trans S208)))) (by first | assumption | omega | (simp <;> omega))) ?_
       rintro _ w209 ⟨Q52, Q89, Q69, rfl, m209⟩
       refine ⟨_, rfl, fun _ F210 => ?_⟩
       have S209 : Mv _ _ [ow 148 6 encK okK (.slice Q52 Q89 Q69) x.calls, bx b3 [.int .i64 0, .int .i64 0, .int .i64 0, .int .i64 0, .slice none 0 0, .slice none 0 0, .slice none 0 0, .slice none 0 0, .slice none 0 0, .int .i64 0] 71, bx b1 [.int .i64 x.id, .int .i64 x.age, .int .i64 x.proc, .int .i64 x.began, .slice Q9 Q11 Q10, .slice Q6 Q8 Q7, .slice x_Ra x_Rn x_Rc, .slice x_Wa x_Wn x_Wc, .slice Q3 Q5 Q4, .int .i64 x.state] 71] _ := At.frame S208.at' [] rfl m209
       obtain ⟨Q169, Q232, Q295⟩ := At.ownInv S209.at' ET_66.hk 0 rfl
       clear m209
       refine ⟨Sd.of (S208.trans S209) [] rfl, ?_⟩
       exact G180 _ _ ⟨Q52, Q89, Q69, F210.cut rfl, (S208.trans S209).pick [0, 1, 2] rfl⟩
     · skip
       refine f_val (v := .slice Q6 Q8 Q7) F208 rfl rfl (r_loadB S208.at' 1 TI_67 rfl rfl (F208.ev 6 rfl) rfl rfl (fun _ => rfl) rfl) rfl fun _ F211 => ?_
       refine ⟨Sd.of S208 [] rfl, ?_⟩
       exact G184 _ _ ⟨F211.cut rfl, S208.pick [0, 1] rfl⟩
     · skip
       refine f_val (v := .slice Q3 Q5 Q4) F208 rfl rfl (r_loadB S208.at' 1 TI_53 rfl rfl (F208.ev 9 rfl) rfl rfl (fun _ => rfl) rfl) rfl fun _ F212 => ?_
       refine ⟨Sd.of S208 [] rfl, ?_⟩
       exact G189 _ _ ⟨F212.cut rfl, S208.pick [0, 1] rfl⟩
     · skip
       refine f_val (v := .agg #[.slice x_Ra x_Rn x_Rc, .slice x_Wa x_Wn x_Wc]) F208 rfl rfl (r_loadB S208.at' 1 TI_69 rfl rfl (F208.ev 12 rfl) rfl rfl (fun h => nomatch h) rfl) rfl fun _ F213 => ?_
       refine ⟨Sd.of S208 [] rfl, ?_⟩
       exact G194 _ _ ⟨F213.cut rfl, S208.pick [0, 1] rfl⟩
   refine x_lem (fun aZ wZ => Fr 20 [(7, .slice Q6 Q8 Q7), (12, .pointer (some ⟨b1, 6, none⟩)), (9, .pointer (some ⟨b1, 8, none⟩)), (3, .pointer (some ⟨b1, 4, none⟩)), (2, .pointer (some ⟨b3, 0, none⟩)), (1, .pointer (some ⟨b1, 0, none⟩))] aZ ∧ Mv [bx b3 [.int .i64 0, .int .i64 0, .int .i64 0, .int .i64 0, .slice none 0 0, .slice none 0 0, .slice none 0 0, .slice none 0 0, .slice none 0 0, .int .i64 0] 71, bx b1 [.int .i64 x.id, .int .i64 x.age, .int .i64 x.proc, .int .i64 x.began, .slice Q9 Q11 Q10, .slice Q6 Q8 Q7, .slice x_Ra x_Rn x_Rc, .slice x_Wa x_Wn x_Wc, .slice Q3 Q5 Q4, .int .i64 x.state] 71] w6 [bx b3 [.int .i64 0, .int .i64 0, .int .i64 0, .int .i64 0, .slice none 0 0, .slice none 0 0, .slice none 0 0, .slice none 0 0, .slice none 0 0, .int .i64 0] 71, bx b1 [.int .i64 x.id, .int .i64 x.age, .int .i64 x.proc, .int .i64 x.began, .slice Q9 Q11 Q10, .slice Q6 Q8 Q7, .slice x_Ra x_Rn x_Rc, .slice x_Wa x_Wn x_Wc, .slice Q3 Q5 Q4, .int .i64 x.state] 71] wZ) #[yT, nF, nF, yT, yT, nF, yT, nF, nF, yT, nF, nF, nF, nF, nF, nF, nF, nF, nF, nF] 15 ?_ (fun G214 => ?_)
   · rintro a214 w214 ⟨F214, S214⟩
     refine d_all (rs := [1, 7, 10]) rfl (by kernel_rfl) (by simp) (d_cons (i := 1) (listed' := #[yT, yT, nF, yT, yT, nF, yT, nF, nF, yT, nF, nF, nF, nF, nF, nF, nF, nF, nF, nF]) rfl rfl ?_ (d_cons (i := 7) (listed' := #[yT, nF, nF, yT, yT, nF, yT, yT, nF, yT, nF, nF, nF, nF, nF, nF, nF, nF, nF, nF]) rfl rfl ?_ (d_cons (i := 10) (listed' := #[yT, nF, nF, yT, yT, nF, yT, nF, nF, yT, yT, nF, nF, nF, nF, nF, nF, nF, nF, nF]) rfl rfl ?_ d_nil)))
     · skip
       refine f_val (v := .slice Q9 Q11 Q10) F214 rfl rfl (r_loadB S214.at' 1 TI_66 rfl rfl (F214.ev 3 rfl) rfl rfl (fun _ => rfl) rfl) rfl fun _ F215 => ?_
       refine ⟨Sd.of S214 [] rfl, ?_⟩
       exact G184 _ _ ⟨F215.cut rfl, S214.pick [0, 1] rfl⟩
     · skip
       refine f_val (v := .slice Q3 Q5 Q4) F214 rfl rfl (r_loadB S214.at' 1 TI_53 rfl rfl (F214.ev 9 rfl) rfl rfl (fun _ => rfl) rfl) rfl fun _ F216 => ?_
       refine ⟨Sd.of S214 [] rfl, ?_⟩
       exact G199 _ _ ⟨F216.cut rfl, S214.pick [0, 1] rfl⟩
     · skip
       refine f_val (v := .agg #[.slice x_Ra x_Rn x_Rc, .slice x_Wa x_Wn x_Wc]) F214 rfl rfl (r_loadB S214.at' 1 TI_69 rfl rfl (F214.ev 12 rfl) rfl rfl (fun h => nomatch h) rfl) rfl fun _ F217 => ?_
       refine ⟨Sd.of S214 [] rfl, ?_⟩
       exact G202 _ _ ⟨F217.cut rfl, S214.pick [0, 1] rfl⟩
   refine x_lem (fun aZ wZ => Fr 20 [(10, .slice Q3 Q5 Q4), (12, .pointer (some ⟨b1, 6, none⟩)), (6, .pointer (some ⟨b1, 5, none⟩)), (3, .pointer (some ⟨b1, 4, none⟩)), (2, .pointer (some ⟨b3, 0, none⟩)), (1, .pointer (some ⟨b1, 0, none⟩))] aZ ∧ Mv [bx b3 [.int .i64 0, .int .i64 0, .int .i64 0, .int .i64 0, .slice none 0 0, .slice none 0 0, .slice none 0 0, .slice none 0 0, .slice none 0 0, .int .i64 0] 71, bx b1 [.int .i64 x.id, .int .i64 x.age, .int .i64 x.proc, .int .i64 x.began, .slice Q9 Q11 Q10, .slice Q6 Q8 Q7, .slice x_Ra x_Rn x_Rc, .slice x_Wa x_Wn x_Wc, .slice Q3 Q5 Q4, .int .i64 x.state] 71] w6 [bx b3 [.int .i64 0, .int .i64 0, .int .i64 0, .int .i64 0, .slice none 0 0, .slice none 0 0, .slice none 0 0, .slice none 0 0, .slice none 0 0, .int .i64 0] 71, bx b1 [.int .i64 x.id, .int .i64 x.age, .int .i64 x.proc, .int .i64 x.began, .slice Q9 Q11 Q10, .slice Q6 Q8 Q7, .slice x_Ra x_Rn x_Rc, .slice x_Wa x_Wn x_Wc, .slice Q3 Q5 Q4, .int .i64 x.state] 71] wZ) #[yT, nF, nF, yT, nF, nF, yT, yT, nF, yT, nF, nF, nF, nF, nF, nF, nF, nF, nF, nF] 15 ?_ (fun G218 => ?_)
   · rintro a218 w218 ⟨F218, S218⟩
     refine d_all (rs := [1, 4, 10]) rfl (by kernel_rfl) (by simp) (d_cons (i := 1) (listed' := #[yT, yT, nF, yT, nF, nF, yT, yT, nF, yT, nF, nF, nF, nF, nF, nF, nF, nF, nF, nF]) rfl rfl ?_ (d_cons (i := 4) (listed' := #[yT, nF, nF, yT, yT, nF, yT, yT, nF, yT, nF, nF, nF, nF, nF, nF, nF, nF, nF, nF]) rfl rfl ?_ (d_cons (i := 10) (listed' := #[yT, nF, nF, yT, nF, nF, yT, yT, nF, yT, yT, nF, nF, nF, nF, nF, nF, nF, nF, nF]) rfl rfl ?_ d_nil)))
     · skip
       refine f_val (v := .slice Q9 Q11 Q10) F218 rfl rfl (r_loadB S218.at' 1 TI_66 rfl rfl (F218.ev 3 rfl) rfl rfl (fun _ => rfl) rfl) rfl fun _ F219 => ?_
       refine ⟨Sd.of S218 [] rfl, ?_⟩
       exact G189 _ _ ⟨F219.cut rfl, S218.pick [0, 1] rfl⟩
     · skip
       refine f_val (v := .slice Q6 Q8 Q7) F218 rfl rfl (r_loadB S218.at' 1 TI_67 rfl rfl (F218.ev 6 rfl) rfl rfl (fun _ => rfl) rfl) rfl fun _ F220 => ?_
       refine ⟨Sd.of S218 [] rfl, ?_⟩
       exact G199 _ _ ⟨F220.cut rfl, S218.pick [0, 1] rfl⟩
     · skip
       refine f_val (v := .agg #[.slice x_Ra x_Rn x_Rc, .slice x_Wa x_Wn x_Wc]) F218 rfl rfl (r_loadB S218.at' 1 TI_69 rfl rfl (F218.ev 12 rfl) rfl rfl (fun h => nomatch h) rfl) rfl fun _ F221 => ?_
       refine ⟨Sd.of S218 [] rfl, ?_⟩
       exact G205 _ _ ⟨F221.cut rfl, S218.pick [0, 1] rfl⟩
   refine x_lem (fun aZ wZ => Fr 20 [(13, .agg #[.slice x_Ra x_Rn x_Rc, .slice x_Wa x_Wn x_Wc]), (9, .pointer (some ⟨b1, 8, none⟩)), (6, .pointer (some ⟨b1, 5, none⟩)), (3, .pointer (some ⟨b1, 4, none⟩)), (2, .pointer (some ⟨b3, 0, none⟩)), (1, .pointer (some ⟨b1, 0, none⟩))] aZ ∧ Mv [bx b3 [.int .i64 0, .int .i64 0, .int .i64 0, .int .i64 0, .slice none 0 0, .slice none 0 0, .slice none 0 0, .slice none 0 0, .slice none 0 0, .int .i64 0] 71, bx b1 [.int .i64 x.id, .int .i64 x.age, .int .i64 x.proc, .int .i64 x.began, .slice Q9 Q11 Q10, .slice Q6 Q8 Q7, .slice x_Ra x_Rn x_Rc, .slice x_Wa x_Wn x_Wc, .slice Q3 Q5 Q4, .int .i64 x.state] 71] w6 [bx b3 [.int .i64 0, .int .i64 0, .int .i64 0, .int .i64 0, .slice none 0 0, .slice none 0 0, .slice none 0 0, .slice none 0 0, .slice none 0 0, .int .i64 0] 71, bx b1 [.int .i64 x.id, .int .i64 x.age, .int .i64 x.proc, .int .i64 x.began, .slice Q9 Q11 Q10, .slice Q6 Q8 Q7, .slice x_Ra x_Rn x_Rc, .slice x_Wa x_Wn x_Wc, .slice Q3 Q5 Q4, .int .i64 x.state] 71] wZ) #[yT, nF, nF, yT, nF, nF, yT, nF, nF, yT, yT, nF, nF, nF, nF, nF, nF, nF, nF, nF] 15 ?_ (fun G222 => ?_)
   · rintro a222 w222 ⟨F222, S222⟩
     refine d_all (rs := [1, 4, 7]) rfl (by kernel_rfl) (by simp) (d_cons (i := 1) (listed' := #[yT, yT, nF, yT, nF, nF, yT, nF, nF, yT, yT, nF, nF, nF, nF, nF, nF, nF, nF, nF]) rfl rfl ?_ (d_cons (i := 4) (listed' := #[yT, nF, nF, yT, yT, nF, yT, nF, nF, yT, yT, nF, nF, nF, nF, nF, nF, nF, nF, nF]) rfl rfl ?_ (d_cons (i := 7) (listed' := #[yT, nF, nF, yT, nF, nF, yT, yT, nF, yT, yT, nF, nF, nF, nF, nF, nF, nF, nF, nF]) rfl rfl ?_ d_nil)))
     · skip
       refine f_val (v := .slice Q9 Q11 Q10) F222 rfl rfl (r_loadB S222.at' 1 TI_66 rfl rfl (F222.ev 3 rfl) rfl rfl (fun _ => rfl) rfl) rfl fun _ F223 => ?_
       refine ⟨Sd.of S222 [] rfl, ?_⟩
       exact G194 _ _ ⟨F223.cut rfl, S222.pick [0, 1] rfl⟩
     · skip
       refine f_val (v := .slice Q6 Q8 Q7) F222 rfl rfl (r_loadB S222.at' 1 TI_67 rfl rfl (F222.ev 6 rfl) rfl rfl (fun _ => rfl) rfl) rfl fun _ F224 => ?_
       refine ⟨Sd.of S222 [] rfl, ?_⟩
       exact G202 _ _ ⟨F224.cut rfl, S222.pick [0, 1] rfl⟩
     · skip
       refine f_val (v := .slice Q3 Q5 Q4) F222 rfl rfl (r_loadB S222.at' 1 TI_53 rfl rfl (F222.ev 9 rfl) rfl rfl (fun _ => rfl) rfl) rfl fun _ F225 => ?_
       refine ⟨Sd.of S222 [] rfl, ?_⟩
       exact G205 _ _ ⟨F225.cut rfl, S222.pick [0, 1] rfl⟩
   refine x_lem (fun aZ wZ => Fr 20 [(12, .pointer (some ⟨b1, 6, none⟩)), (9, .pointer (some ⟨b1, 8, none⟩)), (6, .pointer (some ⟨b1, 5, none⟩)), (3, .pointer (some ⟨b1, 4, none⟩)), (2, .pointer (some ⟨b3, 0, none⟩)), (1, .pointer (some ⟨b1, 0, none⟩))] aZ ∧ Mv [bx b3 [.int .i64 0, .int .i64 0, .int .i64 0, .int .i64 0, .slice none 0 0, .slice none 0 0, .slice none 0 0, .slice none 0 0, .slice none 0 0, .int .i64 0] 71, bx b1 [.int .i64 x.id, .int .i64 x.age, .int .i64 x.proc, .int .i64 x.began, .slice Q9 Q11 Q10, .slice Q6 Q8 Q7, .slice x_Ra x_Rn x_Rc, .slice x_Wa x_Wn x_Wc, .slice Q3 Q5 Q4, .int .i64 x.state] 71] w6 [bx b3 [.int .i64 0, .int .i64 0, .int .i64 0, .int .i64 0, .slice none 0 0, .slice none 0 0, .slice none 0 0, .slice none 0 0, .slice none 0 0, .int .i64 0] 71, bx b1 [.int .i64 x.id, .int .i64 x.age, .int .i64 x.proc, .int .i64 x.began, .slice Q9 Q11 Q10, .slice Q6 Q8 Q7, .slice x_Ra x_Rn x_Rc, .slice x_Wa x_Wn x_Wc, .slice Q3 Q5 Q4, .int .i64 x.state] 71] wZ) #[yT, nF, nF, yT, nF, nF, yT, nF, nF, yT, nF, nF, nF, nF, nF, nF, nF, nF, nF, nF] 16 ?_ (fun G226 => ?_)
   · rintro a226 w226 ⟨F226, S226⟩
     refine d_all (rs := [1, 4, 7, 10]) rfl (by kernel_rfl) (by simp) (d_cons (i := 1) (listed' := #[yT, yT, nF, yT, nF, nF, yT, nF, nF, yT, nF, nF, nF, nF, nF, nF, nF, nF, nF, nF]) rfl rfl ?_ (d_cons (i := 4) (listed' := #[yT, nF, nF, yT, yT, nF, yT, nF, nF, yT, nF, nF, nF, nF, nF, nF, nF, nF, nF, nF]) rfl rfl ?_ (d_cons (i := 7) (listed' := #[yT, nF, nF, yT, nF, nF, yT, yT, nF, yT, nF, nF, nF, nF, nF, nF, nF, nF, nF, nF]) rfl rfl ?_ (d_cons (i := 10) (listed' := #[yT, nF, nF, yT, nF, nF, yT, nF, nF, yT, yT, nF, nF, nF, nF, nF, nF, nF, nF, nF]) rfl rfl ?_ d_nil))))
     · skip
       refine f_val (v := .slice Q9 Q11 Q10) F226 rfl rfl (r_loadB S226.at' 1 TI_66 rfl rfl (F226.ev 3 rfl) rfl rfl (fun _ => rfl) rfl) rfl fun _ F227 => ?_
       refine ⟨Sd.of S226 [] rfl, ?_⟩
       exact G208 _ _ ⟨F227.cut rfl, S226.pick [0, 1] rfl⟩
     · skip
       refine f_val (v := .slice Q6 Q8 Q7) F226 rfl rfl (r_loadB S226.at' 1 TI_67 rfl rfl (F226.ev 6 rfl) rfl rfl (fun _ => rfl) rfl) rfl fun _ F228 => ?_
       refine ⟨Sd.of S226 [] rfl, ?_⟩
       exact G214 _ _ ⟨F228.cut rfl, S226.pick [0, 1] rfl⟩
     · skip
       refine f_val (v := .slice Q3 Q5 Q4) F226 rfl rfl (r_loadB S226.at' 1 TI_53 rfl rfl (F226.ev 9 rfl) rfl rfl (fun _ => rfl) rfl) rfl fun _ F229 => ?_
       refine ⟨Sd.of S226 [] rfl, ?_⟩
       exact G218 _ _ ⟨F229.cut rfl, S226.pick [0, 1] rfl⟩
     · skip
       refine f_val (v := .agg #[.slice x_Ra x_Rn x_Rc, .slice x_Wa x_Wn x_Wc]) F226 rfl rfl (r_loadB S226.at' 1 TI_69 rfl rfl (F226.ev 12 rfl) rfl rfl (fun h => nomatch h) rfl) rfl fun _ F230 => ?_
       refine ⟨Sd.of S226 [] rfl, ?_⟩
       exact G222 _ _ ⟨F230.cut rfl, S226.pick [0, 1] rfl⟩
   refine g_take F4 rfl (i := 0) (listed' := #[yT, nF, nF, nF, nF, nF, nF, nF, nF, nF, nF, nF, nF, nF, nF, nF, nF, nF, nF, nF]) rfl (by kernel_rfl) (by kernel_rfl) (by kernel_rfl) (fun _ _ _ h => h) (Sd.of (Mv.refl S6.at') [] rfl) rfl rfl rfl rfl (fun _ hz => (r_field FI_71_4 rfl (F4.ev 1 rfl) rfl)) fun _ F231 => ?_
   refine g_take F231 rfl (i := 3) (listed' := #[yT, nF, nF, yT, nF, nF, nF, nF, nF, nF, nF, nF, nF, nF, nF, nF, nF, nF, nF, nF]) rfl (by kernel_rfl) (by kernel_rfl) (by kernel_rfl) (fun _ _ _ h => h) (Sd.of (Mv.refl S6.at') [] rfl) rfl rfl rfl rfl (fun _ hz => (r_field FI_71_5 rfl (F231.ev 1 rfl) rfl)) fun _ F232 => ?_
   refine g_take F232 rfl (i := 6) (listed' := #[yT, nF, nF, yT, nF, nF, yT, nF, nF, nF, nF, nF, nF, nF, nF, nF, nF, nF, nF, nF]) rfl (by kernel_rfl) (by kernel_rfl) (by kernel_rfl) (fun _ _ _ h => h) (Sd.of (Mv.refl S6.at') [] rfl) rfl rfl rfl rfl (fun _ hz => (r_field FI_71_7 rfl (F232.ev 1 rfl) rfl)) fun _ F233 => ?_
   refine g_take F233 rfl (i := 9) (listed' := #[yT, nF, nF, yT, nF, nF, yT, nF, nF, yT, nF, nF, nF, nF, nF, nF, nF, nF, nF, nF]) rfl (by kernel_rfl) (by kernel_rfl) (by kernel_rfl) (fun _ _ _ h => h) (Sd.of (Mv.refl S6.at') [] rfl) rfl rfl rfl rfl (fun _ hz => (r_field FI_71_6 rfl (F233.ev 1 rfl) rfl)) fun _ F234 => ?_
   exact G226 _ _ ⟨F234.cut rfl, (Mv.refl S6.at').pick [0, 1] rfl⟩
 · rintro a235 w235 ⟨Q0, Q2, Q1, Q12, Q14, Q13, Q15, Q17, Q16, Q18, Q20, Q19, Q21, Q23, Q22, F235, S235⟩
   obtain ⟨Q170, Q233, Q296⟩ := At.ownInv S235.at' ET_66.hk 2 rfl
   obtain ⟨Q171, Q234, Q297⟩ := At.ownInv S235.at' ET_67.hk 3 rfl
   obtain ⟨Q172, Q235, Q298⟩ := At.ownInv S235.at' ET_53.hk 4 rfl
   obtain ⟨Q173, Q236, Q299⟩ := At.ownInv S235.at' ET_62.hk 5 rfl
   obtain ⟨Q174, Q237, Q300⟩ := At.ownInv S235.at' ET_62.hk 6 rfl
   refine x_normal (wp_seq (wp_region_lit (l_op (f_val (v := .agg #[.int .i64 x.id, .int .i64 x.age, .int .i64 x.proc, .int .i64 x.began, .slice Q0 Q2 Q1, .slice Q12 Q14 Q13, .slice Q18 Q20 Q19, .slice Q21 Q23 Q22, .slice Q15 Q17 Q16, .int .i64 x.state]) F235 rfl rfl (r_loadB S235.at' 1 TI_71 rfl rfl (F235.ev 1 rfl) rfl rfl (fun h => nomatch h) rfl) rfl fun _ F236 => ?_))))
   refine l_op (s_store S235.at' 0 TI_71 rfl rfl rfl rfl rfl (F236.ev 2 rfl) (F236.ev 19 rfl) rfl rfl rfl rfl rfl fun w237 S237 => ?_)
   have T238 : Mv _ _ [bx b3 [.int .i64 x.id, .int .i64 x.age, .int .i64 x.proc, .int .i64 x.began, .slice Q0 Q2 Q1, .slice Q12 Q14 Q13, .slice Q18 Q20 Q19, .slice Q21 Q23 Q22, .slice Q15 Q17 Q16, .int .i64 x.state] 71, bx b1 [.int .i64 x.id, .int .i64 x.age, .int .i64 x.proc, .int .i64 x.began, .slice Q0 Q2 Q1, .slice Q12 Q14 Q13, .slice Q18 Q20 Q19, .slice Q21 Q23 Q22, .slice Q15 Q17 Q16, .int .i64 x.state] 71, ow 148 6 encK okK (.slice Q0 Q2 Q1) x.calls, ow 151 3 encR okR (.slice Q12 Q14 Q13) x.answers, ow 3 1 encI okI (.slice Q15 Q17 Q16) x.marks, ow 9 1 encS okS (.slice Q18 Q20 Q19) x.touch.reads, ow 9 1 encS okS (.slice Q21 Q23 Q22) x.touch.writes] _ := S237
   refine s_end (x_normal (wp_ret ?_))
   refine x_done (v := .agg #[.int .i64 x.id, .int .i64 x.age, .int .i64 x.proc, .int .i64 x.began, .slice Q0 Q2 Q1, .slice Q12 Q14 Q13, .slice Q18 Q20 Q19, .slice Q21 Q23 Q22, .slice Q15 Q17 Q16, .int .i64 x.state]) F236 (results_1 Try.results95 (.cell (F236.ev 2 rfl) (run_loadVar' TI_71 _ [.int .i64 x.id, .int .i64 x.age, .int .i64 x.proc, .int .i64 x.began, .slice Q0 Q2 Q1, .slice Q12 Q14 Q13, .slice Q18 Q20 Q19, .slice Q21 Q23 Q22, .slice Q15 Q17 Q16, .int .i64 x.state] rfl (fun h => nomatch h) (At.cells T238.at' 0 rfl 0 [.int .i64 x.id, .int .i64 x.age, .int .i64 x.proc, .int .i64 x.began, .slice Q0 Q2 Q1, .slice Q12 Q14 Q13, .slice Q18 Q20 Q19, .slice Q21 Q23 Q22, .slice Q15 Q17 Q16, .int .i64 x.state] rfl)))) ?_
   exact ⟨Q0, Q2, Q1, Q12, Q14, Q13, Q18, Q20, Q19, Q21, Q23, Q22, Q15, Q17, Q16, rfl, (Mv.pick (S1.trans (S3.trans (S235.trans T238))) [2, 3, 5, 6, 4] rfl)⟩
end Go.Proofs.Ytgfilegkabbliaa
