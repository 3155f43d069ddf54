/-
  Walks: a transaction is copied.
-/
import Derived.Test.YtkebmooffbkpgaaGenXa
namespace Go.Proofs.Ytkebmooffbkpgaa
open Go.ChangeShapes Go.WideShapes Go.ChangeAt Go.RowKit
set_option maxRecDepth 100000
set_option maxHeartbeats 1000000
theorem impl_Tx_clone_c {w : World} {H : Nat → Prop} {x : TxD} {Q9 : Option Addr} {Q11 Q10 : Nat} {Q6 : Option Addr} {Q8 Q7 : Nat} {x_Ra : Option Addr} {x_Rn x_Rc : Nat} {x_Wa : Option Addr} {x_Wn x_Wc : Nat} {Q3 : Option Addr} {Q5 Q4 : Nat} (Q99 : i64ok x.id) (Q97 : i64ok x.age) (Q100 : i64ok x.proc) (Q98 : i64ok x.began) (Q91 : Rd 6 encK okK H w (.slice Q9 Q11 Q10) x.calls) (Q90 : Rd 3 encR okR H w (.slice Q6 Q8 Q7) x.answers) (Q93 : Rd 1 encS okS H w (.slice x_Ra x_Rn x_Rc) x.touch.reads) (Q94 : Rd 1 encS okS H w (.slice x_Wa x_Wn x_Wc) x.touch.writes) (Q92 : Rd 1 encI okI H w (.slice Q3 Q5 Q4) x.marks) (Q101 : i64ok x.state) (p0 : x.calls.length ≤ 2097152) (p1 : x.answers.length ≤ 2097152) (p2 : x.touch.reads.length ≤ 2097152) (p3 : x.touch.writes.length ≤ 2097152) (p4 : x.marks.length ≤ 2097152) :
    Calls Try.prog 22 #[.agg #[.int .i64 x.id, .int .i64 x.age, .int .i64 x.proc, .int .i64 x.began, .slice Q9 Q11 Q10, .slice Q6 Q8 Q7, .slice x_Ra x_Rn x_Rc, .slice x_Wa x_Wn x_Wc, .slice Q3 Q5 Q4, .int .i64 x.state]] w fun e w' => ∃ (Q70 : Option Addr), ∃ (Q72 : Nat), ∃ (Q71 : Nat), ∃ (Q53 : Option Addr), ∃ (Q55 : Nat), ∃ (Q54 : Nat), ∃ (Q27 : Option Addr), ∃ (Q31 : Nat), ∃ (Q29 : Nat), ∃ (Q33 : Option Addr), ∃ (Q37 : Nat), ∃ (Q35 : Nat), ∃ (Q73 : Option Addr), ∃ (Q75 : Nat), ∃ (Q74 : Nat), e = .returned (.agg #[.int .i64 x.id, .int .i64 x.age, .int .i64 x.proc, .int .i64 x.began, .slice Q70 Q72 Q71, .slice Q53 Q55 Q54, .slice Q27 Q31 Q29, .slice Q33 Q37 Q35, .slice Q73 Q75 Q74, .int .i64 x.state]) ∧ Mv [] w [ow 56 6 encK okK (.slice Q70 Q72 Q71) x.calls, ow 59 3 encR okR (.slice Q53 Q55 Q54) x.answers, ow 9 1 encS okS (.slice Q27 Q31 Q29) x.touch.reads, ow 9 1 encS okS (.slice Q33 Q37 Q35) x.touch.writes, ow 3 1 encI okI (.slice Q73 Q75 Q74) x.marks] w' := by
 have uU : True := (fun _ _ _ _ _ _ _ _ _ _ => trivial) Q99 Q97 Q100 Q98 Q101 p0 p1 p2 p3 p4
 clear uU
 have Q24 : Rd 6 encK okK (V H w []) w (.slice Q9 Q11 Q10) x.calls := Rd.start Q91 (fun _ _ => fps_nil _)
 obtain ⟨Q108, Q103, Q302, Q307⟩ := Rd.inv Q91
 have Q25 : Rd 3 encR okR (V H w []) w (.slice Q6 Q8 Q7) x.answers := Rd.start Q90 (fun _ _ => fps_nil _)
 obtain ⟨Q107, Q102, Q301, Q306⟩ := Rd.inv Q90
 have Q95 : Rd 1 encS okS (V H w []) w (.slice x_Ra x_Rn x_Rc) x.touch.reads := Rd.start Q93 (fun _ _ => fps_nil _)
 obtain ⟨Q110, Q105, Q304, Q309⟩ := Rd.inv Q93
 have Q96 : Rd 1 encS okS (V H w []) w (.slice x_Wa x_Wn x_Wc) x.touch.writes := Rd.start Q94 (fun _ _ => fps_nil _)
 obtain ⟨Q111, Q106, Q305, Q310⟩ := Rd.inv Q94
 have Q26 : Rd 1 encI okI (V H w []) w (.slice Q3 Q5 Q4) x.marks := Rd.start Q92 (fun _ _ => fps_nil _)
 obtain ⟨Q109, Q104, Q303, Q308⟩ := Rd.inv Q92
 refine calls_enter 20 Try.func22 rfl Try.ntmps22 (Nat.le_of_ble_eq_true rfl) (fun _ F0i => ?_)
 have F0 : Fr 20 [(0, .agg #[.int .i64 x.id, .int .i64 x.age, .int .i64 x.proc, .int .i64 x.began, .slice Q9 Q11 Q10, .slice Q6 Q8 Q7, .slice x_Ra x_Rn x_Rc, .slice x_Wa x_Wn x_Wc, .slice Q3 Q5 Q4, .int .i64 x.state])] _ := F0i
 clear F0i
 refine wp_seq (wp_region_lit (l_op (f_box F0 (At.nil w) rfl rfl rfl (F0.ev 0 rfl) rfl rfl fun b1 _ w1 F2 S1 => ?_)))
 refine l_op (f_alloc F2 S1.at' ZI_35 rfl rfl rfl rfl rfl fun b3 _ w3 F4 S3 => ?_)
 have F5 : Fr 20 [(2, .pointer (some ⟨b3, 0, none⟩)), (1, .pointer (some ⟨b1, 0, none⟩))] _ := F4.cut rfl
 clear F0 F2 F4
 have T6 : Mv _ _ [bx b3 [.int .i64 0, .int .i64 0, .int .i64 0, .int .i64 0, .slice none 0 0, .slice none 0 0, .slice none 0 0, .slice none 0 0, .slice none 0 0, .int .i64 0] 35, bx b1 [.int .i64 x.id, .int .i64 x.age, .int .i64 x.proc, .int .i64 x.began, .slice Q9 Q11 Q10, .slice Q6 Q8 Q7, .slice x_Ra x_Rn x_Rc, .slice x_Wa x_Wn x_Wc, .slice Q3 Q5 Q4, .int .i64 x.state] 35] _ := S3
 refine s_end (x_normal (wp_seq ?_))
 refine x_draw (fun aZ wZ => ∃ (Q0 : Option Addr), ∃ (Q2 : Nat), ∃ (Q1 : Nat), ∃ (Q12 : Option Addr), ∃ (Q14 : Nat), ∃ (Q13 : Nat), ∃ (Q15 : Option Addr), ∃ (Q17 : Nat), ∃ (Q16 : Nat), ∃ (Q18 : Option Addr), ∃ (Q20 : Nat), ∃ (Q19 : Nat), ∃ (Q21 : Option Addr), ∃ (Q23 : Nat), ∃ (Q22 : Nat), Fr 20 [(1, .pointer (some ⟨b1, 0, none⟩)), (2, .pointer (some ⟨b3, 0, none⟩))] aZ ∧ Mv [bx b3 [.int .i64 0, .int .i64 0, .int .i64 0, .int .i64 0, .slice none 0 0, .slice none 0 0, .slice none 0 0, .slice none 0 0, .slice none 0 0, .int .i64 0] 35, bx b1 [.int .i64 x.id, .int .i64 x.age, .int .i64 x.proc, .int .i64 x.began, .slice Q9 Q11 Q10, .slice Q6 Q8 Q7, .slice x_Ra x_Rn x_Rc, .slice x_Wa x_Wn x_Wc, .slice Q3 Q5 Q4, .int .i64 x.state] 35] w3 [bx b3 [.int .i64 0, .int .i64 0, .int .i64 0, .int .i64 0, .slice none 0 0, .slice none 0 0, .slice none 0 0, .slice none 0 0, .slice none 0 0, .int .i64 0] 35, bx b1 [.int .i64 x.id, .int .i64 x.age, .int .i64 x.proc, .int .i64 x.began, .slice Q0 Q2 Q1, .slice Q12 Q14 Q13, .slice Q18 Q20 Q19, .slice Q21 Q23 Q22, .slice Q15 Q17 Q16, .int .i64 x.state] 35, ow 56 6 encK okK (.slice Q0 Q2 Q1) x.calls, ow 59 3 encR okR (.slice Q12 Q14 Q13) x.answers, ow 3 1 encI okI (.slice Q15 Q17 Q16) x.marks, ow 9 1 encS okS (.slice Q18 Q20 Q19) x.touch.reads, ow 9 1 encS okS (.slice Q21 Q23 Q22) x.touch.writes] wZ) [] mixed T6.at' (listed := #[false, false, false, false, false, false, false, false, false, false, false, false, false, false, false, false, false, false, false, false]) rfl (fun w8 S8 => ?_) [] rfl ?_
 · skip
   refine x_lem (fun aZ wZ => ∃ (Q0 : Option Addr), ∃ (Q2 : Nat), ∃ (Q1 : Nat), ∃ (Q12 : Option Addr), ∃ (Q14 : Nat), ∃ (Q13 : Nat), ∃ (Q15 : Option Addr), ∃ (Q17 : Nat), ∃ (Q16 : Nat), ∃ (Q18 : Option Addr), ∃ (Q20 : Nat), ∃ (Q19 : Nat), ∃ (Q21 : Option Addr), ∃ (Q23 : Nat), ∃ (Q22 : Nat), Fr 20 [(18, .pointer (some ⟨b1, 6, none⟩)), (14, .agg #[.slice Q18 Q20 Q19, .slice Q21 Q23 Q22]), (2, .pointer (some ⟨b3, 0, none⟩)), (1, .pointer (some ⟨b1, 0, none⟩))] aZ ∧ Mv [bx b3 [.int .i64 0, .int .i64 0, .int .i64 0, .int .i64 0, .slice none 0 0, .slice none 0 0, .slice none 0 0, .slice none 0 0, .slice none 0 0, .int .i64 0] 35, bx b1 [.int .i64 x.id, .int .i64 x.age, .int .i64 x.proc, .int .i64 x.began, .slice Q9 Q11 Q10, .slice Q6 Q8 Q7, .slice x_Ra x_Rn x_Rc, .slice x_Wa x_Wn x_Wc, .slice Q3 Q5 Q4, .int .i64 x.state] 35] w8 [bx b1 [.int .i64 x.id, .int .i64 x.age, .int .i64 x.proc, .int .i64 x.began, .slice Q0 Q2 Q1, .slice Q12 Q14 Q13, .slice x_Ra x_Rn x_Rc, .slice x_Wa x_Wn x_Wc, .slice Q15 Q17 Q16, .int .i64 x.state] 35, ow 9 1 encS okS (.slice Q18 Q20 Q19) x.touch.reads, ow 9 1 encS okS (.slice Q21 Q23 Q22) x.touch.writes, ow 3 1 encI okI (.slice Q15 Q17 Q16) x.marks, ow 59 3 encR okR (.slice Q12 Q14 Q13) x.answers, ow 56 6 encK okK (.slice Q0 Q2 Q1) x.calls, bx b3 [.int .i64 0, .int .i64 0, .int .i64 0, .int .i64 0, .slice none 0 0, .slice none 0 0, .slice none 0 0, .slice none 0 0, .slice none 0 0, .int .i64 0] 35] wZ) #[yT, yT, yT, yT, yT, yT, yT, yT, yT, yT, yT, yT, yT, yT, yT, yT, yT, yT, yT, nF] 1 ?_ (fun G106 => ?_)
   · rintro a106 w106 ⟨Q0, Q2, Q1, Q12, Q14, Q13, Q15, Q17, Q16, Q18, Q20, Q19, Q21, Q23, Q22, F106, S106⟩
     obtain ⟨Q112, Q175, Q238⟩ := At.ownInv S106.at' ET_24.hk 1 rfl
     obtain ⟨Q113, Q176, Q239⟩ := At.ownInv S106.at' ET_24.hk 2 rfl
     obtain ⟨Q114, Q177, Q240⟩ := At.ownInv S106.at' ET_27.hk 3 rfl
     obtain ⟨Q115, Q178, Q241⟩ := At.ownInv S106.at' ET_32.hk 4 rfl
     obtain ⟨Q116, Q179, Q242⟩ := At.ownInv S106.at' ET_31.hk 5 rfl
     refine d_one (i := 19) (listed' := #[yT, yT, yT, yT, yT, yT, yT, yT, yT, yT, yT, yT, yT, yT, yT, yT, yT, yT, yT, yT]) rfl (by kernel_rfl) rfl rfl ?_
     refine s_store S106.at' 0 TI_33 rfl rfl rfl rfl rfl (F106.ev 18 rfl) (F106.ev 14 rfl) rfl rfl rfl rfl rfl fun w107 S107 => ?_
     refine ⟨Sd.of (S106.trans S107) [] rfl, ?_⟩
     refine wpAnyH_done (by kernel_rfl) (x_normal ?_) _
     exact ⟨Q0, Q2, Q1, Q12, Q14, Q13, Q15, Q17, Q16, Q18, Q20, Q19, Q21, Q23, Q22, F106.cut rfl, ((S8.trans (S106.trans S107)).pick [6, 0, 5, 4, 3, 1, 2] rfl)⟩
   refine x_lem (fun aZ wZ => ∃ (Q0 : Option Addr), ∃ (Q2 : Nat), ∃ (Q1 : Nat), ∃ (Q12 : Option Addr), ∃ (Q14 : Nat), ∃ (Q13 : Nat), ∃ (Q15 : Option Addr), ∃ (Q17 : Nat), ∃ (Q16 : Nat), ∃ (Q18 : Option Addr), ∃ (Q20 : Nat), ∃ (Q19 : Nat), ∃ (Q21 : Option Addr), ∃ (Q23 : Nat), ∃ (Q22 : Nat), Fr 20 [(17, .pointer (some ⟨b1, 8, none⟩)), (14, .agg #[.slice Q18 Q20 Q19, .slice Q21 Q23 Q22]), (11, .slice Q15 Q17 Q16), (2, .pointer (some ⟨b3, 0, none⟩)), (1, .pointer (some ⟨b1, 0, none⟩))] aZ ∧ Mv [bx b3 [.int .i64 0, .int .i64 0, .int .i64 0, .int .i64 0, .slice none 0 0, .slice none 0 0, .slice none 0 0, .slice none 0 0, .slice none 0 0, .int .i64 0] 35, bx b1 [.int .i64 x.id, .int .i64 x.age, .int .i64 x.proc, .int .i64 x.began, .slice Q9 Q11 Q10, .slice Q6 Q8 Q7, .slice x_Ra x_Rn x_Rc, .slice x_Wa x_Wn x_Wc, .slice Q3 Q5 Q4, .int .i64 x.state] 35] w8 [bx b1 [.int .i64 x.id, .int .i64 x.age, .int .i64 x.proc, .int .i64 x.began, .slice Q0 Q2 Q1, .slice Q12 Q14 Q13, .slice x_Ra x_Rn x_Rc, .slice x_Wa x_Wn x_Wc, .slice Q3 Q5 Q4, .int .i64 x.state] 35, ow 9 1 encS okS (.slice Q18 Q20 Q19) x.touch.reads, ow 9 1 encS okS (.slice Q21 Q23 Q22) x.touch.writes, ow 3 1 encI okI (.slice Q15 Q17 Q16) x.marks, ow 59 3 encR okR (.slice Q12 Q14 Q13) x.answers, ow 56 6 encK okK (.slice Q0 Q2 Q1) x.calls, bx b3 [.int .i64 0, .int .i64 0, .int .i64 0, .int .i64 0, .slice none 0 0, .slice none 0 0, .slice none 0 0, .slice none 0 0, .slice none 0 0, .int .i64 0] 35] wZ) #[yT, yT, yT, yT, yT, yT, yT, yT, yT, yT, yT, yT, yT, yT, yT, yT, yT, nF, nF, nF] 3 ?_ (fun G108 => ?_)
   · rintro a108 w108 ⟨Q0, Q2, Q1, Q12, Q14, Q13, Q15, Q17, Q16, Q18, Q20, Q19, Q21, Q23, Q22, F108, S108⟩
     obtain ⟨Q117, Q180, Q243⟩ := At.ownInv S108.at' ET_24.hk 1 rfl
     obtain ⟨Q118, Q181, Q244⟩ := At.ownInv S108.at' ET_24.hk 2 rfl
     obtain ⟨Q119, Q182, Q245⟩ := At.ownInv S108.at' ET_27.hk 3 rfl
     obtain ⟨Q120, Q183, Q246⟩ := At.ownInv S108.at' ET_32.hk 4 rfl
     obtain ⟨Q121, Q184, Q247⟩ := At.ownInv S108.at' ET_31.hk 5 rfl
     refine d_one (i := 17) (listed' := #[yT, yT, yT, yT, yT, yT, yT, yT, yT, yT, yT, yT, yT, yT, yT, yT, yT, yT, nF, nF]) rfl (by kernel_rfl) rfl rfl ?_
     refine s_store S108.at' 0 TI_27 rfl rfl rfl rfl rfl (F108.ev 17 rfl) (F108.ev 11 rfl) rfl rfl rfl rfl rfl fun w109 S109 => ?_
     refine ⟨Sd.of (S108.trans S109) [] rfl, ?_⟩
     refine g_take F108 rfl (i := 18) (listed' := #[yT, yT, yT, yT, yT, yT, yT, yT, yT, yT, yT, yT, yT, yT, yT, yT, yT, yT, yT, nF]) rfl (by kernel_rfl) (by kernel_rfl) (by kernel_rfl) (fun _ _ _ h => h) (Sd.of (S108.trans S109) [] rfl) rfl rfl rfl rfl (fun _ hz => (r_field FI_35_6 rfl (F108.ev 1 rfl) rfl)) fun _ F110 => ?_
     exact G106 _ _ ⟨Q0, Q2, Q1, Q12, Q14, Q13, Q15, Q17, Q16, Q18, Q20, Q19, Q21, Q23, Q22, F110.cut rfl, (S108.trans S109).pick [0, 1, 2, 3, 4, 5, 6] rfl⟩
   refine x_lem (fun aZ wZ => ∃ (Q0 : Option Addr), ∃ (Q2 : Nat), ∃ (Q1 : Nat), ∃ (Q12 : Option Addr), ∃ (Q14 : Nat), ∃ (Q13 : Nat), ∃ (Q15 : Option Addr), ∃ (Q17 : Nat), ∃ (Q16 : Nat), ∃ (Q18 : Option Addr), ∃ (Q20 : Nat), ∃ (Q19 : Nat), ∃ (Q21 : Option Addr), ∃ (Q23 : Nat), ∃ (Q22 : Nat), Fr 20 [(16, .pointer (some ⟨b1, 5, none⟩)), (14, .agg #[.slice Q18 Q20 Q19, .slice Q21 Q23 Q22]), (11, .slice Q15 Q17 Q16), (8, .slice Q12 Q14 Q13), (2, .pointer (some ⟨b3, 0, none⟩)), (1, .pointer (some ⟨b1, 0, none⟩))] aZ ∧ Mv [bx b3 [.int .i64 0, .int .i64 0, .int .i64 0, .int .i64 0, .slice none 0 0, .slice none 0 0, .slice none 0 0, .slice none 0 0, .slice none 0 0, .int .i64 0] 35, bx b1 [.int .i64 x.id, .int .i64 x.age, .int .i64 x.proc, .int .i64 x.began, .slice Q9 Q11 Q10, .slice Q6 Q8 Q7, .slice x_Ra x_Rn x_Rc, .slice x_Wa x_Wn x_Wc, .slice Q3 Q5 Q4, .int .i64 x.state] 35] w8 [bx b1 [.int .i64 x.id, .int .i64 x.age, .int .i64 x.proc, .int .i64 x.began, .slice Q0 Q2 Q1, .slice Q6 Q8 Q7, .slice x_Ra x_Rn x_Rc, .slice x_Wa x_Wn x_Wc, .slice Q3 Q5 Q4, .int .i64 x.state] 35, ow 9 1 encS okS (.slice Q18 Q20 Q19) x.touch.reads, ow 9 1 encS okS (.slice Q21 Q23 Q22) x.touch.writes, ow 3 1 encI okI (.slice Q15 Q17 Q16) x.marks, ow 59 3 encR okR (.slice Q12 Q14 Q13) x.answers, ow 56 6 encK okK (.slice Q0 Q2 Q1) x.calls, bx b3 [.int .i64 0, .int .i64 0, .int .i64 0, .int .i64 0, .slice none 0 0, .slice none 0 0, .slice none 0 0, .slice none 0 0, .slice none 0 0, .int .i64 0] 35] wZ) #[yT, yT, yT, yT, yT, yT, yT, yT, yT, yT, yT, yT, yT, yT, yT, nF, nF, nF, nF, nF] 5 ?_ (fun G111 => ?_)
   · rintro a111 w111 ⟨Q0, Q2, Q1, Q12, Q14, Q13, Q15, Q17, Q16, Q18, Q20, Q19, Q21, Q23, Q22, F111, S111⟩
     obtain ⟨Q122, Q185, Q248⟩ := At.ownInv S111.at' ET_24.hk 1 rfl
     obtain ⟨Q123, Q186, Q249⟩ := At.ownInv S111.at' ET_24.hk 2 rfl
     obtain ⟨Q124, Q187, Q250⟩ := At.ownInv S111.at' ET_27.hk 3 rfl
     obtain ⟨Q125, Q188, Q251⟩ := At.ownInv S111.at' ET_32.hk 4 rfl
     obtain ⟨Q126, Q189, Q252⟩ := At.ownInv S111.at' ET_31.hk 5 rfl
     refine d_one (i := 15) (listed' := #[yT, yT, yT, yT, yT, yT, yT, yT, yT, yT, yT, yT, yT, yT, yT, yT, nF, nF, nF, nF]) rfl (by kernel_rfl) rfl rfl ?_
     refine s_store S111.at' 0 TI_32 rfl rfl rfl rfl rfl (F111.ev 16 rfl) (F111.ev 8 rfl) rfl rfl rfl rfl rfl fun w112 S112 => ?_
     refine ⟨Sd.of (S111.trans S112) [] rfl, ?_⟩
     refine g_take F111 rfl (i := 16) (listed' := #[yT, yT, yT, yT, yT, yT, yT, yT, yT, yT, yT, yT, yT, yT, yT, yT, yT, nF, nF, nF]) rfl (by kernel_rfl) (by kernel_rfl) (by kernel_rfl) (fun _ _ _ h => h) (Sd.of (S111.trans S112) [] rfl) rfl rfl rfl rfl (fun _ hz => (r_field FI_35_7 rfl (F111.ev 1 rfl) rfl)) fun _ F113 => ?_
     exact G108 _ _ ⟨Q0, Q2, Q1, Q12, Q14, Q13, Q15, Q17, Q16, Q18, Q20, Q19, Q21, Q23, Q22, F113.cut rfl, (S111.trans S112).pick [0, 1, 2, 3, 4, 5, 6] rfl⟩
   refine x_lem (fun aZ wZ => ∃ (Q0 : Option Addr), ∃ (Q2 : Nat), ∃ (Q1 : Nat), ∃ (Q12 : Option Addr), ∃ (Q14 : Nat), ∃ (Q13 : Nat), ∃ (Q15 : Option Addr), ∃ (Q17 : Nat), ∃ (Q16 : Nat), ∃ (Q18 : Option Addr), ∃ (Q20 : Nat), ∃ (Q19 : Nat), ∃ (Q21 : Option Addr), ∃ (Q23 : Nat), ∃ (Q22 : Nat), Fr 20 [(14, .agg #[.slice Q18 Q20 Q19, .slice Q21 Q23 Q22]), (15, .pointer (some ⟨b1, 4, none⟩)), (11, .slice Q15 Q17 Q16), (8, .slice Q12 Q14 Q13), (5, .slice Q0 Q2 Q1), (2, .pointer (some ⟨b3, 0, none⟩)), (1, .pointer (some ⟨b1, 0, none⟩))] aZ ∧ Mv [bx b3 [.int .i64 0, .int .i64 0, .int .i64 0, .int .i64 0, .slice none 0 0, .slice none 0 0, .slice none 0 0, .slice none 0 0, .slice none 0 0, .int .i64 0] 35, bx b1 [.int .i64 x.id, .int .i64 x.age, .int .i64 x.proc, .int .i64 x.began, .slice Q9 Q11 Q10, .slice Q6 Q8 Q7, .slice x_Ra x_Rn x_Rc, .slice x_Wa x_Wn x_Wc, .slice Q3 Q5 Q4, .int .i64 x.state] 35] w8 [ow 9 1 encS okS (.slice Q18 Q20 Q19) x.touch.reads, ow 9 1 encS okS (.slice Q21 Q23 Q22) x.touch.writes, ow 3 1 encI okI (.slice Q15 Q17 Q16) x.marks, ow 59 3 encR okR (.slice Q12 Q14 Q13) x.answers, ow 56 6 encK okK (.slice Q0 Q2 Q1) x.calls, bx b3 [.int .i64 0, .int .i64 0, .int .i64 0, .int .i64 0, .slice none 0 0, .slice none 0 0, .slice none 0 0, .slice none 0 0, .slice none 0 0, .int .i64 0] 35, bx b1 [.int .i64 x.id, .int .i64 x.age, .int .i64 x.proc, .int .i64 x.began, .slice Q9 Q11 Q10, .slice Q6 Q8 Q7, .slice x_Ra x_Rn x_Rc, .slice x_Wa x_Wn x_Wc, .slice Q3 Q5 Q4, .int .i64 x.state] 35] wZ) #[yT, yT, yT, yT, yT, yT, yT, yT, yT, yT, yT, yT, yT, nF, nF, nF, nF, nF, nF, nF] 7 ?_ (fun G114 => ?_)
   · rintro a114 w114 ⟨Q0, Q2, Q1, Q12, Q14, Q13, Q15, Q17, Q16, Q18, Q20, Q19, Q21, Q23, Q22, F114, S114⟩
     obtain ⟨Q127, Q190, Q253⟩ := At.ownInv S114.at' ET_24.hk 0 rfl
     obtain ⟨Q128, Q191, Q254⟩ := At.ownInv S114.at' ET_24.hk 1 rfl
     obtain ⟨Q129, Q192, Q255⟩ := At.ownInv S114.at' ET_27.hk 2 rfl
     obtain ⟨Q130, Q193, Q256⟩ := At.ownInv S114.at' ET_32.hk 3 rfl
     obtain ⟨Q131, Q194, Q257⟩ := At.ownInv S114.at' ET_31.hk 4 rfl
     refine d_one (i := 13) (listed' := #[yT, yT, yT, yT, yT, yT, yT, yT, yT, yT, yT, yT, yT, yT, nF, nF, nF, nF, nF, nF]) rfl (by kernel_rfl) rfl rfl ?_
     refine s_store S114.at' 6 TI_31 rfl rfl rfl rfl rfl (F114.ev 15 rfl) (F114.ev 5 rfl) rfl rfl rfl rfl rfl fun w115 S115 => ?_
     refine ⟨Sd.of (S114.trans S115) [] rfl, ?_⟩
     refine g_take F114 rfl (i := 14) (listed' := #[yT, yT, yT, yT, yT, yT, yT, yT, yT, yT, yT, yT, yT, yT, yT, nF, nF, nF, nF, nF]) rfl (by kernel_rfl) (by kernel_rfl) (by kernel_rfl) (fun _ _ _ h => h) (Sd.of (S114.trans S115) [] rfl) rfl rfl rfl rfl (fun _ hz => (r_field FI_35_5 rfl (F114.ev 1 rfl) rfl)) fun _ F116 => ?_
     exact G111 _ _ ⟨Q0, Q2, Q1, Q12, Q14, Q13, Q15, Q17, Q16, Q18, Q20, Q19, Q21, Q23, Q22, F116.cut rfl, (S114.trans S115).pick [0, 1, 2, 3, 4, 5, 6] rfl⟩
   refine x_lem (fun aZ wZ => ∃ (Q0 : Option Addr), ∃ (Q2 : Nat), ∃ (Q1 : Nat), ∃ (Q12 : Option Addr), ∃ (Q14 : Nat), ∃ (Q13 : Nat), ∃ (Q15 : Option Addr), ∃ (Q17 : Nat), ∃ (Q16 : Nat), Fr 20 [(15, .pointer (some ⟨b1, 4, none⟩)), (13, .agg #[.slice x_Ra x_Rn x_Rc, .slice x_Wa x_Wn x_Wc]), (11, .slice Q15 Q17 Q16), (8, .slice Q12 Q14 Q13), (5, .slice Q0 Q2 Q1), (2, .pointer (some ⟨b3, 0, none⟩)), (1, .pointer (some ⟨b1, 0, none⟩))] aZ ∧ Mv [bx b3 [.int .i64 0, .int .i64 0, .int .i64 0, .int .i64 0, .slice none 0 0, .slice none 0 0, .slice none 0 0, .slice none 0 0, .slice none 0 0, .int .i64 0] 35, bx b1 [.int .i64 x.id, .int .i64 x.age, .int .i64 x.proc, .int .i64 x.began, .slice Q9 Q11 Q10, .slice Q6 Q8 Q7, .slice x_Ra x_Rn x_Rc, .slice x_Wa x_Wn x_Wc, .slice Q3 Q5 Q4, .int .i64 x.state] 35] w8 [ow 3 1 encI okI (.slice Q15 Q17 Q16) x.marks, ow 59 3 encR okR (.slice Q12 Q14 Q13) x.answers, ow 56 6 encK okK (.slice Q0 Q2 Q1) x.calls, bx b3 [.int .i64 0, .int .i64 0, .int .i64 0, .int .i64 0, .slice none 0 0, .slice none 0 0, .slice none 0 0, .slice none 0 0, .slice none 0 0, .int .i64 0] 35, bx b1 [.int .i64 x.id, .int .i64 x.age, .int .i64 x.proc, .int .i64 x.began, .slice Q9 Q11 Q10, .slice Q6 Q8 Q7, .slice x_Ra x_Rn x_Rc, .slice x_Wa x_Wn x_Wc, .slice Q3 Q5 Q4, .int .i64 x.state] 35] wZ) #[yT, yT, yT, yT, yT, yT, yT, yT, yT, yT, yT, nF, yT, nF, nF, nF, nF, nF, nF, nF] 8 ?_ (fun G117 => ?_)
   · rintro a117 w117 ⟨Q0, Q2, Q1, Q12, Q14, Q13, Q15, Q17, Q16, F117, S117⟩
     obtain ⟨Q132, Q195, Q258⟩ := At.ownInv S117.at' ET_27.hk 0 rfl
     obtain ⟨Q133, Q196, Q259⟩ := At.ownInv S117.at' ET_32.hk 1 rfl
     obtain ⟨Q134, Q197, Q260⟩ := At.ownInv S117.at' ET_31.hk 2 rfl
     refine d_one (i := 11) (listed' := #[yT, yT, yT, yT, yT, yT, yT, yT, yT, yT, yT, yT, yT, nF, nF, nF, nF, nF, nF, nF]) rfl (by kernel_rfl) rfl rfl ?_
     refine f_call F117 CF_49 rfl rfl rfl rfl (lc (F117.ev 13 rfl) rfl) (impl_Touch_clone_c (t := x.touch) (Rd.mv (Nat.succ_pos _) Q95 (S1.trans (T6.trans (S8.trans S117)))) (Rd.mv (Nat.succ_pos _) Q96 (S1.trans (T6.trans (S8.trans S117)))) (by first | assumption | omega | (simp <;> omega)) (by first | assumption | omega | (simp <;> omega))) ?_
     rintro _ w118 ⟨Q28, Q32, Q30, Q34, Q38, Q36, rfl, m118⟩
     refine ⟨_, rfl, fun _ F119 => ?_⟩
     have S118 : Mv _ _ [ow 9 1 encS okS (.slice Q28 Q32 Q30) x.touch.reads, ow 9 1 encS okS (.slice Q34 Q38 Q36) x.touch.writes, ow 3 1 encI okI (.slice Q15 Q17 Q16) x.marks, ow 59 3 encR okR (.slice Q12 Q14 Q13) x.answers, ow 56 6 encK okK (.slice Q0 Q2 Q1) x.calls, bx b3 [.int .i64 0, .int .i64 0, .int .i64 0, .int .i64 0, .slice none 0 0, .slice none 0 0, .slice none 0 0, .slice none 0 0, .slice none 0 0, .int .i64 0] 35, bx b1 [.int .i64 x.id, .int .i64 x.age, .int .i64 x.proc, .int .i64 x.began, .slice Q9 Q11 Q10, .slice Q6 Q8 Q7, .slice x_Ra x_Rn x_Rc, .slice x_Wa x_Wn x_Wc, .slice Q3 Q5 Q4, .int .i64 x.state] 35] _ := At.frame S117.at' [] rfl m118
     obtain ⟨Q135, Q198, Q261⟩ := At.ownInv S118.at' ET_24.hk 0 rfl
     obtain ⟨Q136, Q199, Q262⟩ := At.ownInv S118.at' ET_24.hk 1 rfl
     clear m118
     refine ⟨Sd.of (S117.trans S118) [] rfl, ?_⟩
     exact G114 _ _ ⟨Q0, Q2, Q1, Q12, Q14, Q13, Q15, Q17, Q16, Q28, Q32, Q30, Q34, Q38, Q36, F119.cut rfl, (S117.trans S118).pick [0, 1, 2, 3, 4, 5, 6] rfl⟩
   refine x_lem (fun aZ wZ => ∃ (Q0 : Option Addr), ∃ (Q2 : Nat), ∃ (Q1 : Nat), ∃ (Q12 : Option Addr), ∃ (Q14 : Nat), ∃ (Q13 : Nat), Fr 20 [(15, .pointer (some ⟨b1, 4, none⟩)), (13, .agg #[.slice x_Ra x_Rn x_Rc, .slice x_Wa x_Wn x_Wc]), (10, .slice Q3 Q5 Q4), (8, .slice Q12 Q14 Q13), (5, .slice Q0 Q2 Q1), (2, .pointer (some ⟨b3, 0, none⟩)), (1, .pointer (some ⟨b1, 0, none⟩))] aZ ∧ Mv [bx b3 [.int .i64 0, .int .i64 0, .int .i64 0, .int .i64 0, .slice none 0 0, .slice none 0 0, .slice none 0 0, .slice none 0 0, .slice none 0 0, .int .i64 0] 35, bx b1 [.int .i64 x.id, .int .i64 x.age, .int .i64 x.proc, .int .i64 x.began, .slice Q9 Q11 Q10, .slice Q6 Q8 Q7, .slice x_Ra x_Rn x_Rc, .slice x_Wa x_Wn x_Wc, .slice Q3 Q5 Q4, .int .i64 x.state] 35] w8 [ow 59 3 encR okR (.slice Q12 Q14 Q13) x.answers, ow 56 6 encK okK (.slice Q0 Q2 Q1) x.calls, bx b3 [.int .i64 0, .int .i64 0, .int .i64 0, .int .i64 0, .slice none 0 0, .slice none 0 0, .slice none 0 0, .slice none 0 0, .slice none 0 0, .int .i64 0] 35, bx b1 [.int .i64 x.id, .int .i64 x.age, .int .i64 x.proc, .int .i64 x.began, .slice Q9 Q11 Q10, .slice Q6 Q8 Q7, .slice x_Ra x_Rn x_Rc, .slice x_Wa x_Wn x_Wc, .slice Q3 Q5 Q4, .int .i64 x.state] 35] wZ) #[yT, yT, yT, yT, yT, yT, yT, yT, nF, yT, yT, nF, yT, nF, nF, nF, nF, nF, nF, nF] 9 ?_ (fun G120 => ?_)
   · rintro a120 w120 ⟨Q0, Q2, Q1, Q12, Q14, Q13, F120, S120⟩
     obtain ⟨Q137, Q200, Q263⟩ := At.ownInv S120.at' ET_32.hk 0 rfl
     obtain ⟨Q138, Q201, Q264⟩ := At.ownInv S120.at' ET_31.hk 1 rfl
     refine d_one (i := 8) (listed' := #[yT, yT, yT, yT, yT, yT, yT, yT, yT, yT, yT, nF, yT, nF, nF, nF, nF, nF, nF, nF]) rfl (by kernel_rfl) rfl rfl ?_
     refine f_call F120 CF_48 rfl rfl rfl rfl (lc (F120.ev 10 rfl) rfl) (slices_Clone_Sint_int_c (s := x.marks) (Rd.mv (Nat.succ_pos _) Q26 (S1.trans (T6.trans (S8.trans S120)))) (by first | assumption | omega | (simp <;> omega))) ?_
     rintro _ w121 ⟨Q39, Q76, Q56, rfl, m121⟩
     refine ⟨_, rfl, fun _ F122 => ?_⟩
     have S121 : Mv _ _ [ow 3 1 encI okI (.slice Q39 Q76 Q56) x.marks, ow 59 3 encR okR (.slice Q12 Q14 Q13) x.answers, ow 56 6 encK okK (.slice Q0 Q2 Q1) x.calls, bx b3 [.int .i64 0, .int .i64 0, .int .i64 0, .int .i64 0, .slice none 0 0, .slice none 0 0, .slice none 0 0, .slice none 0 0, .slice none 0 0, .int .i64 0] 35, bx b1 [.int .i64 x.id, .int .i64 x.age, .int .i64 x.proc, .int .i64 x.began, .slice Q9 Q11 Q10, .slice Q6 Q8 Q7, .slice x_Ra x_Rn x_Rc, .slice x_Wa x_Wn x_Wc, .slice Q3 Q5 Q4, .int .i64 x.state] 35] _ := At.frame S120.at' [] rfl m121
     obtain ⟨Q139, Q202, Q265⟩ := At.ownInv S121.at' ET_27.hk 0 rfl
     clear m121
     refine ⟨Sd.of (S120.trans S121) [] rfl, ?_⟩
     exact G117 _ _ ⟨Q0, Q2, Q1, Q12, Q14, Q13, Q39, Q76, Q56, F122.cut rfl, (S120.trans S121).pick [0, 1, 2, 3, 4] rfl⟩
   refine x_lem (fun aZ wZ => ∃ (Q0 : Option Addr), ∃ (Q2 : Nat), ∃ (Q1 : Nat), ∃ (Q12 : Option Addr), ∃ (Q14 : Nat), ∃ (Q13 : Nat), ∃ (Q15 : Option Addr), ∃ (Q17 : Nat), ∃ (Q16 : Nat), Fr 20 [(11, .slice Q15 Q17 Q16), (8, .slice Q12 Q14 Q13), (5, .slice Q0 Q2 Q1), (12, .pointer (some ⟨b1, 6, none⟩)), (2, .pointer (some ⟨b3, 0, none⟩)), (1, .pointer (some ⟨b1, 0, none⟩))] aZ ∧ Mv [bx b3 [.int .i64 0, .int .i64 0, .int .i64 0, .int .i64 0, .slice none 0 0, .slice none 0 0, .slice none 0 0, .slice none 0 0, .slice none 0 0, .int .i64 0] 35, bx b1 [.int .i64 x.id, .int .i64 x.age, .int .i64 x.proc, .int .i64 x.began, .slice Q9 Q11 Q10, .slice Q6 Q8 Q7, .slice x_Ra x_Rn x_Rc, .slice x_Wa x_Wn x_Wc, .slice Q3 Q5 Q4, .int .i64 x.state] 35] w8 [ow 3 1 encI okI (.slice Q15 Q17 Q16) x.marks, ow 59 3 encR okR (.slice Q12 Q14 Q13) x.answers, ow 56 6 encK okK (.slice Q0 Q2 Q1) x.calls, bx b3 [.int .i64 0, .int .i64 0, .int .i64 0, .int .i64 0, .slice none 0 0, .slice none 0 0, .slice none 0 0, .slice none 0 0, .slice none 0 0, .int .i64 0] 35, bx b1 [.int .i64 x.id, .int .i64 x.age, .int .i64 x.proc, .int .i64 x.began, .slice Q9 Q11 Q10, .slice Q6 Q8 Q7, .slice x_Ra x_Rn x_Rc, .slice x_Wa x_Wn x_Wc, .slice Q3 Q5 Q4, .int .i64 x.state] 35] wZ) #[yT, yT, yT, yT, yT, yT, yT, yT, yT, yT, nF, nF, nF, nF, nF, nF, nF, nF, nF, nF] 10 ?_ (fun G123 => ?_)
   · rintro a123 w123 ⟨Q0, Q2, Q1, Q12, Q14, Q13, Q15, Q17, Q16, F123, S123⟩
     obtain ⟨Q140, Q203, Q266⟩ := At.ownInv S123.at' ET_27.hk 0 rfl
     obtain ⟨Q141, Q204, Q267⟩ := At.ownInv S123.at' ET_32.hk 1 rfl
     obtain ⟨Q142, Q205, Q268⟩ := At.ownInv S123.at' ET_31.hk 2 rfl
     refine d_one (i := 10) (listed' := #[yT, yT, yT, yT, yT, yT, yT, yT, yT, yT, yT, nF, nF, nF, nF, nF, nF, nF, nF, nF]) rfl (by kernel_rfl) rfl rfl ?_
     refine f_val (v := .agg #[.slice x_Ra x_Rn x_Rc, .slice x_Wa x_Wn x_Wc]) F123 rfl rfl (r_loadB S123.at' 4 TI_33 rfl rfl (F123.ev 12 rfl) rfl rfl (fun h => nomatch h) rfl) rfl fun _ F124 => ?_
     refine ⟨Sd.of S123 [] rfl, ?_⟩
     refine g_take F124 rfl (i := 12) (listed' := #[yT, yT, yT, yT, yT, yT, yT, yT, yT, yT, yT, nF, yT, nF, nF, nF, nF, nF, nF, nF]) rfl (by kernel_rfl) (by kernel_rfl) (by kernel_rfl) (fun _ _ _ h => h) (Sd.of S123 [] rfl) rfl rfl rfl rfl (fun _ hz => (r_field FI_35_4 rfl (F124.ev 1 rfl) rfl)) fun _ F125 => ?_
     exact G117 _ _ ⟨Q0, Q2, Q1, Q12, Q14, Q13, Q15, Q17, Q16, F125.cut rfl, S123.pick [0, 1, 2, 3, 4] rfl⟩
   refine x_lem (fun aZ wZ => ∃ (Q0 : Option Addr), ∃ (Q2 : Nat), ∃ (Q1 : Nat), Fr 20 [(15, .pointer (some ⟨b1, 4, none⟩)), (13, .agg #[.slice x_Ra x_Rn x_Rc, .slice x_Wa x_Wn x_Wc]), (10, .slice Q3 Q5 Q4), (7, .slice Q6 Q8 Q7), (5, .slice Q0 Q2 Q1), (2, .pointer (some ⟨b3, 0, none⟩)), (1, .pointer (some ⟨b1, 0, none⟩))] aZ ∧ Mv [bx b3 [.int .i64 0, .int .i64 0, .int .i64 0, .int .i64 0, .slice none 0 0, .slice none 0 0, .slice none 0 0, .slice none 0 0, .slice none 0 0, .int .i64 0] 35, bx b1 [.int .i64 x.id, .int .i64 x.age, .int .i64 x.proc, .int .i64 x.began, .slice Q9 Q11 Q10, .slice Q6 Q8 Q7, .slice x_Ra x_Rn x_Rc, .slice x_Wa x_Wn x_Wc, .slice Q3 Q5 Q4, .int .i64 x.state] 35] w8 [ow 56 6 encK okK (.slice Q0 Q2 Q1) x.calls, bx b3 [.int .i64 0, .int .i64 0, .int .i64 0, .int .i64 0, .slice none 0 0, .slice none 0 0, .slice none 0 0, .slice none 0 0, .slice none 0 0, .int .i64 0] 35, bx b1 [.int .i64 x.id, .int .i64 x.age, .int .i64 x.proc, .int .i64 x.began, .slice Q9 Q11 Q10, .slice Q6 Q8 Q7, .slice x_Ra x_Rn x_Rc, .slice x_Wa x_Wn x_Wc, .slice Q3 Q5 Q4, .int .i64 x.state] 35] wZ) #[yT, yT, yT, yT, yT, nF, yT, yT, nF, yT, yT, nF, yT, nF, nF, nF, nF, nF, nF, nF] 10 ?_ (fun G126 => ?_)
   · rintro a126 w126 ⟨Q0, Q2, Q1, F126, S126⟩
     obtain ⟨Q143, Q206, Q269⟩ := At.ownInv S126.at' ET_31.hk 0 rfl
     refine d_one (i := 5) (listed' := #[yT, yT, yT, yT, yT, yT, yT, yT, nF, yT, yT, nF, yT, nF, nF, nF, nF, nF, nF, nF]) rfl (by kernel_rfl) rfl rfl ?_
     refine f_call F126 CF_47 rfl rfl rfl rfl (lc (F126.ev 7 rfl) rfl) (slices_Clone_Simpl_Answer_impl_Answer_c (s := x.answers) (Rd.mv (Nat.succ_pos _) Q25 (S1.trans (T6.trans (S8.trans S126)))) (by first | assumption | omega | (simp <;> omega))) ?_
     rintro _ w127 ⟨Q40, Q77, Q57, rfl, m127⟩
     refine ⟨_, rfl, fun _ F128 => ?_⟩
     have S127 : Mv _ _ [ow 59 3 encR okR (.slice Q40 Q77 Q57) x.answers, ow 56 6 encK okK (.slice Q0 Q2 Q1) x.calls, bx b3 [.int .i64 0, .int .i64 0, .int .i64 0, .int .i64 0, .slice none 0 0, .slice none 0 0, .slice none 0 0, .slice none 0 0, .slice none 0 0, .int .i64 0] 35, bx b1 [.int .i64 x.id, .int .i64 x.age, .int .i64 x.proc, .int .i64 x.began, .slice Q9 Q11 Q10, .slice Q6 Q8 Q7, .slice x_Ra x_Rn x_Rc, .slice x_Wa x_Wn x_Wc, .slice Q3 Q5 Q4, .int .i64 x.state] 35] _ := At.frame S126.at' [] rfl m127
     obtain ⟨Q144, Q207, Q270⟩ := At.ownInv S127.at' ET_32.hk 0 rfl
     clear m127
     refine ⟨Sd.of (S126.trans S127) [] rfl, ?_⟩
     exact G120 _ _ ⟨Q0, Q2, Q1, Q40, Q77, Q57, F128.cut rfl, (S126.trans S127).pick [0, 1, 2, 3] rfl⟩
   refine x_lem (fun aZ wZ => ∃ (Q0 : Option Addr), ∃ (Q2 : Nat), ∃ (Q1 : Nat), ∃ (Q12 : Option Addr), ∃ (Q14 : Nat), ∃ (Q13 : Nat), Fr 20 [(10, .slice Q3 Q5 Q4), (8, .slice Q12 Q14 Q13), (5, .slice Q0 Q2 Q1), (12, .pointer (some ⟨b1, 6, none⟩)), (2, .pointer (some ⟨b3, 0, none⟩)), (1, .pointer (some ⟨b1, 0, none⟩))] aZ ∧ Mv [bx b3 [.int .i64 0, .int .i64 0, .int .i64 0, .int .i64 0, .slice none 0 0, .slice none 0 0, .slice none 0 0, .slice none 0 0, .slice none 0 0, .int .i64 0] 35, bx b1 [.int .i64 x.id, .int .i64 x.age, .int .i64 x.proc, .int .i64 x.began, .slice Q9 Q11 Q10, .slice Q6 Q8 Q7, .slice x_Ra x_Rn x_Rc, .slice x_Wa x_Wn x_Wc, .slice Q3 Q5 Q4, .int .i64 x.state] 35] w8 [ow 59 3 encR okR (.slice Q12 Q14 Q13) x.answers, ow 56 6 encK okK (.slice Q0 Q2 Q1) x.calls, bx b3 [.int .i64 0, .int .i64 0, .int .i64 0, .int .i64 0, .slice none 0 0, .slice none 0 0, .slice none 0 0, .slice none 0 0, .slice none 0 0, .int .i64 0] 35, bx b1 [.int .i64 x.id, .int .i64 x.age, .int .i64 x.proc, .int .i64 x.began, .slice Q9 Q11 Q10, .slice Q6 Q8 Q7, .slice x_Ra x_Rn x_Rc, .slice x_Wa x_Wn x_Wc, .slice Q3 Q5 Q4, .int .i64 x.state] 35] wZ) #[yT, yT, yT, yT, yT, yT, yT, yT, nF, yT, nF, nF, nF, nF, nF, nF, nF, nF, nF, nF] 11 ?_ (fun G129 => ?_)
   · rintro a129 w129 ⟨Q0, Q2, Q1, Q12, Q14, Q13, F129, S129⟩
     obtain ⟨Q145, Q208, Q271⟩ := At.ownInv S129.at' ET_32.hk 0 rfl
     obtain ⟨Q146, Q209, Q272⟩ := At.ownInv S129.at' ET_31.hk 1 rfl
     refine d_all (rs := [8, 10]) rfl (by kernel_rfl) (by simp) (d_cons (i := 8) (listed' := #[yT, yT, yT, yT, yT, yT, yT, yT, yT, yT, nF, nF, nF, nF, nF, nF, nF, nF, nF, nF]) rfl rfl ?_ (d_cons (i := 10) (listed' := #[yT, yT, yT, yT, yT, yT, yT, yT, nF, yT, yT, nF, nF, nF, nF, nF, nF, nF, nF, nF]) rfl rfl ?_ d_nil))
     · skip
       refine f_call F129 CF_48 rfl rfl rfl rfl (lc (F129.ev 10 rfl) rfl) (slices_Clone_Sint_int_c (s := x.marks) (Rd.mv (Nat.succ_pos _) Q26 (S1.trans (T6.trans (S8.trans S129)))) (by first | assumption | omega | (simp <;> omega))) ?_
       rintro _ w130 ⟨Q41, Q78, Q58, rfl, m130⟩
       refine ⟨_, rfl, fun _ F131 => ?_⟩
       have S130 : Mv _ _ [ow 3 1 encI okI (.slice Q41 Q78 Q58) x.marks, ow 59 3 encR okR (.slice Q12 Q14 Q13) x.answers, ow 56 6 encK okK (.slice Q0 Q2 Q1) x.calls, bx b3 [.int .i64 0, .int .i64 0, .int .i64 0, .int .i64 0, .slice none 0 0, .slice none 0 0, .slice none 0 0, .slice none 0 0, .slice none 0 0, .int .i64 0] 35, bx b1 [.int .i64 x.id, .int .i64 x.age, .int .i64 x.proc, .int .i64 x.began, .slice Q9 Q11 Q10, .slice Q6 Q8 Q7, .slice x_Ra x_Rn x_Rc, .slice x_Wa x_Wn x_Wc, .slice Q3 Q5 Q4, .int .i64 x.state] 35] _ := At.frame S129.at' [] rfl m130
       obtain ⟨Q147, Q210, Q273⟩ := At.ownInv S130.at' ET_27.hk 0 rfl
       clear m130
       refine ⟨Sd.of (S129.trans S130) [] rfl, ?_⟩
       exact G123 _ _ ⟨Q0, Q2, Q1, Q12, Q14, Q13, Q41, Q78, Q58, F131.cut rfl, (S129.trans S130).pick [0, 1, 2, 3, 4] rfl⟩
     · skip
       refine f_val (v := .agg #[.slice x_Ra x_Rn x_Rc, .slice x_Wa x_Wn x_Wc]) F129 rfl rfl (r_loadB S129.at' 3 TI_33 rfl rfl (F129.ev 12 rfl) rfl rfl (fun h => nomatch h) rfl) rfl fun _ F132 => ?_
       refine ⟨Sd.of S129 [] rfl, ?_⟩
       refine g_take F132 rfl (i := 12) (listed' := #[yT, yT, yT, yT, yT, yT, yT, yT, nF, yT, yT, nF, yT, nF, nF, nF, nF, nF, nF, nF]) rfl (by kernel_rfl) (by kernel_rfl) (by kernel_rfl) (fun _ _ _ h => h) (Sd.of S129 [] rfl) rfl rfl rfl rfl (fun _ hz => (r_field FI_35_4 rfl (F132.ev 1 rfl) rfl)) fun _ F133 => ?_
       exact G120 _ _ ⟨Q0, Q2, Q1, Q12, Q14, Q13, F133.cut rfl, S129.pick [0, 1, 2, 3] rfl⟩
   refine x_lem (fun aZ wZ => ∃ (Q0 : Option Addr), ∃ (Q2 : Nat), ∃ (Q1 : Nat), ∃ (Q12 : Option Addr), ∃ (Q14 : Nat), ∃ (Q13 : Nat), Fr 20 [(13, .agg #[.slice x_Ra x_Rn x_Rc, .slice x_Wa x_Wn x_Wc]), (8, .slice Q12 Q14 Q13), (5, .slice Q0 Q2 Q1), (9, .pointer (some ⟨b1, 8, none⟩)), (2, .pointer (some ⟨b3, 0, none⟩)), (1, .pointer (some ⟨b1, 0, none⟩))] aZ ∧ Mv [bx b3 [.int .i64 0, .int .i64 0, .int .i64 0, .int .i64 0, .slice none 0 0, .slice none 0 0, .slice none 0 0, .slice none 0 0, .slice none 0 0, .int .i64 0] 35, bx b1 [.int .i64 x.id, .int .i64 x.age, .int .i64 x.proc, .int .i64 x.began, .slice Q9 Q11 Q10, .slice Q6 Q8 Q7, .slice x_Ra x_Rn x_Rc, .slice x_Wa x_Wn x_Wc, .slice Q3 Q5 Q4, .int .i64 x.state] 35] w8 [ow 59 3 encR okR (.slice Q12 Q14 Q13) x.answers, ow 56 6 encK okK (.slice Q0 Q2 Q1) x.calls, bx b3 [.int .i64 0, .int .i64 0, .int .i64 0, .int .i64 0, .slice none 0 0, .slice none 0 0, .slice none 0 0, .slice none 0 0, .slice none 0 0, .int .i64 0] 35, bx b1 [.int .i64 x.id, .int .i64 x.age, .int .i64 x.proc, .int .i64 x.began, .slice Q9 Q11 Q10, .slice Q6 Q8 Q7, .slice x_Ra x_Rn x_Rc, .slice x_Wa x_Wn x_Wc, .slice Q3 Q5 Q4, .int .i64 x.state] 35] wZ) #[yT, yT, yT, yT, yT, yT, yT, nF, nF, yT, yT, nF, nF, nF, nF, nF, nF, nF, nF, nF] 11 ?_ (fun G134 => ?_)
   · rintro a134 w134 ⟨Q0, Q2, Q1, Q12, Q14, Q13, F134, S134⟩
     obtain ⟨Q148, Q211, Q274⟩ := At.ownInv S134.at' ET_32.hk 0 rfl
     obtain ⟨Q149, Q212, Q275⟩ := At.ownInv S134.at' ET_31.hk 1 rfl
     refine d_one (i := 7) (listed' := #[yT, yT, yT, yT, yT, yT, yT, yT, nF, yT, yT, nF, nF, nF, nF, nF, nF, nF, nF, nF]) rfl (by kernel_rfl) rfl rfl ?_
     refine f_val (v := .slice Q3 Q5 Q4) F134 rfl rfl (r_loadB S134.at' 3 TI_27 rfl rfl (F134.ev 9 rfl) rfl rfl (fun _ => rfl) rfl) rfl fun _ F135 => ?_
     refine ⟨Sd.of S134 [] rfl, ?_⟩
     refine g_take F135 rfl (i := 12) (listed' := #[yT, yT, yT, yT, yT, yT, yT, yT, nF, yT, yT, nF, yT, nF, nF, nF, nF, nF, nF, nF]) rfl (by kernel_rfl) (by kernel_rfl) (by kernel_rfl) (fun _ _ _ h => h) (Sd.of S134 [] rfl) rfl rfl rfl rfl (fun _ hz => (r_field FI_35_4 rfl (F135.ev 1 rfl) rfl)) fun _ F136 => ?_
     exact G120 _ _ ⟨Q0, Q2, Q1, Q12, Q14, Q13, F136.cut rfl, S134.pick [0, 1, 2, 3] rfl⟩
   refine x_lem (fun aZ wZ => ∃ (Q0 : Option Addr), ∃ (Q2 : Nat), ∃ (Q1 : Nat), ∃ (Q12 : Option Addr), ∃ (Q14 : Nat), ∃ (Q13 : Nat), Fr 20 [(8, .slice Q12 Q14 Q13), (5, .slice Q0 Q2 Q1), (12, .pointer (some ⟨b1, 6, none⟩)), (9, .pointer (some ⟨b1, 8, none⟩)), (2, .pointer (some ⟨b3, 0, none⟩)), (1, .pointer (some ⟨b1, 0, none⟩))] aZ ∧ Mv [bx b3 [.int .i64 0, .int .i64 0, .int .i64 0, .int .i64 0, .slice none 0 0, .slice none 0 0, .slice none 0 0, .slice none 0 0, .slice none 0 0, .int .i64 0] 35, bx b1 [.int .i64 x.id, .int .i64 x.age, .int .i64 x.proc, .int .i64 x.began, .slice Q9 Q11 Q10, .slice Q6 Q8 Q7, .slice x_Ra x_Rn x_Rc, .slice x_Wa x_Wn x_Wc, .slice Q3 Q5 Q4, .int .i64 x.state] 35] w8 [ow 59 3 encR okR (.slice Q12 Q14 Q13) x.answers, ow 56 6 encK okK (.slice Q0 Q2 Q1) x.calls, bx b3 [.int .i64 0, .int .i64 0, .int .i64 0, .int .i64 0, .slice none 0 0, .slice none 0 0, .slice none 0 0, .slice none 0 0, .slice none 0 0, .int .i64 0] 35, bx b1 [.int .i64 x.id, .int .i64 x.age, .int .i64 x.proc, .int .i64 x.began, .slice Q9 Q11 Q10, .slice Q6 Q8 Q7, .slice x_Ra x_Rn x_Rc, .slice x_Wa x_Wn x_Wc, .slice Q3 Q5 Q4, .int .i64 x.state] 35] wZ) #[yT, yT, yT, yT, yT, yT, yT, nF, nF, yT, nF, nF, nF, nF, nF, nF, nF, nF, nF, nF] 12 ?_ (fun G137 => ?_)
   · rintro a137 w137 ⟨Q0, Q2, Q1, Q12, Q14, Q13, F137, S137⟩
     obtain ⟨Q150, Q213, Q276⟩ := At.ownInv S137.at' ET_32.hk 0 rfl
     obtain ⟨Q151, Q214, Q277⟩ := At.ownInv S137.at' ET_31.hk 1 rfl
     refine d_all (rs := [7, 10]) rfl (by kernel_rfl) (by simp) (d_cons (i := 7) (listed' := #[yT, yT, yT, yT, yT, yT, yT, yT, nF, yT, nF, nF, nF, nF, nF, nF, nF, nF, nF, nF]) rfl rfl ?_ (d_cons (i := 10) (listed' := #[yT, yT, yT, yT, yT, yT, yT, nF, nF, yT, yT, nF, nF, nF, nF, nF, nF, nF, nF, nF]) rfl rfl ?_ d_nil))
     · skip
       refine f_val (v := .slice Q3 Q5 Q4) F137 rfl rfl (r_loadB S137.at' 3 TI_27 rfl rfl (F137.ev 9 rfl) rfl rfl (fun _ => rfl) rfl) rfl fun _ F138 => ?_
       refine ⟨Sd.of S137 [] rfl, ?_⟩
       exact G129 _ _ ⟨Q0, Q2, Q1, Q12, Q14, Q13, F138.cut rfl, S137.pick [0, 1, 2, 3] rfl⟩
     · skip
       refine f_val (v := .agg #[.slice x_Ra x_Rn x_Rc, .slice x_Wa x_Wn x_Wc]) F137 rfl rfl (r_loadB S137.at' 3 TI_33 rfl rfl (F137.ev 12 rfl) rfl rfl (fun h => nomatch h) rfl) rfl fun _ F139 => ?_
       refine ⟨Sd.of S137 [] rfl, ?_⟩
       exact G134 _ _ ⟨Q0, Q2, Q1, Q12, Q14, Q13, F139.cut rfl, S137.pick [0, 1, 2, 3] rfl⟩
   refine x_lem (fun aZ wZ => ∃ (Q0 : Option Addr), ∃ (Q2 : Nat), ∃ (Q1 : Nat), Fr 20 [(10, .slice Q3 Q5 Q4), (7, .slice Q6 Q8 Q7), (5, .slice Q0 Q2 Q1), (12, .pointer (some ⟨b1, 6, none⟩)), (2, .pointer (some ⟨b3, 0, none⟩)), (1, .pointer (some ⟨b1, 0, none⟩))] aZ ∧ Mv [bx b3 [.int .i64 0, .int .i64 0, .int .i64 0, .int .i64 0, .slice none 0 0, .slice none 0 0, .slice none 0 0, .slice none 0 0, .slice none 0 0, .int .i64 0] 35, bx b1 [.int .i64 x.id, .int .i64 x.age, .int .i64 x.proc, .int .i64 x.began, .slice Q9 Q11 Q10, .slice Q6 Q8 Q7, .slice x_Ra x_Rn x_Rc, .slice x_Wa x_Wn x_Wc, .slice Q3 Q5 Q4, .int .i64 x.state] 35] w8 [ow 56 6 encK okK (.slice Q0 Q2 Q1) x.calls, bx b3 [.int .i64 0, .int .i64 0, .int .i64 0, .int .i64 0, .slice none 0 0, .slice none 0 0, .slice none 0 0, .slice none 0 0, .slice none 0 0, .int .i64 0] 35, bx b1 [.int .i64 x.id, .int .i64 x.age, .int .i64 x.proc, .int .i64 x.began, .slice Q9 Q11 Q10, .slice Q6 Q8 Q7, .slice x_Ra x_Rn x_Rc, .slice x_Wa x_Wn x_Wc, .slice Q3 Q5 Q4, .int .i64 x.state] 35] wZ) #[yT, yT, yT, yT, yT, nF, yT, yT, nF, yT, nF, nF, nF, nF, nF, nF, nF, nF, nF, nF] 12 ?_ (fun G140 => ?_)
   · rintro a140 w140 ⟨Q0, Q2, Q1, F140, S140⟩
     obtain ⟨Q152, Q215, Q278⟩ := At.ownInv S140.at' ET_31.hk 0 rfl
     refine d_all (rs := [5, 10]) rfl (by kernel_rfl) (by simp) (d_cons (i := 5) (listed' := #[yT, yT, yT, yT, yT, yT, yT, yT, nF, yT, nF, nF, nF, nF, nF, nF, nF, nF, nF, nF]) rfl rfl ?_ (d_cons (i := 10) (listed' := #[yT, yT, yT, yT, yT, nF, yT, yT, nF, yT, yT, nF, nF, nF, nF, nF, nF, nF, nF, nF]) rfl rfl ?_ d_nil))
     · skip
       refine f_call F140 CF_47 rfl rfl rfl rfl (lc (F140.ev 7 rfl) rfl) (slices_Clone_Simpl_Answer_impl_Answer_c (s := x.answers) (Rd.mv (Nat.succ_pos _) Q25 (S1.trans (T6.trans (S8.trans S140)))) (by first | assumption | omega | (simp <;> omega))) ?_
       rintro _ w141 ⟨Q42, Q79, Q59, rfl, m141⟩
       refine ⟨_, rfl, fun _ F142 => ?_⟩
       have S141 : Mv _ _ [ow 59 3 encR okR (.slice Q42 Q79 Q59) x.answers, ow 56 6 encK okK (.slice Q0 Q2 Q1) x.calls, bx b3 [.int .i64 0, .int .i64 0, .int .i64 0, .int .i64 0, .slice none 0 0, .slice none 0 0, .slice none 0 0, .slice none 0 0, .slice none 0 0, .int .i64 0] 35, bx b1 [.int .i64 x.id, .int .i64 x.age, .int .i64 x.proc, .int .i64 x.began, .slice Q9 Q11 Q10, .slice Q6 Q8 Q7, .slice x_Ra x_Rn x_Rc, .slice x_Wa x_Wn x_Wc, .slice Q3 Q5 Q4, .int .i64 x.state] 35] _ := At.frame S140.at' [] rfl m141
       obtain ⟨Q153, Q216, Q279⟩ := At.ownInv S141.at' ET_32.hk 0 rfl
       clear m141
       refine ⟨Sd.of (S140.trans S141) [] rfl, ?_⟩
       exact G129 _ _ ⟨Q0, Q2, Q1, Q42, Q79, Q59, F142.cut rfl, (S140.trans S141).pick [0, 1, 2, 3] rfl⟩
     · skip
       refine f_val (v := .agg #[.slice x_Ra x_Rn x_Rc, .slice x_Wa x_Wn x_Wc]) F140 rfl rfl (r_loadB S140.at' 2 TI_33 rfl rfl (F140.ev 12 rfl) rfl rfl (fun h => nomatch h) rfl) rfl fun _ F143 => ?_
       refine ⟨Sd.of S140 [] rfl, ?_⟩
       refine g_take F143 rfl (i := 12) (listed' := #[yT, yT, yT, yT, yT, nF, yT, yT, nF, yT, yT, nF, yT, nF, nF, nF, nF, nF, nF, nF]) rfl (by kernel_rfl) (by kernel_rfl) (by kernel_rfl) (fun _ _ _ h => h) (Sd.of S140 [] rfl) rfl rfl rfl rfl (fun _ hz => (r_field FI_35_4 rfl (F143.ev 1 rfl) rfl)) fun _ F144 => ?_
       exact G126 _ _ ⟨Q0, Q2, Q1, F144.cut rfl, S140.pick [0, 1, 2] rfl⟩
   refine x_lem (fun aZ wZ => ∃ (Q0 : Option Addr), ∃ (Q2 : Nat), ∃ (Q1 : Nat), Fr 20 [(13, .agg #[.slice x_Ra x_Rn x_Rc, .slice x_Wa x_Wn x_Wc]), (7, .slice Q6 Q8 Q7), (5, .slice Q0 Q2 Q1), (9, .pointer (some ⟨b1, 8, none⟩)), (2, .pointer (some ⟨b3, 0, none⟩)), (1, .pointer (some ⟨b1, 0, none⟩))] aZ ∧ Mv [bx b3 [.int .i64 0, .int .i64 0, .int .i64 0, .int .i64 0, .slice none 0 0, .slice none 0 0, .slice none 0 0, .slice none 0 0, .slice none 0 0, .int .i64 0] 35, bx b1 [.int .i64 x.id, .int .i64 x.age, .int .i64 x.proc, .int .i64 x.began, .slice Q9 Q11 Q10, .slice Q6 Q8 Q7, .slice x_Ra x_Rn x_Rc, .slice x_Wa x_Wn x_Wc, .slice Q3 Q5 Q4, .int .i64 x.state] 35] w8 [ow 56 6 encK okK (.slice Q0 Q2 Q1) x.calls, bx b3 [.int .i64 0, .int .i64 0, .int .i64 0, .int .i64 0, .slice none 0 0, .slice none 0 0, .slice none 0 0, .slice none 0 0, .slice none 0 0, .int .i64 0] 35, bx b1 [.int .i64 x.id, .int .i64 x.age, .int .i64 x.proc, .int .i64 x.began, .slice Q9 Q11 Q10, .slice Q6 Q8 Q7, .slice x_Ra x_Rn x_Rc, .slice x_Wa x_Wn x_Wc, .slice Q3 Q5 Q4, .int .i64 x.state] 35] wZ) #[yT, yT, yT, yT, yT, nF, yT, nF, nF, yT, yT, nF, nF, nF, nF, nF, nF, nF, nF, nF] 12 ?_ (fun G145 => ?_)
   · rintro a145 w145 ⟨Q0, Q2, Q1, F145, S145⟩
     obtain ⟨Q154, Q217, Q280⟩ := At.ownInv S145.at' ET_31.hk 0 rfl
     refine d_all (rs := [5, 7]) rfl (by kernel_rfl) (by simp) (d_cons (i := 5) (listed' := #[yT, yT, yT, yT, yT, yT, yT, nF, nF, yT, yT, nF, nF, nF, nF, nF, nF, nF, nF, nF]) rfl rfl ?_ (d_cons (i := 7) (listed' := #[yT, yT, yT, yT, yT, nF, yT, yT, nF, yT, yT, nF, nF, nF, nF, nF, nF, nF, nF, nF]) rfl rfl ?_ d_nil))
     · skip
       refine f_call F145 CF_47 rfl rfl rfl rfl (lc (F145.ev 7 rfl) rfl) (slices_Clone_Simpl_Answer_impl_Answer_c (s := x.answers) (Rd.mv (Nat.succ_pos _) Q25 (S1.trans (T6.trans (S8.trans S145)))) (by first | assumption | omega | (simp <;> omega))) ?_
       rintro _ w146 ⟨Q43, Q80, Q60, rfl, m146⟩
       refine ⟨_, rfl, fun _ F147 => ?_⟩
       have S146 : Mv _ _ [ow 59 3 encR okR (.slice Q43 Q80 Q60) x.answers, ow 56 6 encK okK (.slice Q0 Q2 Q1) x.calls, bx b3 [.int .i64 0, .int .i64 0, .int .i64 0, .int .i64 0, .slice none 0 0, .slice none 0 0, .slice none 0 0, .slice none 0 0, .slice none 0 0, .int .i64 0] 35, bx b1 [.int .i64 x.id, .int .i64 x.age, .int .i64 x.proc, .int .i64 x.began, .slice Q9 Q11 Q10, .slice Q6 Q8 Q7, .slice x_Ra x_Rn x_Rc, .slice x_Wa x_Wn x_Wc, .slice Q3 Q5 Q4, .int .i64 x.state] 35] _ := At.frame S145.at' [] rfl m146
       obtain ⟨Q155, Q218, Q281⟩ := At.ownInv S146.at' ET_32.hk 0 rfl
       clear m146
       refine ⟨Sd.of (S145.trans S146) [] rfl, ?_⟩
       exact G134 _ _ ⟨Q0, Q2, Q1, Q43, Q80, Q60, F147.cut rfl, (S145.trans S146).pick [0, 1, 2, 3] rfl⟩
     · skip
       refine f_val (v := .slice Q3 Q5 Q4) F145 rfl rfl (r_loadB S145.at' 2 TI_27 rfl rfl (F145.ev 9 rfl) rfl rfl (fun _ => rfl) rfl) rfl fun _ F148 => ?_
       refine ⟨Sd.of S145 [] rfl, ?_⟩
       refine g_take F148 rfl (i := 12) (listed' := #[yT, yT, yT, yT, yT, nF, yT, yT, nF, yT, yT, nF, yT, nF, nF, nF, nF, nF, nF, nF]) rfl (by kernel_rfl) (by kernel_rfl) (by kernel_rfl) (fun _ _ _ h => h) (Sd.of S145 [] rfl) rfl rfl rfl rfl (fun _ hz => (r_field FI_35_4 rfl (F148.ev 1 rfl) rfl)) fun _ F149 => ?_
       exact G126 _ _ ⟨Q0, Q2, Q1, F149.cut rfl, S145.pick [0, 1, 2] rfl⟩
   refine x_lem (fun aZ wZ => ∃ (Q0 : Option Addr), ∃ (Q2 : Nat), ∃ (Q1 : Nat), Fr 20 [(13, .agg #[.slice x_Ra x_Rn x_Rc, .slice x_Wa x_Wn x_Wc]), (10, .slice Q3 Q5 Q4), (5, .slice Q0 Q2 Q1), (6, .pointer (some ⟨b1, 5, none⟩)), (2, .pointer (some ⟨b3, 0, none⟩)), (1, .pointer (some ⟨b1, 0, none⟩))] aZ ∧ Mv [bx b3 [.int .i64 0, .int .i64 0, .int .i64 0, .int .i64 0, .slice none 0 0, .slice none 0 0, .slice none 0 0, .slice none 0 0, .slice none 0 0, .int .i64 0] 35, bx b1 [.int .i64 x.id, .int .i64 x.age, .int .i64 x.proc, .int .i64 x.began, .slice Q9 Q11 Q10, .slice Q6 Q8 Q7, .slice x_Ra x_Rn x_Rc, .slice x_Wa x_Wn x_Wc, .slice Q3 Q5 Q4, .int .i64 x.state] 35] w8 [ow 56 6 encK okK (.slice Q0 Q2 Q1) x.calls, bx b3 [.int .i64 0, .int .i64 0, .int .i64 0, .int .i64 0, .slice none 0 0, .slice none 0 0, .slice none 0 0, .slice none 0 0, .slice none 0 0, .int .i64 0] 35, bx b1 [.int .i64 x.id, .int .i64 x.age, .int .i64 x.proc, .int .i64 x.began, .slice Q9 Q11 Q10, .slice Q6 Q8 Q7, .slice x_Ra x_Rn x_Rc, .slice x_Wa x_Wn x_Wc, .slice Q3 Q5 Q4, .int .i64 x.state] 35] wZ) #[yT, yT, yT, yT, nF, nF, yT, yT, nF, yT, yT, nF, nF, nF, nF, nF, nF, nF, nF, nF] 12 ?_ (fun G150 => ?_)
   · rintro a150 w150 ⟨Q0, Q2, Q1, F150, S150⟩
     obtain ⟨Q156, Q219, Q282⟩ := At.ownInv S150.at' ET_31.hk 0 rfl
     refine d_one (i := 4) (listed' := #[yT, yT, yT, yT, yT, nF, yT, yT, nF, yT, yT, nF, nF, nF, nF, nF, nF, nF, nF, nF]) rfl (by kernel_rfl) rfl rfl ?_
     refine f_val (v := .slice Q6 Q8 Q7) F150 rfl rfl (r_loadB S150.at' 2 TI_32 rfl rfl (F150.ev 6 rfl) rfl rfl (fun _ => rfl) rfl) rfl fun _ F151 => ?_
     refine ⟨Sd.of S150 [] rfl, ?_⟩
     refine g_take F151 rfl (i := 12) (listed' := #[yT, yT, yT, yT, yT, nF, yT, yT, nF, yT, yT, nF, yT, nF, nF, nF, nF, nF, nF, nF]) rfl (by kernel_rfl) (by kernel_rfl) (by kernel_rfl) (fun _ _ _ h => h) (Sd.of S150 [] rfl) rfl rfl rfl rfl (fun _ hz => (r_field FI_35_4 rfl (F151.ev 1 rfl) rfl)) fun _ F152 => ?_
     exact G126 _ _ ⟨Q0, Q2, Q1, F152.cut rfl, S150.pick [0, 1, 2] rfl⟩
   refine x_lem (fun aZ wZ => Fr 20 [(13, .agg #[.slice x_Ra x_Rn x_Rc, .slice x_Wa x_Wn x_Wc]), (10, .slice Q3 Q5 Q4), (7, .slice Q6 Q8 Q7), (4, .slice Q9 Q11 Q10), (2, .pointer (some ⟨b3, 0, none⟩)), (1, .pointer (some ⟨b1, 0, none⟩))] aZ ∧ Mv [bx b3 [.int .i64 0, .int .i64 0, .int .i64 0, .int .i64 0, .slice none 0 0, .slice none 0 0, .slice none 0 0, .slice none 0 0, .slice none 0 0, .int .i64 0] 35, bx b1 [.int .i64 x.id, .int .i64 x.age, .int .i64 x.proc, .int .i64 x.began, .slice Q9 Q11 Q10, .slice Q6 Q8 Q7, .slice x_Ra x_Rn x_Rc, .slice x_Wa x_Wn x_Wc, .slice Q3 Q5 Q4, .int .i64 x.state] 35] w8 [bx b3 [.int .i64 0, .int .i64 0, .int .i64 0, .int .i64 0, .slice none 0 0, .slice none 0 0, .slice none 0 0, .slice none 0 0, .slice none 0 0, .int .i64 0] 35, bx b1 [.int .i64 x.id, .int .i64 x.age, .int .i64 x.proc, .int .i64 x.began, .slice Q9 Q11 Q10, .slice Q6 Q8 Q7, .slice x_Ra x_Rn x_Rc, .slice x_Wa x_Wn x_Wc, .slice Q3 Q5 Q4, .int .i64 x.state] 35] wZ) #[yT, yT, nF, yT, yT, nF, yT, yT, nF, yT, yT, nF, nF, nF, nF, nF, nF, nF, nF, nF] 12 ?_ (fun G153 => ?_)
   · rintro a153 w153 ⟨F153, S153⟩
     refine d_one (i := 2) (listed' := #[yT, yT, yT, yT, yT, nF, yT, yT, nF, yT, yT, nF, nF, nF, nF, nF, nF, nF, nF, nF]) rfl (by kernel_rfl) rfl rfl ?_
     refine f_call F153 CF_46 rfl rfl rfl rfl (lc (F153.ev 4 rfl) rfl) (slices_Clone_Simpl_Call_impl_Call_c (s := x.calls) (Rd.mv (Nat.succ_pos _) Q24 (S1.trans (T6.trans (S8.trans S153)))) (by first | assumption | omega | (simp <;> omega))) ?_
     rintro _ w154 ⟨Q44, Q81, Q61, rfl, m154⟩
     refine ⟨_, rfl, fun _ F155 => ?_⟩
     have S154 : Mv _ _ [ow 56 6 encK okK (.slice Q44 Q81 Q61) x.calls, bx b3 [.int .i64 0, .int .i64 0, .int .i64 0, .int .i64 0, .slice none 0 0, .slice none 0 0, .slice none 0 0, .slice none 0 0, .slice none 0 0, .int .i64 0] 35, bx b1 [.int .i64 x.id, .int .i64 x.age, .int .i64 x.proc, .int .i64 x.began, .slice Q9 Q11 Q10, .slice Q6 Q8 Q7, .slice x_Ra x_Rn x_Rc, .slice x_Wa x_Wn x_Wc, .slice Q3 Q5 Q4, .int .i64 x.state] 35] _ := At.frame S153.at' [] rfl m154
     obtain ⟨Q157, Q220, Q283⟩ := At.ownInv S154.at' ET_31.hk 0 rfl
     clear m154
     refine ⟨Sd.of (S153.trans S154) [] rfl, ?_⟩
     refine g_take F155 rfl (i := 12) (listed' := #[yT, yT, yT, yT, yT, nF, yT, yT, nF, yT, yT, nF, yT, nF, nF, nF, nF, nF, nF, nF]) rfl (by kernel_rfl) (by kernel_rfl) (by kernel_rfl) (fun _ _ _ h => h) (Sd.of (S153.trans S154) [] rfl) rfl rfl rfl rfl (fun _ hz => (r_field FI_35_4 rfl (F155.ev 1 rfl) rfl)) fun _ F156 => ?_
     exact G126 _ _ ⟨Q44, Q81, Q61, F156.cut rfl, (S153.trans S154).pick [0, 1, 2] rfl⟩
   refine x_lem (fun aZ wZ => ∃ (Q0 : Option Addr), ∃ (Q2 : Nat), ∃ (Q1 : Nat), Fr 20 [(7, .slice Q6 Q8 Q7), (5, .slice Q0 Q2 Q1), (12, .pointer (some ⟨b1, 6, none⟩)), (9, .pointer (some ⟨b1, 8, none⟩)), (2, .pointer (some ⟨b3, 0, none⟩)), (1, .pointer (some ⟨b1, 0, none⟩))] aZ ∧ Mv [bx b3 [.int .i64 0, .int .i64 0, .int .i64 0, .int .i64 0, .slice none 0 0, .slice none 0 0, .slice none 0 0, .slice none 0 0, .slice none 0 0, .int .i64 0] 35, bx b1 [.int .i64 x.id, .int .i64 x.age, .int .i64 x.proc, .int .i64 x.began, .slice Q9 Q11 Q10, .slice Q6 Q8 Q7, .slice x_Ra x_Rn x_Rc, .slice x_Wa x_Wn x_Wc, .slice Q3 Q5 Q4, .int .i64 x.state] 35] w8 [ow 56 6 encK okK (.slice Q0 Q2 Q1) x.calls, bx b3 [.int .i64 0, .int .i64 0, .int .i64 0, .int .i64 0, .slice none 0 0, .slice none 0 0, .slice none 0 0, .slice none 0 0, .slice none 0 0, .int .i64 0] 35, bx b1 [.int .i64 x.id, .int .i64 x.age, .int .i64 x.proc, .int .i64 x.began, .slice Q9 Q11 Q10, .slice Q6 Q8 Q7, .slice x_Ra x_Rn x_Rc, .slice x_Wa x_Wn x_Wc, .slice Q3 Q5 Q4, .int .i64 x.state] 35] wZ) #[yT, yT, yT, yT, yT, nF, yT, nF, nF, yT, nF, nF, nF, nF, nF, nF, nF, nF, nF, nF] 13 ?_ (fun G157 => ?_)
   · rintro a157 w157 ⟨Q0, Q2, Q1, F157, S157⟩
     obtain ⟨Q158, Q221, Q284⟩ := At.ownInv S157.at' ET_31.hk 0 rfl
     refine d_all (rs := [5, 7, 10]) rfl (by kernel_rfl) (by simp) (d_cons (i := 5) (listed' := #[yT, yT, yT, yT, yT, yT, yT, nF, nF, yT, nF, nF, nF, nF, nF, nF, nF, nF, nF, nF]) rfl rfl ?_ (d_cons (i := 7) (listed' := #[yT, yT, yT, yT, yT, nF, yT, yT, nF, yT, nF, nF, nF, nF, nF, nF, nF, nF, nF, nF]) rfl rfl ?_ (d_cons (i := 10) (listed' := #[yT, yT, yT, yT, yT, nF, yT, nF, nF, yT, yT, nF, nF, nF, nF, nF, nF, nF, nF, nF]) rfl rfl ?_ d_nil)))
     · skip
       refine f_call F157 CF_47 rfl rfl rfl rfl (lc (F157.ev 7 rfl) rfl) (slices_Clone_Simpl_Answer_impl_Answer_c (s := x.answers) (Rd.mv (Nat.succ_pos _) Q25 (S1.trans (T6.trans (S8.trans S157)))) (by first | assumption | omega | (simp <;> omega))) ?_
       rintro _ w158 ⟨Q45, Q82, Q62, rfl, m158⟩
       refine ⟨_, rfl, fun _ F159 => ?_⟩
       have S158 : Mv _ _ [ow 59 3 encR okR (.slice Q45 Q82 Q62) x.answers, ow 56 6 encK okK (.slice Q0 Q2 Q1) x.calls, bx b3 [.int .i64 0, .int .i64 0, .int .i64 0, .int .i64 0, .slice none 0 0, .slice none 0 0, .slice none 0 0, .slice none 0 0, .slice none 0 0, .int .i64 0] 35, bx b1 [.int .i64 x.id, .int .i64 x.age, .int .i64 x.proc, .int .i64 x.began, .slice Q9 Q11 Q10, .slice Q6 Q8 Q7, .slice x_Ra x_Rn x_Rc, .slice x_Wa x_Wn x_Wc, .slice Q3 Q5 Q4, .int .i64 x.state] 35] _ := At.frame S157.at' [] rfl m158
       obtain ⟨Q159, Q222, Q285⟩ := At.ownInv S158.at' ET_32.hk 0 rfl
       clear m158
       refine ⟨Sd.of (S157.trans S158) [] rfl, ?_⟩
       exact G137 _ _ ⟨Q0, Q2, Q1, Q45, Q82, Q62, F159.cut rfl, (S157.trans S158).pick [0, 1, 2, 3] rfl⟩
     · skip
       refine f_val (v := .slice Q3 Q5 Q4) F157 rfl rfl (r_loadB S157.at' 2 TI_27 rfl rfl (F157.ev 9 rfl) rfl rfl (fun _ => rfl) rfl) rfl fun _ F160 => ?_
       refine ⟨Sd.of S157 [] rfl, ?_⟩
       exact G140 _ _ ⟨Q0, Q2, Q1, F160.cut rfl, S157.pick [0, 1, 2] rfl⟩
     · skip
       refine f_val (v := .agg #[.slice x_Ra x_Rn x_Rc, .slice x_Wa x_Wn x_Wc]) F157 rfl rfl (r_loadB S157.at' 2 TI_33 rfl rfl (F157.ev 12 rfl) rfl rfl (fun h => nomatch h) rfl) rfl fun _ F161 => ?_
       refine ⟨Sd.of S157 [] rfl, ?_⟩
       exact G145 _ _ ⟨Q0, Q2, Q1, F161.cut rfl, S157.pick [0, 1, 2] rfl⟩
   refine x_lem (fun aZ wZ => ∃ (Q0 : Option Addr), ∃ (Q2 : Nat), ∃ (Q1 : Nat), Fr 20 [(10, .slice Q3 Q5 Q4), (5, .slice Q0 Q2 Q1), (12, .pointer (some ⟨b1, 6, none⟩)), (6, .pointer (some ⟨b1, 5, none⟩)), (2, .pointer (some ⟨b3, 0, none⟩)), (1, .pointer (some ⟨b1, 0, none⟩))] aZ ∧ Mv [bx b3 [.int .i64 0, .int .i64 0, .int .i64 0, .int .i64 0, .slice none 0 0, .slice none 0 0, .slice none 0 0, .slice none 0 0, .slice none 0 0, .int .i64 0] 35, bx b1 [.int .i64 x.id, .int .i64 x.age, .int .i64 x.proc, .int .i64 x.began, .slice Q9 Q11 Q10, .slice Q6 Q8 Q7, .slice x_Ra x_Rn x_Rc, .slice x_Wa x_Wn x_Wc, .slice Q3 Q5 Q4, .int .i64 x.state] 35] w8 [ow 56 6 encK okK (.slice Q0 Q2 Q1) x.calls, bx b3 [.int .i64 0, .int .i64 0, .int .i64 0, .int .i64 0, .slice none 0 0, .slice none 0 0, .slice none 0 0, .slice none 0 0, .slice none 0 0, .int .i64 0] 35, bx b1 [.int .i64 x.id, .int .i64 x.age, .int .i64 x.proc, .int .i64 x.began, .slice Q9 Q11 Q10, .slice Q6 Q8 Q7, .slice x_Ra x_Rn x_Rc, .slice x_Wa x_Wn x_Wc, .slice Q3 Q5 Q4, .int .i64 x.state] 35] wZ) #[yT, yT, yT, yT, nF, nF, yT, yT, nF, yT, nF, nF, nF, nF, nF, nF, nF, nF, nF, nF] 13 ?_ (fun G162 => ?_)
   · rintro a162 w162 ⟨Q0, Q2, Q1, F162, S162⟩
     obtain ⟨Q160, Q223, Q286⟩ := At.ownInv S162.at' ET_31.hk 0 rfl
     refine d_all (rs := [4, 10]) rfl (by kernel_rfl) (by simp) (d_cons (i := 4) (listed' := #[yT, yT, yT, yT, yT, nF, yT, yT, nF, yT, nF, nF, nF, nF, nF, nF, nF, nF, nF, nF]) rfl rfl ?_ (d_cons (i := 10) (listed' := #[yT, yT, yT, yT, nF, nF, yT, yT, nF, yT, yT, nF, nF, nF, nF, nF, nF, nF, nF, nF]) rfl rfl ?_ d_nil))
     · skip
       refine f_val (v := .slice Q6 Q8 Q7) F162 rfl rfl (r_loadB S162.at' 2 TI_32 rfl rfl (F162.ev 6 rfl) rfl rfl (fun _ => rfl) rfl) rfl fun _ F163 => ?_
       refine ⟨Sd.of S162 [] rfl, ?_⟩
       exact G140 _ _ ⟨Q0, Q2, Q1, F163.cut rfl, S162.pick [0, 1, 2] rfl⟩
     · skip
       refine f_val (v := .agg #[.slice x_Ra x_Rn x_Rc, .slice x_Wa x_Wn x_Wc]) F162 rfl rfl (r_loadB S162.at' 2 TI_33 rfl rfl (F162.ev 12 rfl) rfl rfl (fun h => nomatch h) rfl) rfl fun _ F164 => ?_
       refine ⟨Sd.of S162 [] rfl, ?_⟩
       exact G150 _ _ ⟨Q0, Q2, Q1, F164.cut rfl, S162.pick [0, 1, 2] rfl⟩
   refine x_lem (fun aZ wZ => ∃ (Q0 : Option Addr), ∃ (Q2 : Nat), ∃ (Q1 : Nat), Fr 20 [(13, .agg #[.slice x_Ra x_Rn x_Rc, .slice x_Wa x_Wn x_Wc]), (5, .slice Q0 Q2 Q1), (9, .pointer (some ⟨b1, 8, none⟩)), (6, .pointer (some ⟨b1, 5, none⟩)), (2, .pointer (some ⟨b3, 0, none⟩)), (1, .pointer (some ⟨b1, 0, none⟩))] aZ ∧ Mv [bx b3 [.int .i64 0, .int .i64 0, .int .i64 0, .int .i64 0, .slice none 0 0, .slice none 0 0, .slice none 0 0, .slice none 0 0, .slice none 0 0, .int .i64 0] 35, bx b1 [.int .i64 x.id, .int .i64 x.age, .int .i64 x.proc, .int .i64 x.began, .slice Q9 Q11 Q10, .slice Q6 Q8 Q7, .slice x_Ra x_Rn x_Rc, .slice x_Wa x_Wn x_Wc, .slice Q3 Q5 Q4, .int .i64 x.state] 35] w8 [ow 56 6 encK okK (.slice Q0 Q2 Q1) x.calls, bx b3 [.int .i64 0, .int .i64 0, .int .i64 0, .int .i64 0, .slice none 0 0, .slice none 0 0, .slice none 0 0, .slice none 0 0, .slice none 0 0, .int .i64 0] 35, bx b1 [.int .i64 x.id, .int .i64 x.age, .int .i64 x.proc, .int .i64 x.began, .slice Q9 Q11 Q10, .slice Q6 Q8 Q7, .slice x_Ra x_Rn x_Rc, .slice x_Wa x_Wn x_Wc, .slice Q3 Q5 Q4, .int .i64 x.state] 35] wZ) #[yT, yT, yT, yT, nF, nF, yT, nF, nF, yT, yT, nF, nF, nF, nF, nF, nF, nF, nF, nF] 13 ?_ (fun G165 => ?_)
   · rintro a165 w165 ⟨Q0, Q2, Q1, F165, S165⟩
     obtain ⟨Q161, Q224, Q287⟩ := At.ownInv S165.at' ET_31.hk 0 rfl
     refine d_all (rs := [4, 7]) rfl (by kernel_rfl) (by simp) (d_cons (i := 4) (listed' := #[yT, yT, yT, yT, yT, nF, yT, nF, nF, yT, yT, nF, nF, nF, nF, nF, nF, nF, nF, nF]) rfl rfl ?_ (d_cons (i := 7) (listed' := #[yT, yT, yT, yT, nF, nF, yT, yT, nF, yT, yT, nF, nF, nF, nF, nF, nF, nF, nF, nF]) rfl rfl ?_ d_nil))
     · skip
       refine f_val (v := .slice Q6 Q8 Q7) F165 rfl rfl (r_loadB S165.at' 2 TI_32 rfl rfl (F165.ev 6 rfl) rfl rfl (fun _ => rfl) rfl) rfl fun _ F166 => ?_
       refine ⟨Sd.of S165 [] rfl, ?_⟩
       exact G145 _ _ ⟨Q0, Q2, Q1, F166.cut rfl, S165.pick [0, 1, 2] rfl⟩
     · skip
       refine f_val (v := .slice Q3 Q5 Q4) F165 rfl rfl (r_loadB S165.at' 2 TI_27 rfl rfl (F165.ev 9 rfl) rfl rfl (fun _ => rfl) rfl) rfl fun _ F167 => ?_
       refine ⟨Sd.of S165 [] rfl, ?_⟩
       exact G150 _ _ ⟨Q0, Q2, Q1, F167.cut rfl, S165.pick [0, 1, 2] rfl⟩
   refine x_lem (fun aZ wZ => Fr 20 [(10, .slice Q3 Q5 Q4), (7, .slice Q6 Q8 Q7), (4, .slice Q9 Q11 Q10), (12, .pointer (some ⟨b1, 6, none⟩)), (2, .pointer (some ⟨b3, 0, none⟩)), (1, .pointer (some ⟨b1, 0, none⟩))] aZ ∧ Mv [bx b3 [.int .i64 0, .int .i64 0, .int .i64 0, .int .i64 0, .slice none 0 0, .slice none 0 0, .slice none 0 0, .slice none 0 0, .slice none 0 0, .int .i64 0] 35, bx b1 [.int .i64 x.id, .int .i64 x.age, .int .i64 x.proc, .int .i64 x.began, .slice Q9 Q11 Q10, .slice Q6 Q8 Q7, .slice x_Ra x_Rn x_Rc, .slice x_Wa x_Wn x_Wc, .slice Q3 Q5 Q4, .int .i64 x.state] 35] w8 [bx b3 [.int .i64 0, .int .i64 0, .int .i64 0, .int .i64 0, .slice none 0 0, .slice none 0 0, .slice none 0 0, .slice none 0 0, .slice none 0 0, .int .i64 0] 35, bx b1 [.int .i64 x.id, .int .i64 x.age, .int .i64 x.proc, .int .i64 x.began, .slice Q9 Q11 Q10, .slice Q6 Q8 Q7, .slice x_Ra x_Rn x_Rc, .slice x_Wa x_Wn x_Wc, .slice Q3 Q5 Q4, .int .i64 x.state] 35] wZ) #[yT, yT, nF, yT, yT, nF, yT, yT, nF, yT, nF, nF, nF, nF, nF, nF, nF, nF, nF, nF] 13 ?_ (fun G168 => ?_)
   · rintro a168 w168 ⟨F168, S168⟩
     refine d_all (rs := [2, 10]) rfl (by kernel_rfl) (by simp) (d_cons (i := 2) (listed' := #[yT, yT, yT, yT, yT, nF, yT, yT, nF, yT, nF, nF, nF, nF, nF, nF, nF, nF, nF, nF]) rfl rfl ?_ (d_cons (i := 10) (listed' := #[yT, yT, nF, yT, yT, nF, yT, yT, nF, yT, yT, nF, nF, nF, nF, nF, nF, nF, nF, nF]) rfl rfl ?_ d_nil))
     · skip
       refine f_call F168 CF_46 rfl rfl rfl rfl (lc (F168.ev 4 rfl) rfl) (slices_Clone_Simpl_Call_impl_Call_c (s := x.calls) (Rd.mv (Nat.succ_pos _) Q24 (S1.trans (T6.trans (S8.trans S168)))) (by first | assumption | omega | (simp <;> omega))) ?_
       rintro _ w169 ⟨Q46, Q83, Q63, rfl, m169⟩
       refine ⟨_, rfl, fun _ F170 => ?_⟩
       have S169 : Mv _ _ [ow 56 6 encK okK (.slice Q46 Q83 Q63) x.calls, bx b3 [.int .i64 0, .int .i64 0, .int .i64 0, .int .i64 0, .slice none 0 0, .slice none 0 0, .slice none 0 0, .slice none 0 0, .slice none 0 0, .int .i64 0] 35, bx b1 [.int .i64 x.id, .int .i64 x.age, .int .i64 x.proc, .int .i64 x.began, .slice Q9 Q11 Q10, .slice Q6 Q8 Q7, .slice x_Ra x_Rn x_Rc, .slice x_Wa x_Wn x_Wc, .slice Q3 Q5 Q4, .int .i64 x.state] 35] _ := At.frame S168.at' [] rfl m169
       obtain ⟨Q162, Q225, Q288⟩ := At.ownInv S169.at' ET_31.hk 0 rfl
       clear m169
       refine ⟨Sd.of (S168.trans S169) [] rfl, ?_⟩
       exact G140 _ _ ⟨Q46, Q83, Q63, F170.cut rfl, (S168.trans S169).pick [0, 1, 2] rfl⟩
     · skip
       refine f_val (v := .agg #[.slice x_Ra x_Rn x_Rc, .slice x_Wa x_Wn x_Wc]) F168 rfl rfl (r_loadB S168.at' 1 TI_33 rfl rfl (F168.ev 12 rfl) rfl rfl (fun h => nomatch h) rfl) rfl fun _ F171 => ?_
       refine ⟨Sd.of S168 [] rfl, ?_⟩
       exact G153 _ _ ⟨F171.cut rfl, S168.pick [0, 1] rfl⟩
   refine x_lem (fun aZ wZ => Fr 20 [(13, .agg #[.slice x_Ra x_Rn x_Rc, .slice x_Wa x_Wn x_Wc]), (7, .slice Q6 Q8 Q7), (4, .slice Q9 Q11 Q10), (9, .pointer (some ⟨b1, 8, none⟩)), (2, .pointer (some ⟨b3, 0, none⟩)), (1, .pointer (some ⟨b1, 0, none⟩))] aZ ∧ Mv [bx b3 [.int .i64 0, .int .i64 0, .int .i64 0, .int .i64 0, .slice none 0 0, .slice none 0 0, .slice none 0 0, .slice none 0 0, .slice none 0 0, .int .i64 0] 35, bx b1 [.int .i64 x.id, .int .i64 x.age, .int .i64 x.proc, .int .i64 x.began, .slice Q9 Q11 Q10, .slice Q6 Q8 Q7, .slice x_Ra x_Rn x_Rc, .slice x_Wa x_Wn x_Wc, .slice Q3 Q5 Q4, .int .i64 x.state] 35] w8 [bx b3 [.int .i64 0, .int .i64 0, .int .i64 0, .int .i64 0, .slice none 0 0, .slice none 0 0, .slice none 0 0, .slice none 0 0, .slice none 0 0, .int .i64 0] 35, bx b1 [.int .i64 x.id, .int .i64 x.age, .int .i64 x.proc, .int .i64 x.began, .slice Q9 Q11 Q10, .slice Q6 Q8 Q7, .slice x_Ra x_Rn x_Rc, .slice x_Wa x_Wn x_Wc, .slice Q3 Q5 Q4, .int .i64 x.state] 35] wZ) #[yT, yT, nF, yT, yT, nF, yT, nF, nF, yT, yT, nF, nF, nF, nF, nF, nF, nF, nF, nF] 13 ?_ (fun G172 => ?_)
   · rintro a172 w172 ⟨F172, S172⟩
     refine d_all (rs := [2, 7]) rfl (by kernel_rfl) (by simp) (d_cons (i := 2) (listed' := #[yT, yT, yT, yT, yT, nF, yT, nF, nF, yT, yT, nF, nF, nF, nF, nF, nF, nF, nF, nF]) rfl rfl ?_ (d_cons (i := 7) (listed' := #[yT, yT, nF, yT, yT, nF, yT, yT, nF, yT, yT, nF, nF, nF, nF, nF, nF, nF, nF, nF]) rfl rfl ?_ d_nil))
     · skip
       refine f_call F172 CF_46 rfl rfl rfl rfl (lc (F172.ev 4 rfl) rfl) (slices_Clone_Simpl_Call_impl_Call_c (s := x.calls) (Rd.mv (Nat.succ_pos _) Q24 (S1.trans (T6.trans (S8.trans S172)))) (by first | assumption | omega | (simp <;> omega))) ?_
       rintro _ w173 ⟨Q47, Q84, Q64, rfl, m173⟩
       refine ⟨_, rfl, fun _ F174 => ?_⟩
       have S173 : Mv _ _ [ow 56 6 encK okK (.slice Q47 Q84 Q64) x.calls, bx b3 [.int .i64 0, .int .i64 0, .int .i64 0, .int .i64 0, .slice none 0 0, .slice none 0 0, .slice none 0 0, .slice none 0 0, .slice none 0 0, .int .i64 0] 35, bx b1 [.int .i64 x.id, .int .i64 x.age, .int .i64 x.proc, .int .i64 x.began, .slice Q9 Q11 Q10, .slice Q6 Q8 Q7, .slice x_Ra x_Rn x_Rc, .slice x_Wa x_Wn x_Wc, .slice Q3 Q5 Q4, .int .i64 x.state] 35] _ := At.frame S172.at' [] rfl m173
       obtain ⟨Q163, Q226, Q289⟩ := At.ownInv S173.at' ET_31.hk 0 rfl
       clear m173
       refine ⟨Sd.of (S172.trans S173) [] rfl, ?_⟩
       exact G145 _ _ ⟨Q47, Q84, Q64, F174.cut rfl, (S172.trans S173).pick [0, 1, 2] rfl⟩
     · skip
       refine f_val (v := .slice Q3 Q5 Q4) F172 rfl rfl (r_loadB S172.at' 1 TI_27 rfl rfl (F172.ev 9 rfl) rfl rfl (fun _ => rfl) rfl) rfl fun _ F175 => ?_
       refine ⟨Sd.of S172 [] rfl, ?_⟩
       exact G153 _ _ ⟨F175.cut rfl, S172.pick [0, 1] rfl⟩
   refine x_lem (fun aZ wZ => Fr 20 [(13, .agg #[.slice x_Ra x_Rn x_Rc, .slice x_Wa x_Wn x_Wc]), (10, .slice Q3 Q5 Q4), (4, .slice Q9 Q11 Q10), (6, .pointer (some ⟨b1, 5, none⟩)), (2, .pointer (some ⟨b3, 0, none⟩)), (1, .pointer (some ⟨b1, 0, none⟩))] aZ ∧ Mv [bx b3 [.int .i64 0, .int .i64 0, .int .i64 0, .int .i64 0, .slice none 0 0, .slice none 0 0, .slice none 0 0, .slice none 0 0, .slice none 0 0, .int .i64 0] 35, bx b1 [.int .i64 x.id, .int .i64 x.age, .int .i64 x.proc, .int .i64 x.began, .slice Q9 Q11 Q10, .slice Q6 Q8 Q7, .slice x_Ra x_Rn x_Rc, .slice x_Wa x_Wn x_Wc, .slice Q3 Q5 Q4, .int .i64 x.state] 35] w8 [bx b3 [.int .i64 0, .int .i64 0, .int .i64 0, .int .i64 0, .slice none 0 0, .slice none 0 0, .slice none 0 0, .slice none 0 0, .slice none 0 0, .int .i64 0] 35, bx b1 [.int .i64 x.id, .int .i64 x.age, .int .i64 x.proc, .int .i64 x.began, .slice Q9 Q11 Q10, .slice Q6 Q8 Q7, .slice x_Ra x_Rn x_Rc, .slice x_Wa x_Wn x_Wc, .slice Q3 Q5 Q4, .int .i64 x.state] 35] wZ) #[yT, yT, nF, yT, nF, nF, yT, yT, nF, yT, yT, nF, nF, nF, nF, nF, nF, nF, nF, nF] 13 ?_ (fun G176 => ?_)
   · rintro a176 w176 ⟨F176, S176⟩
     refine d_all (rs := [2, 4]) rfl (by kernel_rfl) (by simp) (d_cons (i := 2) (listed' := #[yT, yT, yT, yT, nF, nF, yT, yT, nF, yT, yT, nF, nF, nF, nF, nF, nF, nF, nF, nF]) rfl rfl ?_ (d_cons (i := 4) (listed' := #[yT, yT, nF, yT, yT, nF, yT, yT, nF, yT, yT, nF, nF, nF, nF, nF, nF, nF, nF, nF]) rfl rfl ?_ d_nil))
     · skip
       refine f_call F176 CF_46 rfl rfl rfl rfl (lc (F176.ev 4 rfl) rfl) (slices_Clone_Simpl_Call_impl_Call_c (s := x.calls) (Rd.mv (Nat.succ_pos _) Q24 (S1.trans (T6.trans (S8.trans S176)))) (by first | assumption | omega | (simp <;> omega))) ?_
       rintro _ w177 ⟨Q48, Q85, Q65, rfl, m177⟩
       refine ⟨_, rfl, fun _ F178 => ?_⟩
       have S177 : Mv _ _ [ow 56 6 encK okK (.slice Q48 Q85 Q65) x.calls, bx b3 [.int .i64 0, .int .i64 0, .int .i64 0, .int .i64 0, .slice none 0 0, .slice none 0 0, .slice none 0 0, .slice none 0 0, .slice none 0 0, .int .i64 0] 35, bx b1 [.int .i64 x.id, .int .i64 x.age, .int .i64 x.proc, .int .i64 x.began, .slice Q9 Q11 Q10, .slice Q6 Q8 Q7, .slice x_Ra x_Rn x_Rc, .slice x_Wa x_Wn x_Wc, .slice Q3 Q5 Q4, .int .i64 x.state] 35] _ := At.frame S176.at' [] rfl m177
       obtain ⟨Q164, Q227, Q290⟩ := At.ownInv S177.at' ET_31.hk 0 rfl
       clear m177
       refine ⟨Sd.of (S176.trans S177) [] rfl, ?_⟩
       exact G150 _ _ ⟨Q48, Q85, Q65, F178.cut rfl, (S176.trans S177).pick [0, 1, 2] rfl⟩
     · skip
       refine f_val (v := .slice Q6 Q8 Q7) F176 rfl rfl (r_loadB S176.at' 1 TI_32 rfl rfl (F176.ev 6 rfl) rfl rfl (fun _ => rfl) rfl) rfl fun _ F179 => ?_
       refine ⟨Sd.of S176 [] rfl, ?_⟩
       exact G153 _ _ ⟨F179.cut rfl, S176.pick [0, 1] rfl⟩
   refine x_lem (fun aZ wZ => Fr 20 [(13, .agg #[.slice x_Ra x_Rn x_Rc, .slice x_Wa x_Wn x_Wc]), (10, .slice Q3 Q5 Q4), (7, .slice Q6 Q8 Q7), (3, .pointer (some ⟨b1, 4, none⟩)), (2, .pointer (some ⟨b3, 0, none⟩)), (1, .pointer (some ⟨b1, 0, none⟩))] aZ ∧ Mv [bx b3 [.int .i64 0, .int .i64 0, .int .i64 0, .int .i64 0, .slice none 0 0, .slice none 0 0, .slice none 0 0, .slice none 0 0, .slice none 0 0, .int .i64 0] 35, bx b1 [.int .i64 x.id, .int .i64 x.age, .int .i64 x.proc, .int .i64 x.began, .slice Q9 Q11 Q10, .slice Q6 Q8 Q7, .slice x_Ra x_Rn x_Rc, .slice x_Wa x_Wn x_Wc, .slice Q3 Q5 Q4, .int .i64 x.state] 35] w8 [bx b3 [.int .i64 0, .int .i64 0, .int .i64 0, .int .i64 0, .slice none 0 0, .slice none 0 0, .slice none 0 0, .slice none 0 0, .slice none 0 0, .int .i64 0] 35, bx b1 [.int .i64 x.id, .int .i64 x.age, .int .i64 x.proc, .int .i64 x.began, .slice Q9 Q11 Q10, .slice Q6 Q8 Q7, .slice x_Ra x_Rn x_Rc, .slice x_Wa x_Wn x_Wc, .slice Q3 Q5 Q4, .int .i64 x.state] 35] wZ) #[yT, nF, nF, yT, yT, nF, yT, yT, nF, yT, yT, nF, nF, nF, nF, nF, nF, nF, nF, nF] 13 ?_ (fun G180 => ?_)
   · rintro a180 w180 ⟨F180, S180⟩
     refine d_one (i := 1) (listed' := #[yT, yT, nF, yT, yT, nF, yT, yT, nF, yT, yT, nF, nF, nF, nF, nF, nF, nF, nF, nF]) rfl (by kernel_rfl) rfl rfl ?_
     refine f_val (v := .slice Q9 Q11 Q10) F180 rfl rfl (r_loadB S180.at' 1 TI_31 rfl rfl (F180.ev 3 rfl) rfl rfl (fun _ => rfl) rfl) rfl fun _ F181 => ?_
     refine ⟨Sd.of S180 [] rfl, ?_⟩
     exact G153 _ _ ⟨F181.cut rfl, S180.pick [0, 1] rfl⟩
   refine x_lem (fun aZ wZ => ∃ (Q0 : Option Addr), ∃ (Q2 : Nat), ∃ (Q1 : Nat), Fr 20 [(5, .slice Q0 Q2 Q1), (12, .pointer (some ⟨b1, 6, none⟩)), (9, .pointer (some ⟨b1, 8, none⟩)), (6, .pointer (some ⟨b1, 5, none⟩)), (2, .pointer (some ⟨b3, 0, none⟩)), (1, .pointer (some ⟨b1, 0, none⟩))] aZ ∧ Mv [bx b3 [.int .i64 0, .int .i64 0, .int .i64 0, .int .i64 0, .slice none 0 0, .slice none 0 0, .slice none 0 0, .slice none 0 0, .slice none 0 0, .int .i64 0] 35, bx b1 [.int .i64 x.id, .int .i64 x.age, .int .i64 x.proc, .int .i64 x.began, .slice Q9 Q11 Q10, .slice Q6 Q8 Q7, .slice x_Ra x_Rn x_Rc, .slice x_Wa x_Wn x_Wc, .slice Q3 Q5 Q4, .int .i64 x.state] 35] w8 [ow 56 6 encK okK (.slice Q0 Q2 Q1) x.calls, bx b3 [.int .i64 0, .int .i64 0, .int .i64 0, .int .i64 0, .slice none 0 0, .slice none 0 0, .slice none 0 0, .slice none 0 0, .slice none 0 0, .int .i64 0] 35, bx b1 [.int .i64 x.id, .int .i64 x.age, .int .i64 x.proc, .int .i64 x.began, .slice Q9 Q11 Q10, .slice Q6 Q8 Q7, .slice x_Ra x_Rn x_Rc, .slice x_Wa x_Wn x_Wc, .slice Q3 Q5 Q4, .int .i64 x.state] 35] wZ) #[yT, yT, yT, yT, nF, nF, yT, nF, nF, yT, nF, nF, nF, nF, nF, nF, nF, nF, nF, nF] 14 ?_ (fun G182 => ?_)
   · rintro a182 w182 ⟨Q0, Q2, Q1, F182, S182⟩
     obtain ⟨Q165, Q228, Q291⟩ := At.ownInv S182.at' ET_31.hk 0 rfl
     refine d_all (rs := [4, 7, 10]) rfl (by kernel_rfl) (by simp) (d_cons (i := 4) (listed' := #[yT, yT, yT, yT, yT, nF, yT, nF, nF, yT, nF, nF, nF, nF, nF, nF, nF, nF, nF, nF]) rfl rfl ?_ (d_cons (i := 7) (listed' := #[yT, yT, yT, yT, nF, nF, yT, yT, nF, yT, nF, nF, nF, nF, nF, nF, nF, nF, nF, nF]) rfl rfl ?_ (d_cons (i := 10) (listed' := #[yT, yT, yT, yT, nF, nF, yT, nF, nF, yT, yT, nF, nF, nF, nF, nF, nF, nF, nF, nF]) rfl rfl ?_ d_nil)))
     · skip
       refine f_val (v := .slice Q6 Q8 Q7) F182 rfl rfl (r_loadB S182.at' 2 TI_32 rfl rfl (F182.ev 6 rfl) rfl rfl (fun _ => rfl) rfl) rfl fun _ F183 => ?_
       refine ⟨Sd.of S182 [] rfl, ?_⟩
       exact G157 _ _ ⟨Q0, Q2, Q1, F183.cut rfl, S182.pick [0, 1, 2] rfl⟩
     · skip
       refine f_val (v := .slice Q3 Q5 Q4) F182 rfl rfl (r_loadB S182.at' 2 TI_27 rfl rfl (F182.ev 9 rfl) rfl rfl (fun _ => rfl) rfl) rfl fun _ F184 => ?_
       refine ⟨Sd.of S182 [] rfl, ?_⟩
       exact G162 _ _ ⟨Q0, Q2, Q1, F184.cut rfl, S182.pick [0, 1, 2] rfl⟩
     · skip
       refine f_val (v := .agg #[.slice x_Ra x_Rn x_Rc, .slice x_Wa x_Wn x_Wc]) F182 rfl rfl (r_loadB S182.at' 2 TI_33 rfl rfl (F182.ev 12 rfl) rfl rfl (fun h => nomatch h) rfl) rfl fun _ F185 => ?_
       refine ⟨Sd.of S182 [] rfl, ?_⟩
       exact G165 _ _ ⟨Q0, Q2, Q1, F185.cut rfl, S182.pick [0, 1, 2] rfl⟩
   refine x_lem (fun aZ wZ => Fr 20 [(7, .slice Q6 Q8 Q7), (4, .slice Q9 Q11 Q10), (12, .pointer (some ⟨b1, 6, none⟩)), (9, .pointer (some ⟨b1, 8, none⟩)), (2, .pointer (some ⟨b3, 0, none⟩)), (1, .pointer (some ⟨b1, 0, none⟩))] aZ ∧ Mv [bx b3 [.int .i64 0, .int .i64 0, .int .i64 0, .int .i64 0, .slice none 0 0, .slice none 0 0, .slice none 0 0, .slice none 0 0, .slice none 0 0, .int .i64 0] 35, bx b1 [.int .i64 x.id, .int .i64 x.age, .int .i64 x.proc, .int .i64 x.began, .slice Q9 Q11 Q10, .slice Q6 Q8 Q7, .slice x_Ra x_Rn x_Rc, .slice x_Wa x_Wn x_Wc, .slice Q3 Q5 Q4, .int .i64 x.state] 35] w8 [bx b3 [.int .i64 0, .int .i64 0, .int .i64 0, .int .i64 0, .slice none 0 0, .slice none 0 0, .slice none 0 0, .slice none 0 0, .slice none 0 0, .int .i64 0] 35, bx b1 [.int .i64 x.id, .int .i64 x.age, .int .i64 x.proc, .int .i64 x.began, .slice Q9 Q11 Q10, .slice Q6 Q8 Q7, .slice x_Ra x_Rn x_Rc, .slice x_Wa x_Wn x_Wc, .slice Q3 Q5 Q4, .int .i64 x.state] 35] wZ) #[yT, yT, nF, yT, yT, nF, yT, nF, nF, yT, nF, nF, nF, nF, nF, nF, nF, nF, nF, nF] 14 ?_ (fun G186 => ?_)
   · rintro a186 w186 ⟨F186, S186⟩
     refine d_all (rs := [2, 7, 10]) rfl (by kernel_rfl) (by simp) (d_cons (i := 2) (listed' := #[yT, yT, yT, yT, yT, nF, yT, nF, nF, yT, nF, nF, nF, nF, nF, nF, nF, nF, nF, nF]) rfl rfl ?_ (d_cons (i := 7) (listed' := #[yT, yT, nF, yT, yT, nF, yT, yT, nF, yT, nF, nF, nF, nF, nF, nF, nF, nF, nF, nF]) rfl rfl ?_ (d_cons (i := 10) (listed' := #[yT, yT, nF, yT, yT, nF, yT, nF, nF, yT, yT, nF, nF, nF, nF, nF, nF, nF, nF, nF]) rfl rfl ?_ d_nil)))
     · skip
       refine f_call F186 CF_46 rfl rfl rfl rfl (lc (F186.ev 4 rfl) rfl) (slices_Clone_Simpl_Call_impl_Call_c (s := x.calls) (Rd.mv (Nat.succ_pos _) Q24 (S1.trans (T6.trans (S8.trans S186)))) (by first | assumption | omega | (simp <;> omega))) ?_
       rintro _ w187 ⟨Q49, Q86, Q66, rfl, m187⟩
       refine ⟨_, rfl, fun _ F188 => ?_⟩
       have S187 : Mv _ _ [ow 56 6 encK okK (.slice Q49 Q86 Q66) x.calls, bx b3 [.int .i64 0, .int .i64 0, .int .i64 0, .int .i64 0, .slice none 0 0, .slice none 0 0, .slice none 0 0, .slice none 0 0, .slice none 0 0, .int .i64 0] 35, bx b1 [.int .i64 x.id, .int .i64 x.age, .int .i64 x.proc, .int .i64 x.began, .slice Q9 Q11 Q10, .slice Q6 Q8 Q7, .slice x_Ra x_Rn x_Rc, .slice x_Wa x_Wn x_Wc, .slice Q3 Q5 Q4, .int .i64 x.state] 35] _ := At.frame S186.at' [] rfl m187
       obtain ⟨Q166, Q229, Q292⟩ := At.ownInv S187.at' ET_31.hk 0 rfl
       clear m187
       refine ⟨Sd.of (S186.trans S187) [] rfl, ?_⟩
       exact G157 _ _ ⟨Q49, Q86, Q66, F188.cut rfl, (S186.trans S187).pick [0, 1, 2] rfl⟩
     · skip
       refine f_val (v := .slice Q3 Q5 Q4) F186 rfl rfl (r_loadB S186.at' 1 TI_27 rfl rfl (F186.ev 9 rfl) rfl rfl (fun _ => rfl) rfl) rfl fun _ F189 => ?_
       refine ⟨Sd.of S186 [] rfl, ?_⟩
       exact G168 _ _ ⟨F189.cut rfl, S186.pick [0, 1] rfl⟩
     · skip
       refine f_val (v := .agg #[.slice x_Ra x_Rn x_Rc, .slice x_Wa x_Wn x_Wc]) F186 rfl rfl (r_loadB S186.at' 1 TI_33 rfl rfl (F186.ev 12 rfl) rfl rfl (fun h => nomatch h) rfl) rfl fun _ F190 => ?_
       refine ⟨Sd.of S186 [] rfl, ?_⟩
       exact G172 _ _ ⟨F190.cut rfl, S186.pick [0, 1] rfl⟩
   refine x_lem (fun aZ wZ => Fr 20 [(10, .slice Q3 Q5 Q4), (4, .slice Q9 Q11 Q10), (12, .pointer (some ⟨b1, 6, none⟩)), (6, .pointer (some ⟨b1, 5, none⟩)), (2, .pointer (some ⟨b3, 0, none⟩)), (1, .pointer (some ⟨b1, 0, none⟩))] aZ ∧ Mv [bx b3 [.int .i64 0, .int .i64 0, .int .i64 0, .int .i64 0, .slice none 0 0, .slice none 0 0, .slice none 0 0, .slice none 0 0, .slice none 0 0, .int .i64 0] 35, bx b1 [.int .i64 x.id, .int .i64 x.age, .int .i64 x.proc, .int .i64 x.began, .slice Q9 Q11 Q10, .slice Q6 Q8 Q7, .slice x_Ra x_Rn x_Rc, .slice x_Wa x_Wn x_Wc, .slice Q3 Q5 Q4, .int .i64 x.state] 35] w8 [bx b3 [.int .i64 0, .int .i64 0, .int .i64 0, .int .i64 0, .slice none 0 0, .slice none 0 0, .slice none 0 0, .slice none 0 0, .slice none 0 0, .int .i64 0] 35, bx b1 [.int .i64 x.id, .int .i64 x.age, .int .i64 x.proc, .int .i64 x.began, .slice Q9 Q11 Q10, .slice Q6 Q8 Q7, .slice x_Ra x_Rn x_Rc, .slice x_Wa x_Wn x_Wc, .slice Q3 Q5 Q4, .int .i64 x.state] 35] wZ) #[yT, yT, nF, yT, nF, nF, yT, yT, nF, yT, nF, nF, nF, nF, nF, nF, nF, nF, nF, nF] 14 ?_ (fun G191 => ?_)
   · rintro a191 w191 ⟨F191, S191⟩
     refine d_all (rs := [2, 4, 10]) rfl (by kernel_rfl) (by simp) (d_cons (i := 2) (listed' := #[yT, yT, yT, yT, nF, nF, yT, yT, nF, yT, nF, nF, nF, nF, nF, nF, nF, nF, nF, nF]) rfl rfl ?_ (d_cons (i := 4) (listed' := #[yT, yT, nF, yT, yT, nF, yT, yT, nF, yT, nF, nF, nF, nF, nF, nF, nF, nF, nF, nF]) rfl rfl ?_ (d_cons (i := 10) (listed' := #[yT, yT, nF, yT, nF, nF, yT, yT, nF, yT, yT, nF, nF, nF, nF, nF, nF, nF, nF, nF]) rfl rfl ?_ d_nil)))
     · skip
       refine f_call F191 CF_46 rfl rfl rfl rfl (lc (F191.ev 4 rfl) rfl) (slices_Clone_Simpl_Call_impl_Call_c (s := x.calls) (Rd.mv (Nat.succ_pos _) Q24 (S1.trans (T6.trans (S8.trans S191)))) (by first | assumption | omega | (simp <;> omega))) ?_
       rintro _ w192 ⟨Q50, Q87, Q67, rfl, m192⟩
       refine ⟨_, rfl, fun _ F193 => ?_⟩
       have S192 : Mv _ _ [ow 56 6 encK okK (.slice Q50 Q87 Q67) x.calls, bx b3 [.int .i64 0, .int .i64 0, .int .i64 0, .int .i64 0, .slice none 0 0, .slice none 0 0, .slice none 0 0, .slice none 0 0, .slice none 0 0, .int .i64 0] 35, bx b1 [.int .i64 x.id, .int .i64 x.age, .int .i64 x.proc, .int .i64 x.began, .slice Q9 Q11 Q10, .slice Q6 Q8 Q7, .slice x_Ra x_Rn x_Rc, .slice x_Wa x_Wn x_Wc, .slice Q3 Q5 Q4, .int .i64 x.state] 35] _ := At.frame S191.at' [] rfl m192
       obtain ⟨Q167, Q230, Q293⟩ := At.ownInv S192.at' ET_31.hk 0 rfl
       clear m192
       refine ⟨Sd.of (S191.trans S192) [] rfl, ?_⟩
       exact G162 _ _ ⟨Q50, Q87, Q67, F193.cut rfl, (S191.trans S192).pick [0, 1, 2] rfl⟩
     · skip
       refine f_val (v := .slice Q6 Q8 Q7) F191 rfl rfl (r_loadB S191.at' 1 TI_32 rfl rfl (F191.ev 6 rfl) rfl rfl (fun _ => rfl) rfl) rfl fun _ F194 => ?_
       refine ⟨Sd.of S191 [] rfl, ?_⟩
       exact G168 _ _ ⟨F194.cut rfl, S191.pick [0, 1] rfl⟩
     · skip
       refine f_val (v := .agg #[.slice x_Ra x_Rn x_Rc, .slice x_Wa x_Wn x_Wc]) F191 rfl rfl (r_loadB S191.at' 1 TI_33 rfl rfl (F191.ev 12 rfl) rfl rfl (fun h => nomatch h) rfl) rfl fun _ F195 => ?_
       refine ⟨Sd.of S191 [] rfl, ?_⟩
       exact G176 _ _ ⟨F195.cut rfl, S191.pick [0, 1] rfl⟩
   refine x_lem (fun aZ wZ => Fr 20 [(13, .agg #[.slice x_Ra x_Rn x_Rc, .slice x_Wa x_Wn x_Wc]), (4, .slice Q9 Q11 Q10), (9, .pointer (some ⟨b1, 8, none⟩)), (6, .pointer (some ⟨b1, 5, none⟩)), (2, .pointer (some ⟨b3, 0, none⟩)), (1, .pointer (some ⟨b1, 0, none⟩))] aZ ∧ Mv [bx b3 [.int .i64 0, .int .i64 0, .int .i64 0, .int .i64 0, .slice none 0 0, .slice none 0 0, .slice none 0 0, .slice none 0 0, .slice none 0 0, .int .i64 0] 35, bx b1 [.int .i64 x.id, .int .i64 x.age, .int .i64 x.proc, .int .i64 x.began, .slice Q9 Q11 Q10, .slice Q6 Q8 Q7, .slice x_Ra x_Rn x_Rc, .slice x_Wa x_Wn x_Wc, .slice Q3 Q5 Q4, .int .i64 x.state] 35] w8 [bx b3 [.int .i64 0, .int .i64 0, .int .i64 0, .int .i64 0, .slice none 0 0, .slice none 0 0, .slice none 0 0, .slice none 0 0, .slice none 0 0, .int .i64 0] 35, bx b1 [.int .i64 x.id, .int .i64 x.age, .int .i64 x.proc, .int .i64 x.began, .slice Q9 Q11 Q10, .slice Q6 Q8 Q7, .slice x_Ra x_Rn x_Rc, .slice x_Wa x_Wn x_Wc, .slice Q3 Q5 Q4, .int .i64 x.state] 35] wZ) #[yT, yT, nF, yT, nF, nF, yT, nF, nF, yT, yT, nF, nF, nF, nF, nF, nF, nF, nF, nF] 14 ?_ (fun G196 => ?_)
   · rintro a196 w196 ⟨F196, S196⟩
     refine d_all (rs := [2, 4, 7]) rfl (by kernel_rfl) (by simp) (d_cons (i := 2) (listed' := #[yT, yT, yT, yT, nF, nF, yT, nF, nF, yT, yT, nF, nF, nF, nF, nF, nF, nF, nF, nF]) rfl rfl ?_ (d_cons (i := 4) (listed' := #[yT, yT, nF, yT, yT, nF, yT, nF, nF, yT, yT, nF, nF, nF, nF, nF, nF, nF, nF, nF]) rfl rfl ?_ (d_cons (i := 7) (listed' := #[yT, yT, nF, yT, nF, nF, yT, yT, nF, yT, yT, nF, nF, nF, nF, nF, nF, nF, nF, nF]) rfl rfl ?_ d_nil)))
     · skip
       refine f_call F196 CF_46 rfl rfl rfl rfl (lc (F196.ev 4 rfl) rfl) (slices_Clone_Simpl_Call_impl_Call_c (s := x.calls) (Rd.mv (Nat.succ_pos _) Q24 (S1.trans (T6.trans (S8.trans S196)))) (by first | assumption | omega | (simp <;> omega))) ?_
       rintro _ w197 ⟨Q51, Q88, Q68, rfl, m197⟩
       refine ⟨_, rfl, fun _ F198 => ?_⟩
       have S197 : Mv _ _ [ow 56 6 encK okK (.slice Q51 Q88 Q68) x.calls, bx b3 [.int .i64 0, .int .i64 0, .int .i64 0, .int .i64 0, .slice none 0 0, .slice none 0 0, .slice none 0 0, .slice none 0 0, .slice none 0 0, .int .i64 0] 35, bx b1 [.int .i64 x.id, .int .i64 x.age, .int .i64 x.proc, .int .i64 x.began, .slice Q9 Q11 Q10, .slice Q6 Q8 Q7, .slice x_Ra x_Rn x_Rc, .slice x_Wa x_Wn x_Wc, .slice Q3 Q5 Q4, .int .i64 x.state] 35] _ := At.frame S196.at' [] rfl m197
       obtain ⟨Q168, Q231, Q294⟩ := At.ownInv S197.at' ET_31.hk 0 rfl
       clear m197
       refine ⟨Sd.of (S196.trans S197) [] rfl, ?_⟩
       exact G165 _ _ ⟨Q51, Q88, Q68, F198.cut rfl, (S196.trans S197).pick [0, 1, 2] rfl⟩
     · skip
       refine f_val (v := .slice Q6 Q8 Q7) F196 rfl rfl (r_loadB S196.at' 1 TI_32 rfl rfl (F196.ev 6 rfl) rfl rfl (fun _ => rfl) rfl) rfl fun _ F199 => ?_
       refine ⟨Sd.of S196 [] rfl, ?_⟩
       exact G172 _ _ ⟨F199.cut rfl, S196.pick [0, 1] rfl⟩
     · skip
       refine f_val (v := .slice Q3 Q5 Q4) F196 rfl rfl (r_loadB S196.at' 1 TI_27 rfl rfl (F196.ev 9 rfl) rfl rfl (fun _ => rfl) rfl) rfl fun _ F200 => ?_
       refine ⟨Sd.of S196 [] rfl, ?_⟩
       exact G176 _ _ ⟨F200.cut rfl, S196.pick [0, 1] rfl⟩
   refine x_lem (fun aZ wZ => Fr 20 [(10, .slice Q3 Q5 Q4), (7, .slice Q6 Q8 Q7), (12, .pointer (some ⟨b1, 6, none⟩)), (3, .pointer (some ⟨b1, 4, none⟩)), (2, .pointer (some ⟨b3, 0, none⟩)), (1, .pointer (some ⟨b1, 0, none⟩))] aZ ∧ Mv [bx b3 [.int .i64 0, .int .i64 0, .int .i64 0, .int .i64 0, .slice none 0 0, .slice none 0 0, .slice none 0 0, .slice none 0 0, .slice none 0 0, .int .i64 0] 35, bx b1 [.int .i64 x.id, .int .i64 x.age, .int .i64 x.proc, .int .i64 x.began, .slice Q9 Q11 Q10, .slice Q6 Q8 Q7, .slice x_Ra x_Rn x_Rc, .slice x_Wa x_Wn x_Wc, .slice Q3 Q5 Q4, .int .i64 x.state] 35] w8 [bx b3 [.int .i64 0, .int .i64 0, .int .i64 0, .int .i64 0, .slice none 0 0, .slice none 0 0, .slice none 0 0, .slice none 0 0, .slice none 0 0, .int .i64 0] 35, bx b1 [.int .i64 x.id, .int .i64 x.age, .int .i64 x.proc, .int .i64 x.began, .slice Q9 Q11 Q10, .slice Q6 Q8 Q7, .slice x_Ra x_Rn x_Rc, .slice x_Wa x_Wn x_Wc, .slice Q3 Q5 Q4, .int .i64 x.state] 35] wZ) #[yT, nF, nF, yT, yT, nF, yT, yT, nF, yT, nF, nF, nF, nF, nF, nF, nF, nF, nF, nF] 14 ?_ (fun G201 => ?_)
   · rintro a201 w201 ⟨F201, S201⟩
     refine d_all (rs := [1, 10]) rfl (by kernel_rfl) (by simp) (d_cons (i := 1) (listed' := #[yT, yT, nF, yT, yT, nF, yT, yT, nF, yT, nF, nF, nF, nF, nF, nF, nF, nF, nF, nF]) rfl rfl ?_ (d_cons (i := 10) (listed' := #[yT, nF, nF, yT, yT, nF, yT, yT, nF, yT, yT, nF, nF, nF, nF, nF, nF, nF, nF, nF]) rfl rfl ?_ d_nil))
     · skip
       refine f_val (v := .slice Q9 Q11 Q10) F201 rfl rfl (r_loadB S201.at' 1 TI_31 rfl rfl (F201.ev 3 rfl) rfl rfl (fun _ => rfl) rfl) rfl fun _ F202 => ?_
       refine ⟨Sd.of S201 [] rfl, ?_⟩
       exact G168 _ _ ⟨F202.cut rfl, S201.pick [0, 1] rfl⟩
     · skip
       refine f_val (v := .agg #[.slice x_Ra x_Rn x_Rc, .slice x_Wa x_Wn x_Wc]) F201 rfl rfl (r_loadB S201.at' 1 TI_33 rfl rfl (F201.ev 12 rfl) rfl rfl (fun h => nomatch h) rfl) rfl fun _ F203 => ?_
       refine ⟨Sd.of S201 [] rfl, ?_⟩
       exact G180 _ _ ⟨F203.cut rfl, S201.pick [0, 1] rfl⟩
   refine x_lem (fun aZ wZ => Fr 20 [(13, .agg #[.slice x_Ra x_Rn x_Rc, .slice x_Wa x_Wn x_Wc]), (7, .slice Q6 Q8 Q7), (9, .pointer (some ⟨b1, 8, none⟩)), (3, .pointer (some ⟨b1, 4, none⟩)), (2, .pointer (some ⟨b3, 0, none⟩)), (1, .pointer (some ⟨b1, 0, none⟩))] aZ ∧ Mv [bx b3 [.int .i64 0, .int .i64 0, .int .i64 0, .int .i64 0, .slice none 0 0, .slice none 0 0, .slice none 0 0, .slice none 0 0, .slice none 0 0, .int .i64 0] 35, bx b1 [.int .i64 x.id, .int .i64 x.age, .int .i64 x.proc, .int .i64 x.began, .slice Q9 Q11 Q10, .slice Q6 Q8 Q7, .slice x_Ra x_Rn x_Rc, .slice x_Wa x_Wn x_Wc, .slice Q3 Q5 Q4, .int .i64 x.state] 35] w8 [bx b3 [.int .i64 0, .int .i64 0, .int .i64 0, .int .i64 0, .slice none 0 0, .slice none 0 0, .slice none 0 0, .slice none 0 0, .slice none 0 0, .int .i64 0] 35, bx b1 [.int .i64 x.id, .int .i64 x.age, .int .i64 x.proc, .int .i64 x.began, .slice Q9 Q11 Q10, .slice Q6 Q8 Q7, .slice x_Ra x_Rn x_Rc, .slice x_Wa x_Wn x_Wc, .slice Q3 Q5 Q4, .int .i64 x.state] 35] wZ) #[yT, nF, nF, yT, yT, nF, yT, nF, nF, yT, yT, nF, nF, nF, nF, nF, nF, nF, nF, nF] 14 ?_ (fun G204 => ?_)
   · rintro a204 w204 ⟨F204, S204⟩
     refine d_all (rs := [1, 7]) rfl (by kernel_rfl) (by simp) (d_cons (i := 1) (listed' := #[yT, yT, nF, yT, yT, nF, yT, nF, nF, yT, yT, nF, nF, nF, nF, nF, nF, nF, nF, nF]) rfl rfl ?_ (d_cons (i := 7) (listed' := #[yT, nF, nF, yT, yT, nF, yT, yT, nF, yT, yT, nF, nF, nF, nF, nF, nF, nF, nF, nF]) rfl rfl ?_ d_nil))
     · skip
       refine f_val (v := .slice Q9 Q11 Q10) F204 rfl rfl (r_loadB S204.at' 1 TI_31 rfl rfl (F204.ev 3 rfl) rfl rfl (fun _ => rfl) rfl) rfl fun _ F205 => ?_
       refine ⟨Sd.of S204 [] rfl, ?_⟩
       exact G172 _ _ ⟨F205.cut rfl, S204.pick [0, 1] rfl⟩
     · skip
       refine f_val (v := .slice Q3 Q5 Q4) F204 rfl rfl (r_loadB S204.at' 1 TI_27 rfl rfl (F204.ev 9 rfl) rfl rfl (fun _ => rfl) rfl) rfl fun _ F206 => ?_
       refine ⟨Sd.of S204 [] rfl, ?_⟩
       exact G180 _ _ ⟨F206.cut rfl, S204.pick [0, 1] rfl⟩
   refine x_lem (fun aZ wZ => Fr 20 [(13, .agg #[.slice x_Ra x_Rn x_Rc, .slice x_Wa x_Wn x_Wc]), (10, .slice Q3 Q5 Q4), (6, .pointer (some ⟨b1, 5, none⟩)), (3, .pointer (some ⟨b1, 4, none⟩)), (2, .pointer (some ⟨b3, 0, none⟩)), (1, .pointer (some ⟨b1, 0, none⟩))] aZ ∧ Mv [bx b3 [.int .i64 0, .int .i64 0, .int .i64 0, .int .i64 0, .slice none 0 0, .slice none 0 0, .slice none 0 0, .slice none 0 0, .slice none 0 0, .int .i64 0] 35, bx b1 [.int .i64 x.id, .int .i64 x.age, .int .i64 x.proc, .int .i64 x.began, .slice Q9 Q11 Q10, .slice Q6 Q8 Q7, .slice x_Ra x_Rn x_Rc, .slice x_Wa x_Wn x_Wc, .slice Q3 Q5 Q4, .int .i64 x.state] 35] w8 [bx b3 [.int .i64 0, .int .i64 0, .int .i64 0, .int .i64 0, .slice none 0 0, .slice none 0 0, .slice none 0 0, .slice none 0 0, .slice none 0 0, .int .i64 0] 35, bx b1 [.int .i64 x.id, .int .i64 x.age, .int .i64 x.proc, .int .i64 x.began, .slice Q9 Q11 Q10, .slice Q6 Q8 Q7, .slice x_Ra x_Rn x_Rc, .slice x_Wa x_Wn x_Wc, .slice Q3 Q5 Q4, .int .i64 x.state] 35] wZ) #[yT, nF, nF, yT, nF, nF, yT, yT, nF, yT, yT, nF, nF, nF, nF, nF, nF, nF, nF, nF] 14 ?_ (fun G207 => ?_)
   · rintro a207 w207 ⟨F207, S207⟩
     refine d_all (rs := [1, 4]) rfl (by kernel_rfl) (by simp) (d_cons (i := 1) (listed' := #[yT, yT, nF, yT, nF, nF, yT, yT, nF, yT, yT, nF, nF, nF, nF, nF, nF, nF, nF, nF]) rfl rfl ?_ (d_cons (i := 4) (listed' := #[yT, nF, nF, yT, yT, nF, yT, yT, nF, yT, yT, nF, nF, nF, nF, nF, nF, nF, nF, nF]) rfl rfl ?_ d_nil))
     · skip
       refine f_val (v := .slice Q9 Q11 Q10) F207 rfl rfl (r_loadB S207.at' 1 TI_31 rfl rfl (F207.ev 3 rfl) rfl rfl (fun _ => rfl) rfl) rfl fun _ F208 => ?_
       refine ⟨Sd.of S207 [] rfl, ?_⟩
       exact G176 _ _ ⟨F208.cut rfl, S207.pick [0, 1] rfl⟩
     · skip
       refine f_val (v := .slice Q6 Q8 Q7) F207 rfl rfl (r_loadB S207.at' 1 TI_32 rfl rfl (F207.ev 6 rfl) rfl rfl (fun _ => rfl) rfl) rfl fun _ F209 => ?_
       refine ⟨Sd.of S207 [] rfl, ?_⟩
       exact G180 _ _ ⟨F209.cut rfl, S207.pick [0, 1] rfl⟩
   refine x_lem (fun aZ wZ => Fr 20 [(4, .slice Q9 Q11 Q10), (12, .pointer (some ⟨b1, 6, none⟩)), (9, .pointer (some ⟨b1, 8, none⟩)), (6, .pointer (some ⟨b1, 5, none⟩)), (2, .pointer (some ⟨b3, 0, none⟩)), (1, .pointer (some ⟨b1, 0, none⟩))] aZ ∧ Mv [bx b3 [.int .i64 0, .int .i64 0, .int .i64 0, .int .i64 0, .slice none 0 0, .slice none 0 0, .slice none 0 0, .slice none 0 0, .slice none 0 0, .int .i64 0] 35, bx b1 [.int .i64 x.id, .int .i64 x.age, .int .i64 x.proc, .int .i64 x.began, .slice Q9 Q11 Q10, .slice Q6 Q8 Q7, .slice x_Ra x_Rn x_Rc, .slice x_Wa x_Wn x_Wc, .slice Q3 Q5 Q4, .int .i64 x.state] 35] w8 [bx b3 [.int .i64 0, .int .i64 0, .int .i64 0, .int .i64 0, .slice none 0 0, .slice none 0 0, .slice none 0 0, .slice none 0 0, .slice none 0 0, .int .i64 0] 35, bx b1 [.int .i64 x.id, .int .i64 x.age, .int .i64 x.proc, .int .i64 x.began, .slice Q9 Q11 Q10, .slice Q6 Q8 Q7, .slice x_Ra x_Rn x_Rc, .slice x_Wa x_Wn x_Wc, .slice Q3 Q5 Q4, .int .i64 x.state] 35] wZ) #[yT, yT, nF, yT, nF, nF, yT, nF, nF, yT, nF, nF, nF, nF, nF, nF, nF, nF, nF, nF] 15 ?_ (fun G210 => ?_)
   · rintro a210 w210 ⟨F210, S210⟩
     refine d_all (rs := [2, 4, 7, 10]) rfl (by kernel_rfl) (by simp) (d_cons (i := 2) (listed' := #[yT, yT, yT, yT, nF, nF, yT, nF, nF, yT, nF, nF, nF, nF, nF, nF, nF, nF, nF, nF]) rfl rfl ?_ (d_cons (i := 4) (listed' := #[yT, yT, nF, yT, yT, nF, yT, nF, nF, yT, nF, nF, nF, nF, nF, nF, nF, nF, nF, nF]) rfl rfl ?_ (d_cons (i := 7) (listed' := #[yT, yT, nF, yT, nF, nF, yT, yT, nF, yT, nF, nF, nF, nF, nF, nF, nF, nF, nF, nF]) rfl rfl ?_ (d_cons (i := 10) (listed' := #[yT, yT, nF, yT, nF, nF, yT, nF, nF, yT, yT, nF, nF, nF, nF, nF, nF, nF, nF, nF]) rfl rfl ?_ d_nil))))
     · skip
       refine f_call F210 CF_46 rfl rfl rfl rfl (lc (F210.ev 4 rfl) rfl) (slices_Clone_Simpl_Call_impl_Call_c (s := x.calls) (Rd.mv (Nat.succ_pos _) Q24 (S1.trans (T6.trans (S8.trans S210)))) (by first | assumption | omega | (simp <;> omega))) ?_
       rintro _ w211 ⟨Q52, Q89, Q69, rfl, m211⟩
       refine ⟨_, rfl, fun _ F212 => ?_⟩
       have S211 : Mv _ _ [ow 56 6 encK okK (.slice Q52 Q89 Q69) x.calls, bx b3 [.int .i64 0, .int .i64 0, .int .i64 0, .int .i64 0, .slice none 0 0, .slice none 0 0, .slice none 0 0, .slice none 0 0, .slice none 0 0, .int .i64 0] 35, bx b1 [.int .i64 x.id, .int .i64 x.age, .int .i64 x.proc, .int .i64 x.began, .slice Q9 Q11 Q10, .slice Q6 Q8 Q7, .slice x_Ra x_Rn x_Rc, .slice x_Wa x_Wn x_Wc, .slice Q3 Q5 Q4, .int .i64 x.state] 35] _ := At.frame S210.at' [] rfl m211
       obtain ⟨Q169, Q232, Q295⟩ := At.ownInv S211.at' ET_31.hk 0 rfl
       clear m211
       refine ⟨Sd.of (S210.trans S211) [] rfl, ?_⟩
       exact G182 _ _ ⟨Q52, Q89, Q69, F212.cut rfl, (S210.trans S211).pick [0, 1, 2] rfl⟩
     · skip
       refine f_val (v := .slice Q6 Q8 Q7) F210 rfl rfl (r_loadB S210.at' 1 TI_32 rfl rfl (F210.ev 6 rfl) rfl rfl (fun _ => rfl) rfl) rfl fun _ F213 => ?_
       refine ⟨Sd.of S210 [] rfl, ?_⟩
       exact G186 _ _ ⟨F213.cut rfl, S210.pick [0, 1] rfl⟩
     · skip
       refine f_val (v := .slice Q3 Q5 Q4) F210 rfl rfl (r_loadB S210.at' 1 TI_27 rfl rfl (F210.ev 9 rfl) rfl rfl (fun _ => rfl) rfl) rfl fun _ F214 => ?_
       refine ⟨Sd.of S210 [] rfl, ?_⟩
       exact G191 _ _ ⟨F214.cut rfl, S210.pick [0, 1] rfl⟩
     · skip
       refine f_val (v := .agg #[.slice x_Ra x_Rn x_Rc, .slice x_Wa x_Wn x_Wc]) F210 rfl rfl (r_loadB S210.at' 1 TI_33 rfl rfl (F210.ev 12 rfl) rfl rfl (fun h => nomatch h) rfl) rfl fun _ F215 => ?_
       refine ⟨Sd.of S210 [] rfl, ?_⟩
       exact G196 _ _ ⟨F215.cut rfl, S210.pick [0, 1] rfl⟩
   refine x_lem (fun aZ wZ => Fr 20 [(7, .slice Q6 Q8 Q7), (12, .pointer (some ⟨b1, 6, none⟩)), (9, .pointer (some ⟨b1, 8, none⟩)), (3, .pointer (some ⟨b1, 4, none⟩)), (2, .pointer (some ⟨b3, 0, none⟩)), (1, .pointer (some ⟨b1, 0, none⟩))] aZ ∧ Mv [bx b3 [.int .i64 0, .int .i64 0, .int .i64 0, .int .i64 0, .slice none 0 0, .slice none 0 0, .slice none 0 0, .slice none 0 0, .slice none 0 0, .int .i64 0] 35, bx b1 [.int .i64 x.id, .int .i64 x.age, .int .i64 x.proc, .int .i64 x.began, .slice Q9 Q11 Q10, .slice Q6 Q8 Q7, .slice x_Ra x_Rn x_Rc, .slice x_Wa x_Wn x_Wc, .slice Q3 Q5 Q4, .int .i64 x.state] 35] w8 [bx b3 [.int .i64 0, .int .i64 0, .int .i64 0, .int .i64 0, .slice none 0 0, .slice none 0 0, .slice none 0 0, .slice none 0 0, .slice none 0 0, .int .i64 0] 35, bx b1 [.int .i64 x.id, .int .i64 x.age, .int .i64 x.proc, .int .i64 x.began, .slice Q9 Q11 Q10, .slice Q6 Q8 Q7, .slice x_Ra x_Rn x_Rc, .slice x_Wa x_Wn x_Wc, .slice Q3 Q5 Q4, .int .i64 x.state] 35] wZ) #[yT, nF, nF, yT, yT, nF, yT, nF, nF, yT, nF, nF, nF, nF, nF, nF, nF, nF, nF, nF] 15 ?_ (fun G216 => ?_)
   · rintro a216 w216 ⟨F216, S216⟩
     refine d_all (rs := [1, 7, 10]) rfl (by kernel_rfl) (by simp) (d_cons (i := 1) (listed' := #[yT, yT, nF, yT, yT, nF, yT, nF, nF, yT, nF, nF, nF, nF, nF, nF, nF, nF, nF, nF]) rfl rfl ?_ (d_cons (i := 7) (listed' := #[yT, nF, nF, yT, yT, nF, yT, yT, nF, yT, nF, nF, nF, nF, nF, nF, nF, nF, nF, nF]) rfl rfl ?_ (d_cons (i := 10) (listed' := #[yT, nF, nF, yT, yT, nF, yT, nF, nF, yT, yT, nF, nF, nF, nF, nF, nF, nF, nF, nF]) rfl rfl ?_ d_nil)))
     · skip
       refine f_val (v := .slice Q9 Q11 Q10) F216 rfl rfl (r_loadB S216.at' 1 TI_31 rfl rfl (F216.ev 3 rfl) rfl rfl (fun _ => rfl) rfl) rfl fun _ F217 => ?_
       refine ⟨Sd.of S216 [] rfl, ?_⟩
       exact G186 _ _ ⟨F217.cut rfl, S216.pick [0, 1] rfl⟩
     · skip
       refine f_val (v := .slice Q3 Q5 Q4) F216 rfl rfl (r_loadB S216.at' 1 TI_27 rfl rfl (F216.ev 9 rfl) rfl rfl (fun _ => rfl) rfl) rfl fun _ F218 => ?_
       refine ⟨Sd.of S216 [] rfl, ?_⟩
       exact G201 _ _ ⟨F218.cut rfl, S216.pick [0, 1] rfl⟩
     · skip
       refine f_val (v := .agg #[.slice x_Ra x_Rn x_Rc, .slice x_Wa x_Wn x_Wc]) F216 rfl rfl (r_loadB S216.at' 1 TI_33 rfl rfl (F216.ev 12 rfl) rfl rfl (fun h => nomatch h) rfl) rfl fun _ F219 => ?_
       refine ⟨Sd.of S216 [] rfl, ?_⟩
       exact G204 _ _ ⟨F219.cut rfl, S216.pick [0, 1] rfl⟩
   refine x_lem (fun aZ wZ => Fr 20 [(10, .slice Q3 Q5 Q4), (12, .pointer (some ⟨b1, 6, none⟩)), (6, .pointer (some ⟨b1, 5, none⟩)), (3, .pointer (some ⟨b1, 4, none⟩)), (2, .pointer (some ⟨b3, 0, none⟩)), (1, .pointer (some ⟨b1, 0, none⟩))] aZ ∧ Mv [bx b3 [.int .i64 0, .int .i64 0, .int .i64 0, .int .i64 0, .slice none 0 0, .slice none 0 0, .slice none 0 0, .slice none 0 0, .slice none 0 0, .int .i64 0] 35, bx b1 [.int .i64 x.id, .int .i64 x.age, .int .i64 x.proc, .int .i64 x.began, .slice Q9 Q11 Q10, .slice Q6 Q8 Q7, .slice x_Ra x_Rn x_Rc, .slice x_Wa x_Wn x_Wc, .slice Q3 Q5 Q4, .int .i64 x.state] 35] w8 [bx b3 [.int .i64 0, .int .i64 0, .int .i64 0, .int .i64 0, .slice none 0 0, .slice none 0 0, .slice none 0 0, .slice none 0 0, .slice none 0 0, .int .i64 0] 35, bx b1 [.int .i64 x.id, .int .i64 x.age, .int .i64 x.proc, .int .i64 x.began, .slice Q9 Q11 Q10, .slice Q6 Q8 Q7, .slice x_Ra x_Rn x_Rc, .slice x_Wa x_Wn x_Wc, .slice Q3 Q5 Q4, .int .i64 x.state] 35] wZ) #[yT, nF, nF, yT, nF, nF, yT, yT, nF, yT, nF, nF, nF, nF, nF, nF, nF, nF, nF, nF] 15 ?_ (fun G220 => ?_)
   · rintro a220 w220 ⟨F220, S220⟩
     refine d_all (rs := [1, 4, 10]) rfl (by kernel_rfl) (by simp) (d_cons (i := 1) (listed' := #[yT, yT, nF, yT, nF, nF, yT, yT, nF, yT, nF, nF, nF, nF, nF, nF, nF, nF, nF, nF]) rfl rfl ?_ (d_cons (i := 4) (listed' := #[yT, nF, nF, yT, yT, nF, yT, yT, nF, yT, nF, nF, nF, nF, nF, nF, nF, nF, nF, nF]) rfl rfl ?_ (d_cons (i := 10) (listed' := #[yT, nF, nF, yT, nF, nF, yT, yT, nF, yT, yT, nF, nF, nF, nF, nF, nF, nF, nF, nF]) rfl rfl ?_ d_nil)))
     · skip
       refine f_val (v := .slice Q9 Q11 Q10) F220 rfl rfl (r_loadB S220.at' 1 TI_31 rfl rfl (F220.ev 3 rfl) rfl rfl (fun _ => rfl) rfl) rfl fun _ F221 => ?_
       refine ⟨Sd.of S220 [] rfl, ?_⟩
       exact G191 _ _ ⟨F221.cut rfl, S220.pick [0, 1] rfl⟩
     · skip
       refine f_val (v := .slice Q6 Q8 Q7) F220 rfl rfl (r_loadB S220.at' 1 TI_32 rfl rfl (F220.ev 6 rfl) rfl rfl (fun _ => rfl) rfl) rfl fun _ F222 => ?_
       refine ⟨Sd.of S220 [] rfl, ?_⟩
       exact G201 _ _ ⟨F222.cut rfl, S220.pick [0, 1] rfl⟩
     · skip
       refine f_val (v := .agg #[.slice x_Ra x_Rn x_Rc, .slice x_Wa x_Wn x_Wc]) F220 rfl rfl (r_loadB S220.at' 1 TI_33 rfl rfl (F220.ev 12 rfl) rfl rfl (fun h => nomatch h) rfl) rfl fun _ F223 => ?_
       refine ⟨Sd.of S220 [] rfl, ?_⟩
       exact G207 _ _ ⟨F223.cut rfl, S220.pick [0, 1] rfl⟩
   refine x_lem (fun aZ wZ => Fr 20 [(13, .agg #[.slice x_Ra x_Rn x_Rc, .slice x_Wa x_Wn x_Wc]), (9, .pointer (some ⟨b1, 8, none⟩)), (6, .pointer (some ⟨b1, 5, none⟩)), (3, .pointer (some ⟨b1, 4, none⟩)), (2, .pointer (some ⟨b3, 0, none⟩)), (1, .pointer (some ⟨b1, 0, none⟩))] aZ ∧ Mv [bx b3 [.int .i64 0, .int .i64 0, .int .i64 0, .int .i64 0, .slice none 0 0, .slice none 0 0, .slice none 0 0, .slice none 0 0, .slice none 0 0, .int .i64 0] 35, bx b1 [.int .i64 x.id, .int .i64 x.age, .int .i64 x.proc, .int .i64 x.began, .slice Q9 Q11 Q10, .slice Q6 Q8 Q7, .slice x_Ra x_Rn x_Rc, .slice x_Wa x_Wn x_Wc, .slice Q3 Q5 Q4, .int .i64 x.state] 35] w8 [bx b3 [.int .i64 0, .int .i64 0, .int .i64 0, .int .i64 0, .slice none 0 0, .slice none 0 0, .slice none 0 0, .slice none 0 0, .slice none 0 0, .int .i64 0] 35, bx b1 [.int .i64 x.id, .int .i64 x.age, .int .i64 x.proc, .int .i64 x.began, .slice Q9 Q11 Q10, .slice Q6 Q8 Q7, .slice x_Ra x_Rn x_Rc, .slice x_Wa x_Wn x_Wc, .slice Q3 Q5 Q4, .int .i64 x.state] 35] wZ) #[yT, nF, nF, yT, nF, nF, yT, nF, nF, yT, yT, nF, nF, nF, nF, nF, nF, nF, nF, nF] 15 ?_ (fun G224 => ?_)
   · rintro a224 w224 ⟨F224, S224⟩
     refine d_all (rs := [1, 4, 7]) rfl (by kernel_rfl) (by simp) (d_cons (i := 1) (listed' := #[yT, yT, nF, yT, nF, nF, yT, nF, nF, yT, yT, nF, nF, nF, nF, nF, nF, nF, nF, nF]) rfl rfl ?_ (d_cons (i := 4) (listed' := #[yT, nF, nF, yT, yT, nF, yT, nF, nF, yT, yT, nF, nF, nF, nF, nF, nF, nF, nF, nF]) rfl rfl ?_ (d_cons (i := 7) (listed' := #[yT, nF, nF, yT, nF, nF, yT, yT, nF, yT, yT, nF, nF, nF, nF, nF, nF, nF, nF, nF]) rfl rfl ?_ d_nil)))
     · skip
       refine f_val (v := .slice Q9 Q11 Q10) F224 rfl rfl (r_loadB S224.at' 1 TI_31 rfl rfl (F224.ev 3 rfl) rfl rfl (fun _ => rfl) rfl) rfl fun _ F225 => ?_
       refine ⟨Sd.of S224 [] rfl, ?_⟩
       exact G196 _ _ ⟨F225.cut rfl, S224.pick [0, 1] rfl⟩
     · skip
       refine f_val (v := .slice Q6 Q8 Q7) F224 rfl rfl (r_loadB S224.at' 1 TI_32 rfl rfl (F224.ev 6 rfl) rfl rfl (fun _ => rfl) rfl) rfl fun _ F226 => ?_
       refine ⟨Sd.of S224 [] rfl, ?_⟩
       exact G204 _ _ ⟨F226.cut rfl, S224.pick [0, 1] rfl⟩
     · skip
       refine f_val (v := .slice Q3 Q5 Q4) F224 rfl rfl (r_loadB S224.at' 1 TI_27 rfl rfl (F224.ev 9 rfl) rfl rfl (fun _ => rfl) rfl) rfl fun _ F227 => ?_
       refine ⟨Sd.of S224 [] rfl, ?_⟩
       exact G207 _ _ ⟨F227.cut rfl, S224.pick [0, 1] rfl⟩
   refine x_lem (fun aZ wZ => Fr 20 [(12, .pointer (some ⟨b1, 6, none⟩)), (9, .pointer (some ⟨b1, 8, none⟩)), (6, .pointer (some ⟨b1, 5, none⟩)), (3, .pointer (some ⟨b1, 4, none⟩)), (2, .pointer (some ⟨b3, 0, none⟩)), (1, .pointer (some ⟨b1, 0, none⟩))] aZ ∧ Mv [bx b3 [.int .i64 0, .int .i64 0, .int .i64 0, .int .i64 0, .slice none 0 0, .slice none 0 0, .slice none 0 0, .slice none 0 0, .slice none 0 0, .int .i64 0] 35, bx b1 [.int .i64 x.id, .int .i64 x.age, .int .i64 x.proc, .int .i64 x.began, .slice Q9 Q11 Q10, .slice Q6 Q8 Q7, .slice x_Ra x_Rn x_Rc, .slice x_Wa x_Wn x_Wc, .slice Q3 Q5 Q4, .int .i64 x.state] 35] w8 [bx b3 [.int .i64 0, .int .i64 0, .int .i64 0, .int .i64 0, .slice none 0 0, .slice none 0 0, .slice none 0 0, .slice none 0 0, .slice none 0 0, .int .i64 0] 35, bx b1 [.int .i64 x.id, .int .i64 x.age, .int .i64 x.proc, .int .i64 x.began, .slice Q9 Q11 Q10, .slice Q6 Q8 Q7, .slice x_Ra x_Rn x_Rc, .slice x_Wa x_Wn x_Wc, .slice Q3 Q5 Q4, .int .i64 x.state] 35] wZ) #[yT, nF, nF, yT, nF, nF, yT, nF, nF, yT, nF, nF, nF, nF, nF, nF, nF, nF, nF, nF] 16 ?_ (fun G228 => ?_)
   · rintro a228 w228 ⟨F228, S228⟩
     refine d_all (rs := [1, 4, 7, 10]) rfl (by kernel_rfl) (by simp) (d_cons (i := 1) (listed' := #[yT, yT, nF, yT, nF, nF, yT, nF, nF, yT, nF, nF, nF, nF, nF, nF, nF, nF, nF, nF]) rfl rfl ?_ (d_cons (i := 4) (listed' := #[yT, nF, nF, yT, yT, nF, yT, nF, nF, yT, nF, nF, nF, nF, nF, nF, nF, nF, nF, nF]) rfl rfl ?_ (d_cons (i := 7) (listed' := #[yT, nF, nF, yT, nF, nF, yT, yT, nF, yT, nF, nF, nF, nF, nF, nF, nF, nF, nF, nF]) rfl rfl ?_ (d_cons (i := 10) (listed' := #[yT, nF, nF, yT, nF, nF, yT, nF, nF, yT, yT, nF, nF, nF, nF, nF, nF, nF, nF, nF]) rfl rfl ?_ d_nil))))
     · skip
       refine f_val (v := .slice Q9 Q11 Q10) F228 rfl rfl (r_loadB S228.at' 1 TI_31 rfl rfl (F228.ev 3 rfl) rfl rfl (fun _ => rfl) rfl) rfl fun _ F229 => ?_
       refine ⟨Sd.of S228 [] rfl, ?_⟩
       exact G210 _ _ ⟨F229.cut rfl, S228.pick [0, 1] rfl⟩
     · skip
       refine f_val (v := .slice Q6 Q8 Q7) F228 rfl rfl (r_loadB S228.at' 1 TI_32 rfl rfl (F228.ev 6 rfl) rfl rfl (fun _ => rfl) rfl) rfl fun _ F230 => ?_
       refine ⟨Sd.of S228 [] rfl, ?_⟩
       exact G216 _ _ ⟨F230.cut rfl, S228.pick [0, 1] rfl⟩
     · skip
       refine f_val (v := .slice Q3 Q5 Q4) F228 rfl rfl (r_loadB S228.at' 1 TI_27 rfl rfl (F228.ev 9 rfl) rfl rfl (fun _ => rfl) rfl) rfl fun _ F231 => ?_
       refine ⟨Sd.of S228 [] rfl, ?_⟩
       exact G220 _ _ ⟨F231.cut rfl, S228.pick [0, 1] rfl⟩
     · skip
       refine f_val (v := .agg #[.slice x_Ra x_Rn x_Rc, .slice x_Wa x_Wn x_Wc]) F228 rfl rfl (r_loadB S228.at' 1 TI_33 rfl rfl (F228.ev 12 rfl) rfl rfl (fun h => nomatch h) rfl) rfl fun _ F232 => ?_
       refine ⟨Sd.of S228 [] rfl, ?_⟩
       exact G224 _ _ ⟨F232.cut rfl, S228.pick [0, 1] rfl⟩
   refine g_take F5 rfl (i := 0) (listed' := #[yT, nF, nF, nF, nF, nF, nF, nF, nF, nF, nF, nF, nF, nF, nF, nF, nF, nF, nF, nF]) rfl (by kernel_rfl) (by kernel_rfl) (by kernel_rfl) (fun _ _ _ h => h) (Sd.of (Mv.refl S8.at') [] rfl) rfl rfl rfl rfl (fun _ hz => (r_field FI_35_4 rfl (F5.ev 1 rfl) rfl)) fun _ F233 => ?_
   refine g_take F233 rfl (i := 3) (listed' := #[yT, nF, nF, yT, nF, nF, nF, nF, nF, nF, nF, nF, nF, nF, nF, nF, nF, nF, nF, nF]) rfl (by kernel_rfl) (by kernel_rfl) (by kernel_rfl) (fun _ _ _ h => h) (Sd.of (Mv.refl S8.at') [] rfl) rfl rfl rfl rfl (fun _ hz => (r_field FI_35_5 rfl (F233.ev 1 rfl) rfl)) fun _ F234 => ?_
   refine g_take F234 rfl (i := 6) (listed' := #[yT, nF, nF, yT, nF, nF, yT, nF, nF, nF, nF, nF, nF, nF, nF, nF, nF, nF, nF, nF]) rfl (by kernel_rfl) (by kernel_rfl) (by kernel_rfl) (fun _ _ _ h => h) (Sd.of (Mv.refl S8.at') [] rfl) rfl rfl rfl rfl (fun _ hz => (r_field FI_35_7 rfl (F234.ev 1 rfl) rfl)) fun _ F235 => ?_
   refine g_take F235 rfl (i := 9) (listed' := #[yT, nF, nF, yT, nF, nF, yT, nF, nF, yT, nF, nF, nF, nF, nF, nF, nF, nF, nF, nF]) rfl (by kernel_rfl) (by kernel_rfl) (by kernel_rfl) (fun _ _ _ h => h) (Sd.of (Mv.refl S8.at') [] rfl) rfl rfl rfl rfl (fun _ hz => (r_field FI_35_6 rfl (F235.ev 1 rfl) rfl)) fun _ F236 => ?_
   exact G228 _ _ ⟨F236.cut rfl, (Mv.refl S8.at').pick [0, 1] rfl⟩
 · rintro a237 w237 ⟨Q0, Q2, Q1, Q12, Q14, Q13, Q15, Q17, Q16, Q18, Q20, Q19, Q21, Q23, Q22, F237, S237⟩
   obtain ⟨Q170, Q233, Q296⟩ := At.ownInv S237.at' ET_31.hk 2 rfl
   obtain ⟨Q171, Q234, Q297⟩ := At.ownInv S237.at' ET_32.hk 3 rfl
   obtain ⟨Q172, Q235, Q298⟩ := At.ownInv S237.at' ET_27.hk 4 rfl
   obtain ⟨Q173, Q236, Q299⟩ := At.ownInv S237.at' ET_24.hk 5 rfl
   obtain ⟨Q174, Q237, Q300⟩ := At.ownInv S237.at' ET_24.hk 6 rfl
   refine x_normal (wp_seq (wp_region_lit (l_op (f_val (v := .agg #[.int .i64 x.id, .int .i64 x.age, .int .i64 x.proc, .int .i64 x.began, .slice Q0 Q2 Q1, .slice Q12 Q14 Q13, .slice Q18 Q20 Q19, .slice Q21 Q23 Q22, .slice Q15 Q17 Q16, .int .i64 x.state]) F237 rfl rfl (r_loadB S237.at' 1 TI_35 rfl rfl (F237.ev 1 rfl) rfl rfl (fun h => nomatch h) rfl) rfl fun _ F238 => ?_))))
   refine l_op (s_store S237.at' 0 TI_35 rfl rfl rfl rfl rfl (F238.ev 2 rfl) (F238.ev 19 rfl) rfl rfl rfl rfl rfl fun w239 S239 => ?_)
   have F240 : Fr 20 [(19, .agg #[.int .i64 x.id, .int .i64 x.age, .int .i64 x.proc, .int .i64 x.began, .slice Q0 Q2 Q1, .slice Q12 Q14 Q13, .slice Q18 Q20 Q19, .slice Q21 Q23 Q22, .slice Q15 Q17 Q16, .int .i64 x.state]), (2, .pointer (some ⟨b3, 0, none⟩))] _ := F238.cut rfl
   clear F237 F238
   have T241 : Mv _ _ [bx b3 [.int .i64 x.id, .int .i64 x.age, .int .i64 x.proc, .int .i64 x.began, .slice Q0 Q2 Q1, .slice Q12 Q14 Q13, .slice Q18 Q20 Q19, .slice Q21 Q23 Q22, .slice Q15 Q17 Q16, .int .i64 x.state] 35, bx b1 [.int .i64 x.id, .int .i64 x.age, .int .i64 x.proc, .int .i64 x.began, .slice Q0 Q2 Q1, .slice Q12 Q14 Q13, .slice Q18 Q20 Q19, .slice Q21 Q23 Q22, .slice Q15 Q17 Q16, .int .i64 x.state] 35, ow 56 6 encK okK (.slice Q0 Q2 Q1) x.calls, ow 59 3 encR okR (.slice Q12 Q14 Q13) x.answers, ow 3 1 encI okI (.slice Q15 Q17 Q16) x.marks, ow 9 1 encS okS (.slice Q18 Q20 Q19) x.touch.reads, ow 9 1 encS okS (.slice Q21 Q23 Q22) x.touch.writes] _ := S239
   refine s_end (x_normal (wp_ret ?_))
   refine x_done (v := .agg #[.int .i64 x.id, .int .i64 x.age, .int .i64 x.proc, .int .i64 x.began, .slice Q0 Q2 Q1, .slice Q12 Q14 Q13, .slice Q18 Q20 Q19, .slice Q21 Q23 Q22, .slice Q15 Q17 Q16, .int .i64 x.state]) F240 (results_1 Try.results22 (.cell (F240.ev 2 rfl) (run_loadVar' TI_35 _ [.int .i64 x.id, .int .i64 x.age, .int .i64 x.proc, .int .i64 x.began, .slice Q0 Q2 Q1, .slice Q12 Q14 Q13, .slice Q18 Q20 Q19, .slice Q21 Q23 Q22, .slice Q15 Q17 Q16, .int .i64 x.state] rfl (fun h => nomatch h) (At.cells T241.at' 0 rfl 0 [.int .i64 x.id, .int .i64 x.age, .int .i64 x.proc, .int .i64 x.began, .slice Q0 Q2 Q1, .slice Q12 Q14 Q13, .slice Q18 Q20 Q19, .slice Q21 Q23 Q22, .slice Q15 Q17 Q16, .int .i64 x.state] rfl)))) ?_
   exact ⟨Q0, Q2, Q1, Q12, Q14, Q13, Q18, Q20, Q19, Q21, Q23, Q22, Q15, Q17, Q16, rfl, (Mv.pick (S1.trans (T6.trans (S237.trans T241))) [2, 3, 5, 6, 4] rfl)⟩
end Go.Proofs.Ytkebmooffbkpgaa
