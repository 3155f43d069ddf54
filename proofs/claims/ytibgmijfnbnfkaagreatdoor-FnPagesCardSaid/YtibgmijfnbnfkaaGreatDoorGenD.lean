/-
  Walks: machines are looked at.
-/
import Derived.Test.YtibgmijfnbnfkaaGreatDoorGenC
namespace Go.Proofs.YtibgmijfnbnfkaaGreatDoor
open Go.ChangeShapes Go.WideShapes Go.ChangeAt Go.RowKit
set_option maxRecDepth 100000
set_option maxHeartbeats 1000000
theorem spec_JoinTouch_c {w : World} {H : Nat → Prop} {a : TouchD} {a_Ra : Option Addr} {a_Rn a_Rc : Nat} {a_Wa : Option Addr} {a_Wn a_Wc : Nat} {b : TouchD} {b_Ra : Option Addr} {b_Rn b_Rc : Nat} {b_Wa : Option Addr} {b_Wn b_Wc : Nat} (Q16 : Rd 1 encS okS H w (.slice a_Ra a_Rn a_Rc) a.reads) (Q17 : Rd 1 encS okS H w (.slice a_Wa a_Wn a_Wc) a.writes) (Q18 : Rd 1 encS okS H w (.slice b_Ra b_Rn b_Rc) b.reads) (Q19 : Rd 1 encS okS H w (.slice b_Wa b_Wn b_Wc) b.writes) (p0 : a.reads.length ≤ 274877906944) (p1 : a.writes.length ≤ 274877906944) (p2 : b.reads.length ≤ 274877906944) (p3 : b.writes.length ≤ 274877906944) :
    Calls Tryz.prog 79 #[.agg #[.slice a_Ra a_Rn a_Rc, .slice a_Wa a_Wn a_Wc], .agg #[.slice b_Ra b_Rn b_Rc, .slice b_Wa b_Wn b_Wc]] w fun e w' => ∃ (Q10 : Option Addr), ∃ (Q12 : Nat), ∃ (Q11 : Nat), ∃ (Q13 : Option Addr), ∃ (Q15 : Nat), ∃ (Q14 : Nat), e = .returned (.agg #[.slice Q10 Q12 Q11, .slice Q13 Q15 Q14]) ∧ Mv [] w [] w' ∧ Rd 1 encS okS (Fsh H w) w' (.slice Q10 Q12 Q11) (joinT a b).reads ∧ Rd 1 encS okS (Fsh H w) w' (.slice Q13 Q15 Q14) (joinT a b).writes := by
 have uU : True := (fun _ _ _ _ => trivial) p0 p1 p2 p3
 clear uU
 have Q6 : Rd 1 encS okS (V H w []) w (.slice a_Ra a_Rn a_Rc) a.reads := Rd.start Q16 (fun _ _ => fps_nil _)
 obtain ⟨Q30, Q26, Q73, Q77⟩ := Rd.inv Q16
 have Q7 : Rd 1 encS okS (V H w []) w (.slice a_Wa a_Wn a_Wc) a.writes := Rd.start Q17 (fun _ _ => fps_nil _)
 obtain ⟨Q31, Q27, Q74, Q78⟩ := Rd.inv Q17
 have Q8 : Rd 1 encS okS (V H w []) w (.slice b_Ra b_Rn b_Rc) b.reads := Rd.start Q18 (fun _ _ => fps_nil _)
 obtain ⟨Q32, Q28, Q75, Q79⟩ := Rd.inv Q18
 have Q9 : Rd 1 encS okS (V H w []) w (.slice b_Wa b_Wn b_Wc) b.writes := Rd.start Q19 (fun _ _ => fps_nil _)
 obtain ⟨Q33, Q29, Q76, Q80⟩ := Rd.inv Q19
 refine calls_enter 50 Tryz.func79 rfl Tryz.ntmps79 (Nat.le_of_ble_eq_true rfl) (fun _ F0i => ?_)
 have F0 : Fr 50 [(0, .agg #[.slice a_Ra a_Rn a_Rc, .slice a_Wa a_Wn a_Wc]), (1, .agg #[.slice b_Ra b_Rn b_Rc, .slice b_Wa b_Wn b_Wc])] _ := F0i
 clear F0i
 refine wp_seq (wp_region_lit (l_op (f_box F0 (At.nil w) rfl rfl rfl (F0.ev 0 rfl) rfl rfl fun b1 _ w1 F2 S1 => ?_)))
 refine l_op (f_box F2 S1.at' rfl rfl rfl (F2.ev 1 rfl) rfl rfl fun b3 _ w3 F4 S3 => ?_)
 refine l_op (f_alloc F4 S3.at' ZI_27 rfl rfl rfl rfl rfl fun b5 _ w5 F6 S5 => ?_)
 refine s_end (x_normal (wp_seq ?_))
 refine x_draw (fun aZ wZ => ∃ (b13 : Nat), ∃ (A15 : Option Addr), ∃ (N15 : Nat), ∃ (C15 : Nat), ∃ (b17 : Nat), ∃ (A19 : Option Addr), ∃ (N19 : Nat), ∃ (C19 : Nat), ∃ (b22 : Nat), Fr 50 [(3, .pointer (some ⟨b3, 0, none⟩)), (4, .pointer (some ⟨b5, 0, none⟩)), (5, .pointer (some ⟨b22, 0, none⟩))] aZ ∧ Mv [bx b5 [.slice none 0 0, .slice none 0 0] 27, bx b3 [.slice b_Ra b_Rn b_Rc, .slice b_Wa b_Wn b_Wc] 27, bx b1 [.slice a_Ra a_Rn a_Rc, .slice a_Wa a_Wn a_Wc] 27] w5 [bx b5 [.slice none 0 0, .slice none 0 0] 27, bx b3 [.slice b_Ra b_Rn b_Rc, .slice b_Wa b_Wn b_Wc] 27, bx b1 [.slice a_Ra a_Rn a_Rc, .slice a_Wa a_Wn a_Wc] 27, ow 9 1 encS okS (.slice A15 N15 C15) (([] : List ByteArray) ++ a.reads), ow 9 1 encS okS (.slice A19 N19 C19) (([] : List ByteArray) ++ a.writes), bx b22 [.slice A15 N15 C15, .slice A19 N19 C19] 27] wZ) [bx b1 [.slice a_Ra a_Rn a_Rc, .slice a_Wa a_Wn a_Wc] 27] mixed S5.at' (listed := #[false, false, false, false, false, false, false, false, false, false, false]) rfl (fun w8 S8 => ?_) [2] rfl ?_
 · skip
   refine x_lem (fun aZ wZ => ∃ (b13 : Nat), ∃ (A15 : Option Addr), ∃ (N15 : Nat), ∃ (C15 : Nat), ∃ (b17 : Nat), ∃ (A19 : Option Addr), ∃ (N19 : Nat), ∃ (C19 : Nat), ∃ (b22 : Nat), Fr 50 [(5, .pointer (some ⟨b22, 0, none⟩)), (16, .agg #[.slice A15 N15 C15, .slice A19 N19 C19]), (4, .pointer (some ⟨b5, 0, none⟩)), (3, .pointer (some ⟨b3, 0, none⟩))] aZ ∧ Mv [bx b5 [.slice none 0 0, .slice none 0 0] 27, bx b3 [.slice b_Ra b_Rn b_Rc, .slice b_Wa b_Wn b_Wc] 27, bx b1 [.slice a_Ra a_Rn a_Rc, .slice a_Wa a_Wn a_Wc] 27] w8 [bx b22 [.slice none 0 0, .slice none 0 0] 27, ow 9 1 encS okS (.slice A19 N19 C19) (([] : List ByteArray) ++ a.writes), ow 9 1 encS okS (.slice A15 N15 C15) (([] : List ByteArray) ++ a.reads), bx b5 [.slice none 0 0, .slice none 0 0] 27, bx b3 [.slice b_Ra b_Rn b_Rc, .slice b_Wa b_Wn b_Wc] 27, bx b1 [.slice a_Ra a_Rn a_Rc, .slice a_Wa a_Wn a_Wc] 27] wZ) #[yT, yT, yT, yT, yT, yT, yT, yT, yT, yT, nF] 1 ?_ (fun G62 => ?_)
   · rintro a62 w62 ⟨b13, A15, N15, C15, b17, A19, N19, C19, b22, F62, S62⟩
     obtain ⟨Q39, Q52, Q65⟩ := At.ownInv S62.at' ET_25.hk 1 rfl
     obtain ⟨Q40, Q53, Q66⟩ := At.ownInv S62.at' ET_25.hk 2 rfl
     refine d_one (i := 10) (listed' := #[yT, yT, yT, yT, yT, yT, yT, yT, yT, yT, yT]) rfl (by kernel_rfl) rfl rfl ?_
     refine s_store S62.at' 0 TI_27 rfl rfl rfl rfl rfl (F62.ev 5 rfl) (F62.ev 16 rfl) rfl rfl rfl rfl rfl fun w63 S63 => ?_
     refine ⟨Sd.of (S62.trans S63) [5] rfl, ?_⟩
     refine wpAnyH_done (by kernel_rfl) (x_normal ?_) _
     exact ⟨b13, A15, N15, C15, b17, A19, N19, C19, b22, F62.cut rfl, ((S8.trans (S62.trans S63)).pick [3, 4, 5, 2, 1, 0] rfl)⟩
   refine x_lem (fun aZ wZ => ∃ (b13 : Nat), ∃ (A15 : Option Addr), ∃ (N15 : Nat), ∃ (C15 : Nat), ∃ (b17 : Nat), ∃ (A19 : Option Addr), ∃ (N19 : Nat), ∃ (C19 : Nat), Fr 50 [(16, .agg #[.slice A15 N15 C15, .slice A19 N19 C19]), (4, .pointer (some ⟨b5, 0, none⟩)), (3, .pointer (some ⟨b3, 0, none⟩))] aZ ∧ Mv [bx b5 [.slice none 0 0, .slice none 0 0] 27, bx b3 [.slice b_Ra b_Rn b_Rc, .slice b_Wa b_Wn b_Wc] 27, bx b1 [.slice a_Ra a_Rn a_Rc, .slice a_Wa a_Wn a_Wc] 27] w8 [ow 9 1 encS okS (.slice A19 N19 C19) (([] : List ByteArray) ++ a.writes), ow 9 1 encS okS (.slice A15 N15 C15) (([] : List ByteArray) ++ a.reads), bx b5 [.slice none 0 0, .slice none 0 0] 27, bx b3 [.slice b_Ra b_Rn b_Rc, .slice b_Wa b_Wn b_Wc] 27, bx b1 [.slice a_Ra a_Rn a_Rc, .slice a_Wa a_Wn a_Wc] 27] wZ) #[yT, yT, yT, yT, yT, yT, yT, yT, yT, nF, nF] 2 ?_ (fun G64 => ?_)
   · rintro a64 w64 ⟨b13, A15, N15, C15, b17, A19, N19, C19, F64, S64⟩
     obtain ⟨Q41, Q54, Q67⟩ := At.ownInv S64.at' ET_25.hk 0 rfl
     obtain ⟨Q42, Q55, Q68⟩ := At.ownInv S64.at' ET_25.hk 1 rfl
     refine d_one (i := 9) (listed' := #[yT, yT, yT, yT, yT, yT, yT, yT, yT, yT, nF]) rfl (by kernel_rfl) rfl rfl ?_
     refine f_alloc F64 S64.at' ZI_27 rfl rfl rfl rfl rfl fun b65 _ w65 F66 S65 => ?_
     refine ⟨Sd.of (S64.trans S65) [5] rfl, ?_⟩
     exact G62 _ _ ⟨b13, A15, N15, C15, b17, A19, N19, C19, b65, F66.cut rfl, (S64.trans S65).pick [0, 1, 2, 3, 4, 5] rfl⟩
   refine x_lem (fun aZ wZ => ∃ (b13 : Nat), ∃ (A15 : Option Addr), ∃ (N15 : Nat), ∃ (C15 : Nat), ∃ (b17 : Nat), ∃ (b25 : Nat), Fr 50 [(5, .pointer (some ⟨b25, 0, none⟩)), (12, .slice (some ⟨b17, 0, none⟩) 0 0), (11, .slice A15 N15 C15), (14, .slice a_Wa a_Wn a_Wc), (4, .pointer (some ⟨b5, 0, none⟩)), (3, .pointer (some ⟨b3, 0, none⟩))] aZ ∧ Mv [bx b5 [.slice none 0 0, .slice none 0 0] 27, bx b3 [.slice b_Ra b_Rn b_Rc, .slice b_Wa b_Wn b_Wc] 27, bx b1 [.slice a_Ra a_Rn a_Rc, .slice a_Wa a_Wn a_Wc] 27] w8 [bx b25 [.slice none 0 0, .slice none 0 0] 27, ow 9 1 encS okS (.slice (some ⟨b17, 0, none⟩) 0 0) ([] : List ByteArray), ow 9 1 encS okS (.slice A15 N15 C15) (([] : List ByteArray) ++ a.reads), bx b5 [.slice none 0 0, .slice none 0 0] 27, bx b3 [.slice b_Ra b_Rn b_Rc, .slice b_Wa b_Wn b_Wc] 27, bx b1 [.slice a_Ra a_Rn a_Rc, .slice a_Wa a_Wn a_Wc] 27] wZ) #[yT, yT, yT, yT, yT, yT, yT, nF, nF, yT, nF] 3 ?_ (fun G67 => ?_)
   · rintro a67 w67 ⟨b13, A15, N15, C15, b17, b25, F67, S67⟩
     obtain ⟨Q43, Q56, Q69⟩ := At.ownInv S67.at' ET_25.hk 2 rfl
     refine d_one (i := 7) (listed' := #[yT, yT, yT, yT, yT, yT, yT, yT, nF, yT, nF]) rfl (by kernel_rfl) rfl rfl ?_
     refine f_app (news := a.writes) F67 S67.at' 1 ET_25 rfl rfl rfl rfl rfl rfl (F67.ev 12 rfl) (F67.ev 14 rfl) ((Rd.mq Q7 (S1.trans (S3.trans (S5.trans (S8.trans S67)))))).1 (by ((repeat (first | rw [List.length_append] | rw [List.length_cons] | rw [List.length_nil] | rw [List.length_take] | rw [List.length_drop])) <;> omega)) fun A68 N68 C68 _ w68 F69 S68 l68 => ?_
     refine ⟨Sd.of (S67.trans S68) [5] rfl, ?_⟩
     refine g_take (v := .agg #[.slice A15 N15 C15, .slice A68 N68 C68]) F69 rfl (i := 8) (listed' := #[yT, yT, yT, yT, yT, yT, yT, yT, yT, yT, nF]) rfl (by kernel_rfl) (by kernel_rfl) (by kernel_rfl) (fun _ _ _ h => h) (Sd.of (S67.trans S68) [5] rfl) rfl rfl rfl rfl (fun _ hz => (r_build BI_27 rfl (lc (pr2 (F69.ev 11 rfl)) (lc (pr2 (F69.ev 15 rfl)) rfl)) rfl)) fun _ F70 => ?_
     exact G62 _ _ ⟨b13, A15, N15, C15, b17, A68, N68, C68, b25, F70.cut rfl, (S67.trans S68).pick [1, 0, 2, 3, 4, 5] rfl⟩
   refine x_lem (fun aZ wZ => ∃ (b13 : Nat), ∃ (A15 : Option Addr), ∃ (N15 : Nat), ∃ (C15 : Nat), ∃ (b17 : Nat), Fr 50 [(12, .slice (some ⟨b17, 0, none⟩) 0 0), (11, .slice A15 N15 C15), (14, .slice a_Wa a_Wn a_Wc), (4, .pointer (some ⟨b5, 0, none⟩)), (3, .pointer (some ⟨b3, 0, none⟩))] aZ ∧ Mv [bx b5 [.slice none 0 0, .slice none 0 0] 27, bx b3 [.slice b_Ra b_Rn b_Rc, .slice b_Wa b_Wn b_Wc] 27, bx b1 [.slice a_Ra a_Rn a_Rc, .slice a_Wa a_Wn a_Wc] 27] w8 [ow 9 1 encS okS (.slice (some ⟨b17, 0, none⟩) 0 0) ([] : List ByteArray), ow 9 1 encS okS (.slice A15 N15 C15) (([] : List ByteArray) ++ a.reads), bx b5 [.slice none 0 0, .slice none 0 0] 27, bx b3 [.slice b_Ra b_Rn b_Rc, .slice b_Wa b_Wn b_Wc] 27, bx b1 [.slice a_Ra a_Rn a_Rc, .slice a_Wa a_Wn a_Wc] 27] wZ) #[yT, yT, yT, yT, yT, yT, yT, nF, nF, nF, nF] 4 ?_ (fun G71 => ?_)
   · rintro a71 w71 ⟨b13, A15, N15, C15, b17, F71, S71⟩
     obtain ⟨Q44, Q57, Q70⟩ := At.ownInv S71.at' ET_25.hk 1 rfl
     refine d_all (rs := [7, 9]) rfl (by kernel_rfl) (by simp) (d_cons (i := 7) (listed' := #[yT, yT, yT, yT, yT, yT, yT, yT, nF, nF, nF]) rfl rfl ?_ (d_cons (i := 9) (listed' := #[yT, yT, yT, yT, yT, yT, yT, nF, nF, yT, nF]) rfl rfl ?_ d_nil))
     · skip
       refine f_app (news := a.writes) F71 S71.at' 0 ET_25 rfl rfl rfl rfl rfl rfl (F71.ev 12 rfl) (F71.ev 14 rfl) ((Rd.mq Q7 (S1.trans (S3.trans (S5.trans (S8.trans S71)))))).1 (by ((repeat (first | rw [List.length_append] | rw [List.length_cons] | rw [List.length_nil] | rw [List.length_take] | rw [List.length_drop])) <;> omega)) fun A72 N72 C72 _ w72 F73 S72 l72 => ?_
       refine ⟨Sd.of (S71.trans S72) [4] rfl, ?_⟩
       refine g_take (v := .agg #[.slice A15 N15 C15, .slice A72 N72 C72]) F73 rfl (i := 8) (listed' := #[yT, yT, yT, yT, yT, yT, yT, yT, yT, nF, nF]) rfl (by kernel_rfl) (by kernel_rfl) (by kernel_rfl) (fun _ _ _ h => h) (Sd.of (S71.trans S72) [4] rfl) rfl rfl rfl rfl (fun _ hz => (r_build BI_27 rfl (lc (pr2 (F73.ev 11 rfl)) (lc (pr2 (F73.ev 15 rfl)) rfl)) rfl)) fun _ F74 => ?_
       exact G64 _ _ ⟨b13, A15, N15, C15, b17, A72, N72, C72, F74.cut rfl, (S71.trans S72).pick [0, 1, 2, 3, 4] rfl⟩
     · skip
       refine f_alloc F71 S71.at' ZI_27 rfl rfl rfl rfl rfl fun b75 _ w75 F76 S75 => ?_
       refine ⟨Sd.of (S71.trans S75) [5] rfl, ?_⟩
       exact G67 _ _ ⟨b13, A15, N15, C15, b17, b75, F76.cut rfl, (S71.trans S75).pick [0, 1, 2, 3, 4, 5] rfl⟩
   refine x_lem (fun aZ wZ => ∃ (b13 : Nat), ∃ (A15 : Option Addr), ∃ (N15 : Nat), ∃ (C15 : Nat), ∃ (b30 : Nat), Fr 50 [(5, .pointer (some ⟨b30, 0, none⟩)), (11, .slice A15 N15 C15), (14, .slice a_Wa a_Wn a_Wc), (4, .pointer (some ⟨b5, 0, none⟩)), (3, .pointer (some ⟨b3, 0, none⟩))] aZ ∧ Mv [bx b5 [.slice none 0 0, .slice none 0 0] 27, bx b3 [.slice b_Ra b_Rn b_Rc, .slice b_Wa b_Wn b_Wc] 27, bx b1 [.slice a_Ra a_Rn a_Rc, .slice a_Wa a_Wn a_Wc] 27] w8 [bx b30 [.slice none 0 0, .slice none 0 0] 27, ow 9 1 encS okS (.slice A15 N15 C15) (([] : List ByteArray) ++ a.reads), bx b5 [.slice none 0 0, .slice none 0 0] 27, bx b3 [.slice b_Ra b_Rn b_Rc, .slice b_Wa b_Wn b_Wc] 27, bx b1 [.slice a_Ra a_Rn a_Rc, .slice a_Wa a_Wn a_Wc] 27] wZ) #[yT, yT, yT, yT, nF, yT, yT, nF, nF, yT, nF] 4 ?_ (fun G77 => ?_)
   · rintro a77 w77 ⟨b13, A15, N15, C15, b30, F77, S77⟩
     obtain ⟨Q45, Q58, Q71⟩ := At.ownInv S77.at' ET_25.hk 1 rfl
     refine d_one (i := 4) (listed' := #[yT, yT, yT, yT, yT, yT, yT, nF, nF, yT, nF]) rfl (by kernel_rfl) rfl rfl ?_
     refine f_buildSl (ok := okS) (vs := []) F77 S77.at' (([] : List ByteArray)) ET_25 rfl rfl rfl rfl rfl rfl rfl rfl rfl (by simp) fun b78 _ w78 F79 S78 => ?_
     refine ⟨Sd.of (S77.trans S78) [5] rfl, ?_⟩
     exact G67 _ _ ⟨b13, A15, N15, C15, b78, b30, F79.cut rfl, (S77.trans S78).pick [1, 0, 2, 3, 4, 5] rfl⟩
   refine x_lem (fun aZ wZ => ∃ (b13 : Nat), ∃ (b34 : Nat), ∃ (b38 : Nat), Fr 50 [(5, .pointer (some ⟨b38, 0, none⟩)), (12, .slice (some ⟨b34, 0, none⟩) 0 0), (8, .slice (some ⟨b13, 0, none⟩) 0 0), (14, .slice a_Wa a_Wn a_Wc), (10, .slice a_Ra a_Rn a_Rc), (4, .pointer (some ⟨b5, 0, none⟩)), (3, .pointer (some ⟨b3, 0, none⟩))] aZ ∧ Mv [bx b5 [.slice none 0 0, .slice none 0 0] 27, bx b3 [.slice b_Ra b_Rn b_Rc, .slice b_Wa b_Wn b_Wc] 27, bx b1 [.slice a_Ra a_Rn a_Rc, .slice a_Wa a_Wn a_Wc] 27] w8 [bx b38 [.slice none 0 0, .slice none 0 0] 27, ow 9 1 encS okS (.slice (some ⟨b34, 0, none⟩) 0 0) ([] : List ByteArray), ow 9 1 encS okS (.slice (some ⟨b13, 0, none⟩) 0 0) ([] : List ByteArray), bx b5 [.slice none 0 0, .slice none 0 0] 27, bx b3 [.slice b_Ra b_Rn b_Rc, .slice b_Wa b_Wn b_Wc] 27, bx b1 [.slice a_Ra a_Rn a_Rc, .slice a_Wa a_Wn a_Wc] 27] wZ) #[yT, yT, yT, nF, yT, yT, yT, nF, nF, yT, nF] 4 ?_ (fun G80 => ?_)
   · rintro a80 w80 ⟨b13, b34, b38, F80, S80⟩
     refine d_one (i := 3) (listed' := #[yT, yT, yT, yT, yT, yT, yT, nF, nF, yT, nF]) rfl (by kernel_rfl) rfl rfl ?_
     refine f_app (news := a.reads) F80 S80.at' 2 ET_25 rfl rfl rfl rfl rfl rfl (F80.ev 8 rfl) (F80.ev 10 rfl) ((Rd.mq Q6 (S1.trans (S3.trans (S5.trans (S8.trans S80)))))).1 (by ((repeat (first | rw [List.length_append] | rw [List.length_cons] | rw [List.length_nil] | rw [List.length_take] | rw [List.length_drop])) <;> omega)) fun A81 N81 C81 _ w81 F82 S81 l81 => ?_
     refine ⟨Sd.of (S80.trans S81) [5] rfl, ?_⟩
     exact G67 _ _ ⟨b13, A81, N81, C81, b34, b38, F82.cut rfl, (S80.trans S81).pick [1, 2, 0, 3, 4, 5] rfl⟩
   refine x_lem (fun aZ wZ => ∃ (b13 : Nat), ∃ (A15 : Option Addr), ∃ (N15 : Nat), ∃ (C15 : Nat), Fr 50 [(11, .slice A15 N15 C15), (14, .slice a_Wa a_Wn a_Wc), (4, .pointer (some ⟨b5, 0, none⟩)), (3, .pointer (some ⟨b3, 0, none⟩))] aZ ∧ Mv [bx b5 [.slice none 0 0, .slice none 0 0] 27, bx b3 [.slice b_Ra b_Rn b_Rc, .slice b_Wa b_Wn b_Wc] 27, bx b1 [.slice a_Ra a_Rn a_Rc, .slice a_Wa a_Wn a_Wc] 27] w8 [ow 9 1 encS okS (.slice A15 N15 C15) (([] : List ByteArray) ++ a.reads), bx b5 [.slice none 0 0, .slice none 0 0] 27, bx b3 [.slice b_Ra b_Rn b_Rc, .slice b_Wa b_Wn b_Wc] 27, bx b1 [.slice a_Ra a_Rn a_Rc, .slice a_Wa a_Wn a_Wc] 27] wZ) #[yT, yT, yT, yT, nF, yT, yT, nF, nF, nF, nF] 5 ?_ (fun G83 => ?_)
   · rintro a83 w83 ⟨b13, A15, N15, C15, F83, S83⟩
     obtain ⟨Q46, Q59, Q72⟩ := At.ownInv S83.at' ET_25.hk 0 rfl
     refine d_all (rs := [4, 9]) rfl (by kernel_rfl) (by simp) (d_cons (i := 4) (listed' := #[yT, yT, yT, yT, yT, yT, yT, nF, nF, nF, nF]) rfl rfl ?_ (d_cons (i := 9) (listed' := #[yT, yT, yT, yT, nF, yT, yT, nF, nF, yT, nF]) rfl rfl ?_ d_nil))
     · skip
       refine f_buildSl (ok := okS) (vs := []) F83 S83.at' (([] : List ByteArray)) ET_25 rfl rfl rfl rfl rfl rfl rfl rfl rfl (by simp) fun b84 _ w84 F85 S84 => ?_
       refine ⟨Sd.of (S83.trans S84) [4] rfl, ?_⟩
       exact G71 _ _ ⟨b13, A15, N15, C15, b84, F85.cut rfl, (S83.trans S84).pick [0, 1, 2, 3, 4] rfl⟩
     · skip
       refine f_alloc F83 S83.at' ZI_27 rfl rfl rfl rfl rfl fun b86 _ w86 F87 S86 => ?_
       refine ⟨Sd.of (S83.trans S86) [4] rfl, ?_⟩
       exact G77 _ _ ⟨b13, A15, N15, C15, b86, F87.cut rfl, (S83.trans S86).pick [0, 1, 2, 3, 4] rfl⟩
   refine x_lem (fun aZ wZ => ∃ (b13 : Nat), ∃ (b34 : Nat), Fr 50 [(12, .slice (some ⟨b34, 0, none⟩) 0 0), (8, .slice (some ⟨b13, 0, none⟩) 0 0), (14, .slice a_Wa a_Wn a_Wc), (10, .slice a_Ra a_Rn a_Rc), (4, .pointer (some ⟨b5, 0, none⟩)), (3, .pointer (some ⟨b3, 0, none⟩))] aZ ∧ Mv [bx b5 [.slice none 0 0, .slice none 0 0] 27, bx b3 [.slice b_Ra b_Rn b_Rc, .slice b_Wa b_Wn b_Wc] 27, bx b1 [.slice a_Ra a_Rn a_Rc, .slice a_Wa a_Wn a_Wc] 27] w8 [ow 9 1 encS okS (.slice (some ⟨b34, 0, none⟩) 0 0) ([] : List ByteArray), ow 9 1 encS okS (.slice (some ⟨b13, 0, none⟩) 0 0) ([] : List ByteArray), bx b5 [.slice none 0 0, .slice none 0 0] 27, bx b3 [.slice b_Ra b_Rn b_Rc, .slice b_Wa b_Wn b_Wc] 27, bx b1 [.slice a_Ra a_Rn a_Rc, .slice a_Wa a_Wn a_Wc] 27] wZ) #[yT, yT, yT, nF, yT, yT, yT, nF, nF, nF, nF] 5 ?_ (fun G88 => ?_)
   · rintro a88 w88 ⟨b13, b34, F88, S88⟩
     refine d_all (rs := [3, 9]) rfl (by kernel_rfl) (by simp) (d_cons (i := 3) (listed' := #[yT, yT, yT, yT, yT, yT, yT, nF, nF, nF, nF]) rfl rfl ?_ (d_cons (i := 9) (listed' := #[yT, yT, yT, nF, yT, yT, yT, nF, nF, yT, nF]) rfl rfl ?_ d_nil))
     · skip
       refine f_app (news := a.reads) F88 S88.at' 1 ET_25 rfl rfl rfl rfl rfl rfl (F88.ev 8 rfl) (F88.ev 10 rfl) ((Rd.mq Q6 (S1.trans (S3.trans (S5.trans (S8.trans S88)))))).1 (by ((repeat (first | rw [List.length_append] | rw [List.length_cons] | rw [List.length_nil] | rw [List.length_take] | rw [List.length_drop])) <;> omega)) fun A89 N89 C89 _ w89 F90 S89 l89 => ?_
       refine ⟨Sd.of (S88.trans S89) [4] rfl, ?_⟩
       exact G71 _ _ ⟨b13, A89, N89, C89, b34, F90.cut rfl, (S88.trans S89).pick [1, 0, 2, 3, 4] rfl⟩
     · skip
       refine f_alloc F88 S88.at' ZI_27 rfl rfl rfl rfl rfl fun b91 _ w91 F92 S91 => ?_
       refine ⟨Sd.of (S88.trans S91) [5] rfl, ?_⟩
       exact G80 _ _ ⟨b13, b34, b91, F92.cut rfl, (S88.trans S91).pick [0, 1, 2, 3, 4, 5] rfl⟩
   refine x_lem (fun aZ wZ => ∃ (b13 : Nat), ∃ (b42 : Nat), Fr 50 [(5, .pointer (some ⟨b42, 0, none⟩)), (8, .slice (some ⟨b13, 0, none⟩) 0 0), (14, .slice a_Wa a_Wn a_Wc), (10, .slice a_Ra a_Rn a_Rc), (4, .pointer (some ⟨b5, 0, none⟩)), (3, .pointer (some ⟨b3, 0, none⟩))] aZ ∧ Mv [bx b5 [.slice none 0 0, .slice none 0 0] 27, bx b3 [.slice b_Ra b_Rn b_Rc, .slice b_Wa b_Wn b_Wc] 27, bx b1 [.slice a_Ra a_Rn a_Rc, .slice a_Wa a_Wn a_Wc] 27] w8 [bx b42 [.slice none 0 0, .slice none 0 0] 27, ow 9 1 encS okS (.slice (some ⟨b13, 0, none⟩) 0 0) ([] : List ByteArray), bx b5 [.slice none 0 0, .slice none 0 0] 27, bx b3 [.slice b_Ra b_Rn b_Rc, .slice b_Wa b_Wn b_Wc] 27, bx b1 [.slice a_Ra a_Rn a_Rc, .slice a_Wa a_Wn a_Wc] 27] wZ) #[yT, yT, yT, nF, nF, yT, yT, nF, nF, yT, nF] 5 ?_ (fun G93 => ?_)
   · rintro a93 w93 ⟨b13, b42, F93, S93⟩
     refine d_all (rs := [3, 4]) rfl (by kernel_rfl) (by simp) (d_cons (i := 3) (listed' := #[yT, yT, yT, yT, nF, yT, yT, nF, nF, yT, nF]) rfl rfl ?_ (d_cons (i := 4) (listed' := #[yT, yT, yT, nF, yT, yT, yT, nF, nF, yT, nF]) rfl rfl ?_ d_nil))
     · skip
       refine f_app (news := a.reads) F93 S93.at' 1 ET_25 rfl rfl rfl rfl rfl rfl (F93.ev 8 rfl) (F93.ev 10 rfl) ((Rd.mq Q6 (S1.trans (S3.trans (S5.trans (S8.trans S93)))))).1 (by ((repeat (first | rw [List.length_append] | rw [List.length_cons] | rw [List.length_nil] | rw [List.length_take] | rw [List.length_drop])) <;> omega)) fun A94 N94 C94 _ w94 F95 S94 l94 => ?_
       refine ⟨Sd.of (S93.trans S94) [4] rfl, ?_⟩
       exact G77 _ _ ⟨b13, A94, N94, C94, b42, F95.cut rfl, (S93.trans S94).pick [1, 0, 2, 3, 4] rfl⟩
     · skip
       refine f_buildSl (ok := okS) (vs := []) F93 S93.at' (([] : List ByteArray)) ET_25 rfl rfl rfl rfl rfl rfl rfl rfl rfl (by simp) fun b96 _ w96 F97 S96 => ?_
       refine ⟨Sd.of (S93.trans S96) [5] rfl, ?_⟩
       exact G80 _ _ ⟨b13, b96, b42, F97.cut rfl, (S93.trans S96).pick [1, 0, 2, 3, 4, 5] rfl⟩
   refine x_lem (fun aZ wZ => ∃ (b48 : Nat), ∃ (b52 : Nat), Fr 50 [(5, .pointer (some ⟨b52, 0, none⟩)), (12, .slice (some ⟨b48, 0, none⟩) 0 0), (14, .slice a_Wa a_Wn a_Wc), (10, .slice a_Ra a_Rn a_Rc), (4, .pointer (some ⟨b5, 0, none⟩)), (3, .pointer (some ⟨b3, 0, none⟩))] aZ ∧ Mv [bx b5 [.slice none 0 0, .slice none 0 0] 27, bx b3 [.slice b_Ra b_Rn b_Rc, .slice b_Wa b_Wn b_Wc] 27, bx b1 [.slice a_Ra a_Rn a_Rc, .slice a_Wa a_Wn a_Wc] 27] w8 [bx b52 [.slice none 0 0, .slice none 0 0] 27, ow 9 1 encS okS (.slice (some ⟨b48, 0, none⟩) 0 0) ([] : List ByteArray), bx b5 [.slice none 0 0, .slice none 0 0] 27, bx b3 [.slice b_Ra b_Rn b_Rc, .slice b_Wa b_Wn b_Wc] 27, bx b1 [.slice a_Ra a_Rn a_Rc, .slice a_Wa a_Wn a_Wc] 27] wZ) #[nF, yT, yT, nF, yT, yT, yT, nF, nF, yT, nF] 5 ?_ (fun G98 => ?_)
   · rintro a98 w98 ⟨b48, b52, F98, S98⟩
     refine d_one (i := 0) (listed' := #[yT, yT, yT, nF, yT, yT, yT, nF, nF, yT, nF]) rfl (by kernel_rfl) rfl rfl ?_
     refine f_buildSl (ok := okS) (vs := []) F98 S98.at' (([] : List ByteArray)) ET_25 rfl rfl rfl rfl rfl rfl rfl rfl rfl (by simp) fun b99 _ w99 F100 S99 => ?_
     refine ⟨Sd.of (S98.trans S99) [5] rfl, ?_⟩
     exact G80 _ _ ⟨b99, b48, b52, F100.cut rfl, (S98.trans S99).pick [1, 2, 0, 3, 4, 5] rfl⟩
   refine x_lem (fun aZ wZ => ∃ (b13 : Nat), Fr 50 [(8, .slice (some ⟨b13, 0, none⟩) 0 0), (14, .slice a_Wa a_Wn a_Wc), (10, .slice a_Ra a_Rn a_Rc), (4, .pointer (some ⟨b5, 0, none⟩)), (3, .pointer (some ⟨b3, 0, none⟩))] aZ ∧ Mv [bx b5 [.slice none 0 0, .slice none 0 0] 27, bx b3 [.slice b_Ra b_Rn b_Rc, .slice b_Wa b_Wn b_Wc] 27, bx b1 [.slice a_Ra a_Rn a_Rc, .slice a_Wa a_Wn a_Wc] 27] w8 [ow 9 1 encS okS (.slice (some ⟨b13, 0, none⟩) 0 0) ([] : List ByteArray), bx b5 [.slice none 0 0, .slice none 0 0] 27, bx b3 [.slice b_Ra b_Rn b_Rc, .slice b_Wa b_Wn b_Wc] 27, bx b1 [.slice a_Ra a_Rn a_Rc, .slice a_Wa a_Wn a_Wc] 27] wZ) #[yT, yT, yT, nF, nF, yT, yT, nF, nF, nF, nF] 6 ?_ (fun G101 => ?_)
   · rintro a101 w101 ⟨b13, F101, S101⟩
     refine d_all (rs := [3, 4, 9]) rfl (by kernel_rfl) (by simp) (d_cons (i := 3) (listed' := #[yT, yT, yT, yT, nF, yT, yT, nF, nF, nF, nF]) rfl rfl ?_ (d_cons (i := 4) (listed' := #[yT, yT, yT, nF, yT, yT, yT, nF, nF, nF, nF]) rfl rfl ?_ (d_cons (i := 9) (listed' := #[yT, yT, yT, nF, nF, yT, yT, nF, nF, yT, nF]) rfl rfl ?_ d_nil)))
     · skip
       refine f_app (news := a.reads) F101 S101.at' 0 ET_25 rfl rfl rfl rfl rfl rfl (F101.ev 8 rfl) (F101.ev 10 rfl) ((Rd.mq Q6 (S1.trans (S3.trans (S5.trans (S8.trans S101)))))).1 (by ((repeat (first | rw [List.length_append] | rw [List.length_cons] | rw [List.length_nil] | rw [List.length_take] | rw [List.length_drop])) <;> omega)) fun A102 N102 C102 _ w102 F103 S102 l102 => ?_
       refine ⟨Sd.of (S101.trans S102) [3] rfl, ?_⟩
       exact G83 _ _ ⟨b13, A102, N102, C102, F103.cut rfl, (S101.trans S102).pick [0, 1, 2, 3] rfl⟩
     · skip
       refine f_buildSl (ok := okS) (vs := []) F101 S101.at' (([] : List ByteArray)) ET_25 rfl rfl rfl rfl rfl rfl rfl rfl rfl (by simp) fun b104 _ w104 F105 S104 => ?_
       refine ⟨Sd.of (S101.trans S104) [4] rfl, ?_⟩
       exact G88 _ _ ⟨b13, b104, F105.cut rfl, (S101.trans S104).pick [0, 1, 2, 3, 4] rfl⟩
     · skip
       refine f_alloc F101 S101.at' ZI_27 rfl rfl rfl rfl rfl fun b106 _ w106 F107 S106 => ?_
       refine ⟨Sd.of (S101.trans S106) [4] rfl, ?_⟩
       exact G93 _ _ ⟨b13, b106, F107.cut rfl, (S101.trans S106).pick [0, 1, 2, 3, 4] rfl⟩
   refine x_lem (fun aZ wZ => ∃ (b48 : Nat), Fr 50 [(12, .slice (some ⟨b48, 0, none⟩) 0 0), (14, .slice a_Wa a_Wn a_Wc), (10, .slice a_Ra a_Rn a_Rc), (4, .pointer (some ⟨b5, 0, none⟩)), (3, .pointer (some ⟨b3, 0, none⟩))] aZ ∧ Mv [bx b5 [.slice none 0 0, .slice none 0 0] 27, bx b3 [.slice b_Ra b_Rn b_Rc, .slice b_Wa b_Wn b_Wc] 27, bx b1 [.slice a_Ra a_Rn a_Rc, .slice a_Wa a_Wn a_Wc] 27] w8 [ow 9 1 encS okS (.slice (some ⟨b48, 0, none⟩) 0 0) ([] : List ByteArray), bx b5 [.slice none 0 0, .slice none 0 0] 27, bx b3 [.slice b_Ra b_Rn b_Rc, .slice b_Wa b_Wn b_Wc] 27, bx b1 [.slice a_Ra a_Rn a_Rc, .slice a_Wa a_Wn a_Wc] 27] wZ) #[nF, yT, yT, nF, yT, yT, yT, nF, nF, nF, nF] 6 ?_ (fun G108 => ?_)
   · rintro a108 w108 ⟨b48, F108, S108⟩
     refine d_all (rs := [0, 9]) rfl (by kernel_rfl) (by simp) (d_cons (i := 0) (listed' := #[yT, yT, yT, nF, yT, yT, yT, nF, nF, nF, nF]) rfl rfl ?_ (d_cons (i := 9) (listed' := #[nF, yT, yT, nF, yT, yT, yT, nF, nF, yT, nF]) rfl rfl ?_ d_nil))
     · skip
       refine f_buildSl (ok := okS) (vs := []) F108 S108.at' (([] : List ByteArray)) ET_25 rfl rfl rfl rfl rfl rfl rfl rfl rfl (by simp) fun b109 _ w109 F110 S109 => ?_
       refine ⟨Sd.of (S108.trans S109) [4] rfl, ?_⟩
       exact G88 _ _ ⟨b109, b48, F110.cut rfl, (S108.trans S109).pick [1, 0, 2, 3, 4] rfl⟩
     · skip
       refine f_alloc F108 S108.at' ZI_27 rfl rfl rfl rfl rfl fun b111 _ w111 F112 S111 => ?_
       refine ⟨Sd.of (S108.trans S111) [4] rfl, ?_⟩
       exact G98 _ _ ⟨b48, b111, F112.cut rfl, (S108.trans S111).pick [0, 1, 2, 3, 4] rfl⟩
   refine x_lem (fun aZ wZ => ∃ (b56 : Nat), Fr 50 [(5, .pointer (some ⟨b56, 0, none⟩)), (14, .slice a_Wa a_Wn a_Wc), (10, .slice a_Ra a_Rn a_Rc), (4, .pointer (some ⟨b5, 0, none⟩)), (3, .pointer (some ⟨b3, 0, none⟩))] aZ ∧ Mv [bx b5 [.slice none 0 0, .slice none 0 0] 27, bx b3 [.slice b_Ra b_Rn b_Rc, .slice b_Wa b_Wn b_Wc] 27, bx b1 [.slice a_Ra a_Rn a_Rc, .slice a_Wa a_Wn a_Wc] 27] w8 [bx b56 [.slice none 0 0, .slice none 0 0] 27, bx b5 [.slice none 0 0, .slice none 0 0] 27, bx b3 [.slice b_Ra b_Rn b_Rc, .slice b_Wa b_Wn b_Wc] 27, bx b1 [.slice a_Ra a_Rn a_Rc, .slice a_Wa a_Wn a_Wc] 27] wZ) #[nF, yT, yT, nF, nF, yT, yT, nF, nF, yT, nF] 6 ?_ (fun G113 => ?_)
   · rintro a113 w113 ⟨b56, F113, S113⟩
     refine d_all (rs := [0, 4]) rfl (by kernel_rfl) (by simp) (d_cons (i := 0) (listed' := #[yT, yT, yT, nF, nF, yT, yT, nF, nF, yT, nF]) rfl rfl ?_ (d_cons (i := 4) (listed' := #[nF, yT, yT, nF, yT, yT, yT, nF, nF, yT, nF]) rfl rfl ?_ d_nil))
     · skip
       refine f_buildSl (ok := okS) (vs := []) F113 S113.at' (([] : List ByteArray)) ET_25 rfl rfl rfl rfl rfl rfl rfl rfl rfl (by simp) fun b114 _ w114 F115 S114 => ?_
       refine ⟨Sd.of (S113.trans S114) [4] rfl, ?_⟩
       exact G93 _ _ ⟨b114, b56, F115.cut rfl, (S113.trans S114).pick [1, 0, 2, 3, 4] rfl⟩
     · skip
       refine f_buildSl (ok := okS) (vs := []) F113 S113.at' (([] : List ByteArray)) ET_25 rfl rfl rfl rfl rfl rfl rfl rfl rfl (by simp) fun b116 _ w116 F117 S116 => ?_
       refine ⟨Sd.of (S113.trans S116) [4] rfl, ?_⟩
       exact G98 _ _ ⟨b116, b56, F117.cut rfl, (S113.trans S116).pick [1, 0, 2, 3, 4] rfl⟩
   refine x_lem (fun aZ wZ => Fr 50 [(14, .slice a_Wa a_Wn a_Wc), (10, .slice a_Ra a_Rn a_Rc), (4, .pointer (some ⟨b5, 0, none⟩)), (3, .pointer (some ⟨b3, 0, none⟩))] aZ ∧ Mv [bx b5 [.slice none 0 0, .slice none 0 0] 27, bx b3 [.slice b_Ra b_Rn b_Rc, .slice b_Wa b_Wn b_Wc] 27, bx b1 [.slice a_Ra a_Rn a_Rc, .slice a_Wa a_Wn a_Wc] 27] w8 [bx b5 [.slice none 0 0, .slice none 0 0] 27, bx b3 [.slice b_Ra b_Rn b_Rc, .slice b_Wa b_Wn b_Wc] 27, bx b1 [.slice a_Ra a_Rn a_Rc, .slice a_Wa a_Wn a_Wc] 27] wZ) #[nF, yT, yT, nF, nF, yT, yT, nF, nF, nF, nF] 7 ?_ (fun G118 => ?_)
   · rintro a118 w118 ⟨F118, S118⟩
     refine d_all (rs := [0, 4, 9]) rfl (by kernel_rfl) (by simp) (d_cons (i := 0) (listed' := #[yT, yT, yT, nF, nF, yT, yT, nF, nF, nF, nF]) rfl rfl ?_ (d_cons (i := 4) (listed' := #[nF, yT, yT, nF, yT, yT, yT, nF, nF, nF, nF]) rfl rfl ?_ (d_cons (i := 9) (listed' := #[nF, yT, yT, nF, nF, yT, yT, nF, nF, yT, nF]) rfl rfl ?_ d_nil)))
     · skip
       refine f_buildSl (ok := okS) (vs := []) F118 S118.at' (([] : List ByteArray)) ET_25 rfl rfl rfl rfl rfl rfl rfl rfl rfl (by simp) fun b119 _ w119 F120 S119 => ?_
       refine ⟨Sd.of (S118.trans S119) [3] rfl, ?_⟩
       exact G101 _ _ ⟨b119, F120.cut rfl, (S118.trans S119).pick [0, 1, 2, 3] rfl⟩
     · skip
       refine f_buildSl (ok := okS) (vs := []) F118 S118.at' (([] : List ByteArray)) ET_25 rfl rfl rfl rfl rfl rfl rfl rfl rfl (by simp) fun b121 _ w121 F122 S121 => ?_
       refine ⟨Sd.of (S118.trans S121) [3] rfl, ?_⟩
       exact G108 _ _ ⟨b121, F122.cut rfl, (S118.trans S121).pick [0, 1, 2, 3] rfl⟩
     · skip
       refine f_alloc F118 S118.at' ZI_27 rfl rfl rfl rfl rfl fun b123 _ w123 F124 S123 => ?_
       refine ⟨Sd.of (S118.trans S123) [3] rfl, ?_⟩
       exact G113 _ _ ⟨b123, F124.cut rfl, (S118.trans S123).pick [0, 1, 2, 3] rfl⟩
   refine g_take F6 rfl (i := 1) (listed' := #[nF, yT, nF, nF, nF, nF, nF, nF, nF, nF, nF]) rfl (by kernel_rfl) (by kernel_rfl) (by kernel_rfl) (fun _ _ _ h => h) (Sd.of (Mv.refl S8.at') [2] rfl) rfl rfl rfl rfl (fun _ hz => (r_field FI_27_0 rfl (F6.ev 2 rfl) rfl)) fun _ F125 => ?_
   refine g_take (v := .slice a_Ra a_Rn a_Rc) F125 rfl (i := 2) (listed' := #[nF, yT, yT, nF, nF, nF, nF, nF, nF, nF, nF]) rfl (by kernel_rfl) (by kernel_rfl) (by kernel_rfl) (fun _ _ _ h => h) (Sd.of (Mv.refl S8.at') [2] rfl) rfl rfl rfl rfl (fun _ hz => (r_loadX (hz.bx 0 rfl) TI_25 rfl (F125.ev 9 rfl) rfl rfl (fun _ => rfl) rfl)) fun _ F126 => ?_
   refine g_take F126 rfl (i := 5) (listed' := #[nF, yT, yT, nF, nF, yT, nF, nF, nF, nF, nF]) rfl (by kernel_rfl) (by kernel_rfl) (by kernel_rfl) (fun _ _ _ h => h) (Sd.of (Mv.refl S8.at') [2] rfl) rfl rfl rfl rfl (fun _ hz => (r_field FI_27_1 rfl (F126.ev 2 rfl) rfl)) fun _ F127 => ?_
   refine g_take (v := .slice a_Wa a_Wn a_Wc) F127 rfl (i := 6) (listed' := #[nF, yT, yT, nF, nF, yT, yT, nF, nF, nF, nF]) rfl (by kernel_rfl) (by kernel_rfl) (by kernel_rfl) (fun _ _ _ h => h) (Sd.of (Mv.refl S8.at') [2] rfl) rfl rfl rfl rfl (fun _ hz => (r_loadX (hz.bx 0 rfl) TI_25 rfl (F127.ev 13 rfl) rfl rfl (fun _ => rfl) rfl)) fun _ F128 => ?_
   exact G118 _ _ ⟨F128.cut rfl, (Mv.refl S8.at').pick [0, 1, 2] rfl⟩
 · rintro a129 w129 ⟨b13, A15, N15, C15, b17, A19, N19, C19, b22, F129, S129⟩
   obtain ⟨Q34, Q47, Q60⟩ := At.ownInv S129.at' ET_25.hk 3 rfl
   obtain ⟨Q35, Q48, Q61⟩ := At.ownInv S129.at' ET_25.hk 4 rfl
   refine x_normal (wp_seq (wp_seq (wp_region_lit (l_op (f_val F129 rfl rfl (r_assign rfl rfl) rfl fun _ F130 => ?_)))))
   refine s_end (x_normal (wp_block ?_))
   have Z132 : Rd 1 encS okS (V H w [bx b5 [.slice none 0 0, .slice none 0 0] 27, bx b3 [.slice b_Ra b_Rn b_Rc, .slice b_Wa b_Wn b_Wc] 27, bx b1 [.slice a_Ra a_Rn a_Rc, .slice a_Wa a_Wn a_Wc] 27, ow 9 1 encS okS (.slice A19 N19 C19) (([] : List ByteArray) ++ a.writes), bx b22 [.slice A15 N15 C15, .slice A19 N19 C19] 27]) w129 (.slice A15 N15 C15) (([] : List ByteArray) ++ a.reads) := At.freeze (S1.trans (S3.trans (S5.trans S129))) ET_25.hk 3 rfl (fun b hb => ((S1.trans (S3.trans (S5.trans S129))).fresh b ⟨_, nth_mem (i := 3) rfl, hb⟩).resolve_left (fps_nil _))
   have S132 := At.drop S129.at' 3
   refine x_loop (fun (k : Nat) aZ wZ => ∃ (ra : Option Addr), ∃ (rn : Nat), ∃ (rc : Nat), Fr 50 [(6, .int .i64 ((k : Nat) : Int)), (3, .pointer (some ⟨b3, 0, none⟩)), (4, .pointer (some ⟨b5, 0, none⟩)), (5, .pointer (some ⟨b22, 0, none⟩))] aZ ∧ Mv [bx b5 [.slice none 0 0, .slice none 0 0] 27, bx b3 [.slice b_Ra b_Rn b_Rc, .slice b_Wa b_Wn b_Wc] 27, bx b1 [.slice a_Ra a_Rn a_Rc, .slice a_Wa a_Wn a_Wc] 27, ow 9 1 encS okS (.slice A19 N19 C19) (([] : List ByteArray) ++ a.writes), bx b22 [.slice A15 N15 C15, .slice A19 N19 C19] 27] w129 [bx b5 [.slice none 0 0, .slice none 0 0] 27, bx b3 [.slice b_Ra b_Rn b_Rc, .slice b_Wa b_Wn b_Wc] 27, bx b1 [.slice a_Ra a_Rn a_Rc, .slice a_Wa a_Wn a_Wc] 27, ow 9 1 encS okS (.slice A19 N19 C19) (([] : List ByteArray) ++ a.writes), bx b22 [.slice ra rn rc, .slice A19 N19 C19] 27] wZ ∧ Rd 1 encS okS (V H w [bx b5 [.slice none 0 0, .slice none 0 0] 27, bx b3 [.slice b_Ra b_Rn b_Rc, .slice b_Wa b_Wn b_Wc] 27, bx b1 [.slice a_Ra a_Rn a_Rc, .slice a_Wa a_Wn a_Wc] 27, ow 9 1 encS okS (.slice A19 N19 C19) (([] : List ByteArray) ++ a.writes), bx b22 [.slice ra rn rc, .slice A19 N19 C19] 27]) wZ (.slice ra rn rc) (joinL a.reads (b.reads.take k)) ∧ (k ≤ b_Rn)) (fun (k : Nat) => b_Rn - k) (0) ?_ ?_
   · exact ⟨A15, N15, C15, F130.cut rfl, (Mv.refl S132.at'), Z132, by omega⟩
   · rintro k a131 w131 ⟨ra, rn, rc, F131, S131, W131_0, h131_0⟩
     obtain ⟨lv131_0, lw131_0, lx131_0, ly131_0⟩ := Rd.inv W131_0
     have jl := joinL_length a.reads (b.reads.take k)
     rw [List.length_take] at jl
     refine wp_seq (wp_seq (wp_region_lit (l_op (f_mv F131 rfl rfl rfl rfl rfl fun _ F133 => ?_))))
     refine l_op (f_val F133 rfl rfl (r_field FI_27_0 rfl (F133.ev 3 rfl) rfl) rfl fun _ F134 => ?_)
     refine l_op (f_val (v := .slice b_Ra b_Rn b_Rc) F134 rfl rfl (r_loadB S131.at' 1 TI_25 rfl rfl (F134.ev 18 rfl) rfl rfl (fun _ => rfl) rfl) rfl fun _ F135 => ?_)
     refine l_op (f_val F135 rfl rfl (r_len Tryz.underlying25 rfl (F135.ev 19 rfl)) rfl fun _ F136 => ?_)
     refine l_op (f_val F136 rfl rfl (r_cmp (b := decide (k < b_Rn)) (.inr (.inr (.inl rfl))) rfl (F136.ev 17 rfl) (F136.ev 20 rfl) (dec_of (by omega))) rfl fun _ F137 => ?_)
     refine s_end (x_normal (x_cond (p := k < b_Rn) (F137.ev 21 rfl) (fun h138 => ?_) (fun h138 => ?_)))
     · skip
       refine wp_skip (x_normal (wp_seq (wp_block ?_)))
       obtain ⟨x1, hx1, okx1⟩ := Rd.elem (Rd.mq Q8 (S1.trans (S3.trans (S5.trans (S129.trans (S132.trans S131)))))) k (by first | assumption | omega)
       refine x_draw (fun aZ wZ => ∃ (Q0 : Option Addr), ∃ (Q4 : Nat), ∃ (Q2 : Nat), Fr 50 [(3, .pointer (some ⟨b3, 0, none⟩)), (4, .pointer (some ⟨b5, 0, none⟩)), (5, .pointer (some ⟨b22, 0, none⟩)), (6, .int .i64 ((k : Nat) : Int))] aZ ∧ Mv [bx b5 [.slice none 0 0, .slice none 0 0] 27, bx b3 [.slice b_Ra b_Rn b_Rc, .slice b_Wa b_Wn b_Wc] 27, bx b1 [.slice a_Ra a_Rn a_Rc, .slice a_Wa a_Wn a_Wc] 27, ow 9 1 encS okS (.slice A19 N19 C19) (([] : List ByteArray) ++ a.writes), bx b22 [.slice ra rn rc, .slice A19 N19 C19] 27] w131 [bx b5 [.slice none 0 0, .slice none 0 0] 27, bx b3 [.slice b_Ra b_Rn b_Rc, .slice b_Wa b_Wn b_Wc] 27, bx b1 [.slice a_Ra a_Rn a_Rc, .slice a_Wa a_Wn a_Wc] 27, ow 9 1 encS okS (.slice A19 N19 C19) (([] : List ByteArray) ++ a.writes), bx b22 [.slice Q0 Q4 Q2, .slice A19 N19 C19] 27] wZ ∧ Rd 1 encS okS (V H w [bx b5 [.slice none 0 0, .slice none 0 0] 27, bx b3 [.slice b_Ra b_Rn b_Rc, .slice b_Wa b_Wn b_Wc] 27, bx b1 [.slice a_Ra a_Rn a_Rc, .slice a_Wa a_Wn a_Wc] 27, ow 9 1 encS okS (.slice A19 N19 C19) (([] : List ByteArray) ++ a.writes), bx b22 [.slice Q0 Q4 Q2, .slice A19 N19 C19] 27]) wZ (.slice Q0 Q4 Q2) (putL (joinL a.reads (b.reads.take k)) x1)) [bx b3 [.slice b_Ra b_Rn b_Rc, .slice b_Wa b_Wn b_Wc] 27] mixed S131.at' (listed := #[false, false, false, false, false, false, false, false, false, false]) rfl (fun w140 S140 => ?_) [1] rfl ?_
       · skip
         refine x_lem (fun aZ wZ => ∃ (Q0 : Option Addr), ∃ (Q4 : Nat), ∃ (Q2 : Nat), Fr 50 [(32, .pointer (some ⟨b22, 0, none⟩)), (31, .slice Q0 Q4 Q2), (6, .int .i64 ((k : Nat) : Int)), (3, .pointer (some ⟨b3, 0, none⟩)), (4, .pointer (some ⟨b5, 0, none⟩)), (5, .pointer (some ⟨b22, 0, none⟩))] aZ ∧ Mv [bx b5 [.slice none 0 0, .slice none 0 0] 27, bx b3 [.slice b_Ra b_Rn b_Rc, .slice b_Wa b_Wn b_Wc] 27, bx b1 [.slice a_Ra a_Rn a_Rc, .slice a_Wa a_Wn a_Wc] 27, ow 9 1 encS okS (.slice A19 N19 C19) (([] : List ByteArray) ++ a.writes), bx b22 [.slice ra rn rc, .slice A19 N19 C19] 27] w140 [bx b5 [.slice none 0 0, .slice none 0 0] 27, bx b3 [.slice b_Ra b_Rn b_Rc, .slice b_Wa b_Wn b_Wc] 27, bx b1 [.slice a_Ra a_Rn a_Rc, .slice a_Wa a_Wn a_Wc] 27, ow 9 1 encS okS (.slice A19 N19 C19) (([] : List ByteArray) ++ a.writes), bx b22 [.slice ra rn rc, .slice A19 N19 C19] 27] wZ ∧ Rd 1 encS okS (V H w [bx b5 [.slice none 0 0, .slice none 0 0] 27, bx b3 [.slice b_Ra b_Rn b_Rc, .slice b_Wa b_Wn b_Wc] 27, bx b1 [.slice a_Ra a_Rn a_Rc, .slice a_Wa a_Wn a_Wc] 27, ow 9 1 encS okS (.slice A19 N19 C19) (([] : List ByteArray) ++ a.writes), bx b22 [.slice ra rn rc, .slice A19 N19 C19] 27]) wZ (.slice Q0 Q4 Q2) (putL (joinL a.reads (b.reads.take k)) x1)) #[yT, yT, yT, yT, yT, yT, yT, yT, yT, nF] 1 ?_ (fun G153 => ?_)
         · rintro a153 w153 ⟨Q0, Q4, Q2, F153, S153, W153_0⟩
           obtain ⟨Q36, Q49, Q62⟩ := At.ownInv S153.at' ET_25.hk 3 rfl
           refine d_one (i := 9) (listed' := #[yT, yT, yT, yT, yT, yT, yT, yT, yT, yT]) rfl (by kernel_rfl) rfl rfl ?_
           refine s_store S153.at' 4 TI_25 rfl rfl rfl rfl rfl (F153.ev 32 rfl) (F153.ev 31 rfl) rfl rfl rfl rfl rfl fun w154 S154 => ?_
           refine ⟨Sd.of (S153.trans S154) [2] rfl, ?_⟩
           refine wpAnyH_done (by kernel_rfl) (x_normal ?_) _
           exact ⟨Q0, Q4, Q2, F153.cut rfl, ((S140.trans (S153.trans S154)).pick [1, 2, 3, 4, 0] rfl), (Rd.mq (Rd.mq W153_0 S154) (Mv.pick (Mv.refl S154.at') [1, 2, 3, 4, 0] rfl))⟩
         refine x_lem (fun aZ wZ => Fr 50 [(25, .slice ra rn rc), (30, .string x1), (6, .int .i64 ((k : Nat) : Int)), (3, .pointer (some ⟨b3, 0, none⟩)), (4, .pointer (some ⟨b5, 0, none⟩)), (5, .pointer (some ⟨b22, 0, none⟩))] aZ ∧ Mv [bx b5 [.slice none 0 0, .slice none 0 0] 27, bx b3 [.slice b_Ra b_Rn b_Rc, .slice b_Wa b_Wn b_Wc] 27, bx b1 [.slice a_Ra a_Rn a_Rc, .slice a_Wa a_Wn a_Wc] 27, ow 9 1 encS okS (.slice A19 N19 C19) (([] : List ByteArray) ++ a.writes), bx b22 [.slice ra rn rc, .slice A19 N19 C19] 27] w140 [bx b5 [.slice none 0 0, .slice none 0 0] 27, bx b3 [.slice b_Ra b_Rn b_Rc, .slice b_Wa b_Wn b_Wc] 27, bx b1 [.slice a_Ra a_Rn a_Rc, .slice a_Wa a_Wn a_Wc] 27, ow 9 1 encS okS (.slice A19 N19 C19) (([] : List ByteArray) ++ a.writes), bx b22 [.slice ra rn rc, .slice A19 N19 C19] 27] wZ) #[yT, yT, yT, yT, yT, yT, yT, nF, nF, nF] 3 ?_ (fun G155 => ?_)
         · rintro a155 w155 ⟨F155, S155⟩
           obtain ⟨Q37, Q50, Q63⟩ := At.ownInv S155.at' ET_25.hk 3 rfl
           refine d_one (i := 7) (listed' := #[yT, yT, yT, yT, yT, yT, yT, yT, nF, nF]) rfl (by kernel_rfl) rfl rfl ?_
           refine f_call F155 CF_96 rfl rfl rfl rfl (lc (F155.ev 25 rfl) (lc (F155.ev 30 rfl) rfl)) (spec_AddSpan_c (list := joinL a.reads (b.reads.take k)) (span := x1) (Rd.mq W131_0 (S140.trans S155)) okx1 (by first | assumption | omega | (simp <;> omega))) ?_
           rintro _ w156 ⟨Q20, Q24, Q22, rfl, m156, v156_0⟩
           refine ⟨_, rfl, fun _ F157 => ?_⟩
           have S156 := At.frame0 S155.at' m156
           have V156_0 := Rd.got0 S155.at' ((S1.trans (S3.trans (S5.trans (S129.trans (S132.trans (S131.trans (S140.trans S155))))))).kp.size) v156_0 S156
           obtain ⟨ln156_0, le156_0, mx156_0, ni156_0⟩ := Rd.inv V156_0
           clear m156 v156_0
           refine ⟨Sd.of (S155.trans S156) [1] rfl, ?_⟩
           refine g_take F157 rfl (i := 8) (listed' := #[yT, yT, yT, yT, yT, yT, yT, yT, yT, nF]) rfl (by kernel_rfl) (by kernel_rfl) (by kernel_rfl) (fun _ _ _ h => h) (Sd.of (S155.trans S156) [1] rfl) rfl rfl rfl rfl (fun _ hz => (r_field FI_27_0 rfl (F157.ev 5 rfl) rfl)) fun _ F158 => ?_
           exact G153 _ _ ⟨Q20, Q24, Q22, F158.cut rfl, (S155.trans S156).pick [0, 1, 2, 3, 4] rfl, V156_0⟩
         refine x_lem (fun aZ wZ => Fr 50 [(30, .string x1), (24, .pointer (some ⟨b22, 0, none⟩)), (6, .int .i64 ((k : Nat) : Int)), (3, .pointer (some ⟨b3, 0, none⟩)), (4, .pointer (some ⟨b5, 0, none⟩)), (5, .pointer (some ⟨b22, 0, none⟩))] aZ ∧ Mv [bx b5 [.slice none 0 0, .slice none 0 0] 27, bx b3 [.slice b_Ra b_Rn b_Rc, .slice b_Wa b_Wn b_Wc] 27, bx b1 [.slice a_Ra a_Rn a_Rc, .slice a_Wa a_Wn a_Wc] 27, ow 9 1 encS okS (.slice A19 N19 C19) (([] : List ByteArray) ++ a.writes), bx b22 [.slice ra rn rc, .slice A19 N19 C19] 27] w140 [bx b5 [.slice none 0 0, .slice none 0 0] 27, bx b3 [.slice b_Ra b_Rn b_Rc, .slice b_Wa b_Wn b_Wc] 27, bx b1 [.slice a_Ra a_Rn a_Rc, .slice a_Wa a_Wn a_Wc] 27, ow 9 1 encS okS (.slice A19 N19 C19) (([] : List ByteArray) ++ a.writes), bx b22 [.slice ra rn rc, .slice A19 N19 C19] 27] wZ) #[yT, nF, yT, yT, yT, yT, yT, nF, nF, nF] 4 ?_ (fun G159 => ?_)
         · rintro a159 w159 ⟨F159, S159⟩
           obtain ⟨Q38, Q51, Q64⟩ := At.ownInv S159.at' ET_25.hk 3 rfl
           refine d_one (i := 1) (listed' := #[yT, yT, yT, yT, yT, yT, yT, nF, nF, nF]) rfl (by kernel_rfl) rfl rfl ?_
           refine f_val (v := .slice ra rn rc) F159 rfl rfl (r_loadB S159.at' 4 TI_25 rfl rfl (F159.ev 24 rfl) rfl rfl (fun _ => rfl) rfl) rfl fun _ F160 => ?_
           refine ⟨Sd.of S159 [1] rfl, ?_⟩
           exact G155 _ _ ⟨F160.cut rfl, S159.pick [0, 1, 2, 3, 4] rfl⟩
         refine g_take F137 rfl (i := 0) (listed' := #[yT, nF, nF, nF, nF, nF, nF, nF, nF, nF]) rfl (by kernel_rfl) (by kernel_rfl) (by kernel_rfl) (fun _ _ _ h => h) (Sd.of (Mv.refl S140.at') [1] rfl) rfl rfl rfl rfl (fun _ hz => (r_field FI_27_0 rfl (F137.ev 5 rfl) rfl)) fun _ F161 => ?_
         refine g_take F161 rfl (i := 2) (listed' := #[yT, nF, yT, nF, nF, nF, nF, nF, nF, nF]) rfl (by kernel_rfl) (by kernel_rfl) (by kernel_rfl) (fun _ _ _ h => h) (Sd.of (Mv.refl S140.at') [1] rfl) rfl rfl rfl rfl (fun _ hz => (r_field FI_27_0 rfl (F161.ev 3 rfl) rfl)) fun _ F162 => ?_
         refine g_take (v := .slice b_Ra b_Rn b_Rc) F162 rfl (i := 3) (listed' := #[yT, nF, yT, yT, nF, nF, nF, nF, nF, nF]) rfl (by kernel_rfl) (by kernel_rfl) (by kernel_rfl) (fun _ _ _ h => h) (Sd.of (Mv.refl S140.at') [1] rfl) rfl rfl rfl rfl (fun _ hz => (r_loadX (hz.bx 0 rfl) TI_25 rfl (F162.ev 26 rfl) rfl rfl (fun _ => rfl) rfl)) fun _ F163 => ?_
         refine g_take F163 rfl (i := 4) (listed' := #[yT, nF, yT, yT, yT, nF, nF, nF, nF, nF]) rfl (by kernel_rfl) (by kernel_rfl) (by kernel_rfl) (fun _ _ _ h => h) (Sd.of (Mv.refl S140.at') [1] rfl) rfl rfl rfl rfl (fun _ hz => (r_move rfl (F163.ev 6 rfl))) fun _ F164 => ?_
         obtain ⟨B165, O165, y165, ad165, hy165, oky165, ln165, cl165⟩ := Rd.atK (Nat.succ_pos _) (Rd.mq Q8 (S1.trans (S3.trans (S5.trans (S129.trans (S132.trans (S131.trans S140))))))) k (by first | assumption | omega)
         clear ln165
         obtain rfl := Option.some.inj (hx1.symm.trans hy165)
         clear hy165 oky165
         refine g_take F164 rfl (i := 5) (listed' := #[yT, nF, yT, yT, yT, yT, nF, nF, nF, nF]) rfl (by kernel_rfl) (by kernel_rfl) (by kernel_rfl) (fun _ _ _ h => h) (Sd.of (Mv.refl S140.at') [1] rfl) rfl rfl rfl rfl (fun _ hz => (r_indexAddr (i := k) ET_25 rfl ((F164.ev 27 rfl).trans (by rw [ad165])) (F164.ev 28 rfl) (by omega) (by first | assumption | omega))) fun _ F166 => ?_
         refine g_take (v := .string x1) F166 rfl (i := 6) (listed' := #[yT, nF, yT, yT, yT, yT, yT, nF, nF, nF]) rfl (by kernel_rfl) (by kernel_rfl) (by kernel_rfl) (fun _ _ _ h => h) (Sd.of (Mv.refl S140.at') [1] rfl) rfl rfl rfl rfl (fun _ hz => (r_load (cs := [.string x1]) TI_9 rfl (F166.ev 29 rfl) rfl (fun _ => rfl) (elem_sub (f := 0) (cl165 _ hz.kp) [.string x1] rfl))) fun _ F167 => ?_
         exact G159 _ _ ⟨F167.cut rfl, (Mv.refl S140.at').pick [0, 1, 2, 3, 4] rfl⟩
       · rintro a168 w168 ⟨Q0, Q4, Q2, F168, S168, V168_0⟩
         obtain ⟨ln168_0, le168_0, mx168_0, ni168_0⟩ := Rd.inv V168_0
         refine x_block_normal (x_normal (wp_region_lit (l_op (f_mv F168 rfl rfl rfl rfl rfl fun _ F169 => ?_))))
         refine l_op (f_val F169 rfl rfl (r_add (z := ((k + 1 : Nat) : Int)) rfl (F169.ev 22 rfl) rfl (by first | rfl | omega) ⟨by first | omega | (unfold i64ok at *; omega), by first | omega | (unfold i64ok at *; omega)⟩) rfl fun _ F170 => ?_)
         refine l_op (f_as F170 rfl rfl rfl rfl rfl fun _ F171 => ?_)
         refine s_end ?_
         refine x_normal ⟨k + 1, by omega, Q0, Q4, Q2, F171.cut rfl, ((S131.trans S168).pick [0, 1, 2, 3, 4] rfl), (Rd.cast V168_0 (by exact (joinL_step hx1).symm)), by omega⟩
     · skip
       refine wp_exit (x_then_exit (x_then_exit (x_block_here (x_normal (wp_seq (wp_seq (wp_region_lit (l_op (f_val F137 rfl rfl (r_assign rfl rfl) rfl fun _ F172 => ?_)))))))))
       refine s_end (x_normal (wp_block ?_))
       have Z174 : Rd 1 encS okS (V H w [bx b5 [.slice none 0 0, .slice none 0 0] 27, bx b3 [.slice b_Ra b_Rn b_Rc, .slice b_Wa b_Wn b_Wc] 27, bx b1 [.slice a_Ra a_Rn a_Rc, .slice a_Wa a_Wn a_Wc] 27, bx b22 [.slice ra rn rc, .slice A19 N19 C19] 27]) w131 (.slice A19 N19 C19) (([] : List ByteArray) ++ a.writes) := At.freeze (S1.trans (S3.trans (S5.trans (S129.trans (S132.trans S131))))) ET_25.hk 3 rfl (fun b hb => ((S1.trans (S3.trans (S5.trans (S129.trans (S132.trans S131))))).fresh b ⟨_, nth_mem (i := 3) rfl, hb⟩).resolve_left (fps_nil _))
       have S174 := At.drop S131.at' 3
       refine x_loop (fun (j : Nat) aZ wZ => ∃ (ua : Option Addr), ∃ (un : Nat), ∃ (uc : Nat), Fr 50 [(7, .int .i64 ((j : Nat) : Int)), (3, .pointer (some ⟨b3, 0, none⟩)), (4, .pointer (some ⟨b5, 0, none⟩)), (5, .pointer (some ⟨b22, 0, none⟩))] aZ ∧ Mv [bx b5 [.slice none 0 0, .slice none 0 0] 27, bx b3 [.slice b_Ra b_Rn b_Rc, .slice b_Wa b_Wn b_Wc] 27, bx b1 [.slice a_Ra a_Rn a_Rc, .slice a_Wa a_Wn a_Wc] 27, bx b22 [.slice ra rn rc, .slice A19 N19 C19] 27] w131 [bx b5 [.slice none 0 0, .slice none 0 0] 27, bx b3 [.slice b_Ra b_Rn b_Rc, .slice b_Wa b_Wn b_Wc] 27, bx b1 [.slice a_Ra a_Rn a_Rc, .slice a_Wa a_Wn a_Wc] 27, bx b22 [.slice ra rn rc, .slice ua un uc] 27] wZ ∧ Rd 1 encS okS (V H w [bx b5 [.slice none 0 0, .slice none 0 0] 27, bx b3 [.slice b_Ra b_Rn b_Rc, .slice b_Wa b_Wn b_Wc] 27, bx b1 [.slice a_Ra a_Rn a_Rc, .slice a_Wa a_Wn a_Wc] 27, bx b22 [.slice ra rn rc, .slice ua un uc] 27]) wZ (.slice ua un uc) (joinL a.writes (b.writes.take j)) ∧ (j ≤ b_Wn)) (fun (j : Nat) => b_Wn - j) (0) ?_ ?_
       · exact ⟨A19, N19, C19, F172.cut rfl, (Mv.refl S174.at'), Z174, by omega⟩
       · rintro j a173 w173 ⟨ua, un, uc, F173, S173, W173_0, h173_0⟩
         obtain ⟨lv173_0, lw173_0, lx173_0, ly173_0⟩ := Rd.inv W173_0
         have jl := joinL_length a.writes (b.writes.take j)
         rw [List.length_take] at jl
         refine wp_seq (wp_seq (wp_region_lit (l_op (f_mv F173 rfl rfl rfl rfl rfl fun _ F175 => ?_))))
         refine l_op (f_val F175 rfl rfl (r_field FI_27_1 rfl (F175.ev 3 rfl) rfl) rfl fun _ F176 => ?_)
         refine l_op (f_val (v := .slice b_Wa b_Wn b_Wc) F176 rfl rfl (r_loadB S173.at' 1 TI_25 rfl rfl (F176.ev 34 rfl) rfl rfl (fun _ => rfl) rfl) rfl fun _ F177 => ?_)
         refine l_op (f_val F177 rfl rfl (r_len Tryz.underlying25 rfl (F177.ev 35 rfl)) rfl fun _ F178 => ?_)
         refine l_op (f_val F178 rfl rfl (r_cmp (b := decide (j < b_Wn)) (.inr (.inr (.inl rfl))) rfl (F178.ev 33 rfl) (F178.ev 36 rfl) (dec_of (by omega))) rfl fun _ F179 => ?_)
         refine s_end (x_normal (x_cond (p := j < b_Wn) (F179.ev 37 rfl) (fun h180 => ?_) (fun h180 => ?_)))
         · skip
           refine wp_skip (x_normal (wp_seq (wp_block ?_)))
           obtain ⟨x1, hx1, okx1⟩ := Rd.elem (Rd.mq Q9 (S1.trans (S3.trans (S5.trans (S129.trans (S132.trans (S131.trans (S174.trans S173)))))))) j (by first | assumption | omega)
           refine x_draw (fun aZ wZ => ∃ (Q1 : Option Addr), ∃ (Q5 : Nat), ∃ (Q3 : Nat), Fr 50 [(3, .pointer (some ⟨b3, 0, none⟩)), (4, .pointer (some ⟨b5, 0, none⟩)), (5, .pointer (some ⟨b22, 0, none⟩)), (7, .int .i64 ((j : Nat) : Int))] aZ ∧ Mv [bx b5 [.slice none 0 0, .slice none 0 0] 27, bx b3 [.slice b_Ra b_Rn b_Rc, .slice b_Wa b_Wn b_Wc] 27, bx b1 [.slice a_Ra a_Rn a_Rc, .slice a_Wa a_Wn a_Wc] 27, bx b22 [.slice ra rn rc, .slice ua un uc] 27] w173 [bx b5 [.slice none 0 0, .slice none 0 0] 27, bx b3 [.slice b_Ra b_Rn b_Rc, .slice b_Wa b_Wn b_Wc] 27, bx b1 [.slice a_Ra a_Rn a_Rc, .slice a_Wa a_Wn a_Wc] 27, bx b22 [.slice ra rn rc, .slice Q1 Q5 Q3] 27] wZ ∧ Rd 1 encS okS (V H w [bx b5 [.slice none 0 0, .slice none 0 0] 27, bx b3 [.slice b_Ra b_Rn b_Rc, .slice b_Wa b_Wn b_Wc] 27, bx b1 [.slice a_Ra a_Rn a_Rc, .slice a_Wa a_Wn a_Wc] 27, bx b22 [.slice ra rn rc, .slice Q1 Q5 Q3] 27]) wZ (.slice Q1 Q5 Q3) (putL (joinL a.writes (b.writes.take j)) x1)) [bx b3 [.slice b_Ra b_Rn b_Rc, .slice b_Wa b_Wn b_Wc] 27] mixed S173.at' (listed := #[false, false, false, false, false, false, false, false, false, false]) rfl (fun w182 S182 => ?_) [1] rfl ?_
           · skip
             refine x_lem (fun aZ wZ => ∃ (Q1 : Option Addr), ∃ (Q5 : Nat), ∃ (Q3 : Nat), Fr 50 [(48, .pointer (some ⟨b22, 1, none⟩)), (47, .slice Q1 Q5 Q3), (7, .int .i64 ((j : Nat) : Int)), (3, .pointer (some ⟨b3, 0, none⟩)), (4, .pointer (some ⟨b5, 0, none⟩)), (5, .pointer (some ⟨b22, 0, none⟩))] aZ ∧ Mv [bx b5 [.slice none 0 0, .slice none 0 0] 27, bx b3 [.slice b_Ra b_Rn b_Rc, .slice b_Wa b_Wn b_Wc] 27, bx b1 [.slice a_Ra a_Rn a_Rc, .slice a_Wa a_Wn a_Wc] 27, bx b22 [.slice ra rn rc, .slice ua un uc] 27] w182 [bx b5 [.slice none 0 0, .slice none 0 0] 27, bx b3 [.slice b_Ra b_Rn b_Rc, .slice b_Wa b_Wn b_Wc] 27, bx b1 [.slice a_Ra a_Rn a_Rc, .slice a_Wa a_Wn a_Wc] 27, bx b22 [.slice ra rn rc, .slice ua un uc] 27] wZ ∧ Rd 1 encS okS (V H w [bx b5 [.slice none 0 0, .slice none 0 0] 27, bx b3 [.slice b_Ra b_Rn b_Rc, .slice b_Wa b_Wn b_Wc] 27, bx b1 [.slice a_Ra a_Rn a_Rc, .slice a_Wa a_Wn a_Wc] 27, bx b22 [.slice ra rn rc, .slice ua un uc] 27]) wZ (.slice Q1 Q5 Q3) (putL (joinL a.writes (b.writes.take j)) x1)) #[yT, yT, yT, yT, yT, yT, yT, yT, yT, nF] 1 ?_ (fun G195 => ?_)
             · rintro a195 w195 ⟨Q1, Q5, Q3, F195, S195, W195_0⟩
               refine d_one (i := 9) (listed' := #[yT, yT, yT, yT, yT, yT, yT, yT, yT, yT]) rfl (by kernel_rfl) rfl rfl ?_
               refine s_store S195.at' 3 TI_25 rfl rfl rfl rfl rfl (F195.ev 48 rfl) (F195.ev 47 rfl) rfl rfl rfl rfl rfl fun w196 S196 => ?_
               refine ⟨Sd.of (S195.trans S196) [2] rfl, ?_⟩
               refine wpAnyH_done (by kernel_rfl) (x_normal ?_) _
               exact ⟨Q1, Q5, Q3, F195.cut rfl, ((S182.trans (S195.trans S196)).pick [1, 2, 3, 0] rfl), (Rd.mq (Rd.mq W195_0 S196) (Mv.pick (Mv.refl S196.at') [1, 2, 3, 0] rfl))⟩
             refine x_lem (fun aZ wZ => Fr 50 [(41, .slice ua un uc), (46, .string x1), (7, .int .i64 ((j : Nat) : Int)), (3, .pointer (some ⟨b3, 0, none⟩)), (4, .pointer (some ⟨b5, 0, none⟩)), (5, .pointer (some ⟨b22, 0, none⟩))] aZ ∧ Mv [bx b5 [.slice none 0 0, .slice none 0 0] 27, bx b3 [.slice b_Ra b_Rn b_Rc, .slice b_Wa b_Wn b_Wc] 27, bx b1 [.slice a_Ra a_Rn a_Rc, .slice a_Wa a_Wn a_Wc] 27, bx b22 [.slice ra rn rc, .slice ua un uc] 27] w182 [bx b5 [.slice none 0 0, .slice none 0 0] 27, bx b3 [.slice b_Ra b_Rn b_Rc, .slice b_Wa b_Wn b_Wc] 27, bx b1 [.slice a_Ra a_Rn a_Rc, .slice a_Wa a_Wn a_Wc] 27, bx b22 [.slice ra rn rc, .slice ua un uc] 27] wZ) #[yT, yT, yT, yT, yT, yT, yT, nF, nF, nF] 3 ?_ (fun G197 => ?_)
             · rintro a197 w197 ⟨F197, S197⟩
               refine d_one (i := 7) (listed' := #[yT, yT, yT, yT, yT, yT, yT, yT, nF, nF]) rfl (by kernel_rfl) rfl rfl ?_
               refine f_call F197 CF_96 rfl rfl rfl rfl (lc (F197.ev 41 rfl) (lc (F197.ev 46 rfl) rfl)) (spec_AddSpan_c (list := joinL a.writes (b.writes.take j)) (span := x1) (Rd.mq W173_0 (S182.trans S197)) okx1 (by first | assumption | omega | (simp <;> omega))) ?_
               rintro _ w198 ⟨Q21, Q25, Q23, rfl, m198, v198_0⟩
               refine ⟨_, rfl, fun _ F199 => ?_⟩
               have S198 := At.frame0 S197.at' m198
               have V198_0 := Rd.got0 S197.at' ((S1.trans (S3.trans (S5.trans (S129.trans (S132.trans (S131.trans (S174.trans (S173.trans (S182.trans S197))))))))).kp.size) v198_0 S198
               obtain ⟨ln198_0, le198_0, mx198_0, ni198_0⟩ := Rd.inv V198_0
               clear m198 v198_0
               refine ⟨Sd.of (S197.trans S198) [1] rfl, ?_⟩
               refine g_take F199 rfl (i := 8) (listed' := #[yT, yT, yT, yT, yT, yT, yT, yT, yT, nF]) rfl (by kernel_rfl) (by kernel_rfl) (by kernel_rfl) (fun _ _ _ h => h) (Sd.of (S197.trans S198) [1] rfl) rfl rfl rfl rfl (fun _ hz => (r_field FI_27_1 rfl (F199.ev 5 rfl) rfl)) fun _ F200 => ?_
               exact G195 _ _ ⟨Q21, Q25, Q23, F200.cut rfl, (S197.trans S198).pick [0, 1, 2, 3] rfl, V198_0⟩
             refine x_lem (fun aZ wZ => Fr 50 [(46, .string x1), (40, .pointer (some ⟨b22, 1, none⟩)), (7, .int .i64 ((j : Nat) : Int)), (3, .pointer (some ⟨b3, 0, none⟩)), (4, .pointer (some ⟨b5, 0, none⟩)), (5, .pointer (some ⟨b22, 0, none⟩))] aZ ∧ Mv [bx b5 [.slice none 0 0, .slice none 0 0] 27, bx b3 [.slice b_Ra b_Rn b_Rc, .slice b_Wa b_Wn b_Wc] 27, bx b1 [.slice a_Ra a_Rn a_Rc, .slice a_Wa a_Wn a_Wc] 27, bx b22 [.slice ra rn rc, .slice ua un uc] 27] w182 [bx b5 [.slice none 0 0, .slice none 0 0] 27, bx b3 [.slice b_Ra b_Rn b_Rc, .slice b_Wa b_Wn b_Wc] 27, bx b1 [.slice a_Ra a_Rn a_Rc, .slice a_Wa a_Wn a_Wc] 27, bx b22 [.slice ra rn rc, .slice ua un uc] 27] wZ) #[yT, nF, yT, yT, yT, yT, yT, nF, nF, nF] 4 ?_ (fun G201 => ?_)
             · rintro a201 w201 ⟨F201, S201⟩
               refine d_one (i := 1) (listed' := #[yT, yT, yT, yT, yT, yT, yT, nF, nF, nF]) rfl (by kernel_rfl) rfl rfl ?_
               refine f_val (v := .slice ua un uc) F201 rfl rfl (r_loadB S201.at' 3 TI_25 rfl rfl (F201.ev 40 rfl) rfl rfl (fun _ => rfl) rfl) rfl fun _ F202 => ?_
               refine ⟨Sd.of S201 [1] rfl, ?_⟩
               exact G197 _ _ ⟨F202.cut rfl, S201.pick [0, 1, 2, 3] rfl⟩
             refine g_take F179 rfl (i := 0) (listed' := #[yT, nF, nF, nF, nF, nF, nF, nF, nF, nF]) rfl (by kernel_rfl) (by kernel_rfl) (by kernel_rfl) (fun _ _ _ h => h) (Sd.of (Mv.refl S182.at') [1] rfl) rfl rfl rfl rfl (fun _ hz => (r_field FI_27_1 rfl (F179.ev 5 rfl) rfl)) fun _ F203 => ?_
             refine g_take F203 rfl (i := 2) (listed' := #[yT, nF, yT, nF, nF, nF, nF, nF, nF, nF]) rfl (by kernel_rfl) (by kernel_rfl) (by kernel_rfl) (fun _ _ _ h => h) (Sd.of (Mv.refl S182.at') [1] rfl) rfl rfl rfl rfl (fun _ hz => (r_field FI_27_1 rfl (F203.ev 3 rfl) rfl)) fun _ F204 => ?_
             refine g_take (v := .slice b_Wa b_Wn b_Wc) F204 rfl (i := 3) (listed' := #[yT, nF, yT, yT, nF, nF, nF, nF, nF, nF]) rfl (by kernel_rfl) (by kernel_rfl) (by kernel_rfl) (fun _ _ _ h => h) (Sd.of (Mv.refl S182.at') [1] rfl) rfl rfl rfl rfl (fun _ hz => (r_loadX (hz.bx 0 rfl) TI_25 rfl (F204.ev 42 rfl) rfl rfl (fun _ => rfl) rfl)) fun _ F205 => ?_
             refine g_take F205 rfl (i := 4) (listed' := #[yT, nF, yT, yT, yT, nF, nF, nF, nF, nF]) rfl (by kernel_rfl) (by kernel_rfl) (by kernel_rfl) (fun _ _ _ h => h) (Sd.of (Mv.refl S182.at') [1] rfl) rfl rfl rfl rfl (fun _ hz => (r_move rfl (F205.ev 7 rfl))) fun _ F206 => ?_
             obtain ⟨B207, O207, y207, ad207, hy207, oky207, ln207, cl207⟩ := Rd.atK (Nat.succ_pos _) (Rd.mq Q9 (S1.trans (S3.trans (S5.trans (S129.trans (S132.trans (S131.trans (S174.trans (S173.trans S182))))))))) j (by first | assumption | omega)
             clear ln207
             obtain rfl := Option.some.inj (hx1.symm.trans hy207)
             clear hy207 oky207
             refine g_take F206 rfl (i := 5) (listed' := #[yT, nF, yT, yT, yT, yT, nF, nF, nF, nF]) rfl (by kernel_rfl) (by kernel_rfl) (by kernel_rfl) (fun _ _ _ h => h) (Sd.of (Mv.refl S182.at') [1] rfl) rfl rfl rfl rfl (fun _ hz => (r_indexAddr (i := j) ET_25 rfl ((F206.ev 43 rfl).trans (by rw [ad207])) (F206.ev 44 rfl) (by omega) (by first | assumption | omega))) fun _ F208 => ?_
             refine g_take (v := .string x1) F208 rfl (i := 6) (listed' := #[yT, nF, yT, yT, yT, yT, yT, nF, nF, nF]) rfl (by kernel_rfl) (by kernel_rfl) (by kernel_rfl) (fun _ _ _ h => h) (Sd.of (Mv.refl S182.at') [1] rfl) rfl rfl rfl rfl (fun _ hz => (r_load (cs := [.string x1]) TI_9 rfl (F208.ev 45 rfl) rfl (fun _ => rfl) (elem_sub (f := 0) (cl207 _ hz.kp) [.string x1] rfl))) fun _ F209 => ?_
             exact G201 _ _ ⟨F209.cut rfl, (Mv.refl S182.at').pick [0, 1, 2, 3] rfl⟩
           · rintro a210 w210 ⟨Q1, Q5, Q3, F210, S210, V210_0⟩
             obtain ⟨ln210_0, le210_0, mx210_0, ni210_0⟩ := Rd.inv V210_0
             refine x_block_normal (x_normal (wp_region_lit (l_op (f_mv F210 rfl rfl rfl rfl rfl fun _ F211 => ?_))))
             refine l_op (f_val F211 rfl rfl (r_add (z := ((j + 1 : Nat) : Int)) rfl (F211.ev 38 rfl) rfl (by first | rfl | omega) ⟨by first | omega | (unfold i64ok at *; omega), by first | omega | (unfold i64ok at *; omega)⟩) rfl fun _ F212 => ?_)
             refine l_op (f_as F212 rfl rfl rfl rfl rfl fun _ F213 => ?_)
             refine s_end ?_
             refine x_normal ⟨j + 1, by omega, Q1, Q5, Q3, F213.cut rfl, ((S173.trans S210).pick [0, 1, 2, 3] rfl), (Rd.cast V210_0 (by exact (joinL_step hx1).symm)), by omega⟩
         · skip
           refine wp_exit (x_then_exit (x_then_exit (x_block_here (x_normal (wp_seq (wp_region_lit (l_op (f_val (v := .agg #[.slice ra rn rc, .slice ua un uc]) F179 rfl rfl (r_loadB S173.at' 3 TI_27 rfl rfl (F179.ev 5 rfl) rfl rfl (fun h => nomatch h) rfl) rfl fun _ F214 => ?_))))))))
           refine l_op (s_store S173.at' 0 TI_27 rfl rfl rfl rfl rfl (F214.ev 4 rfl) (F214.ev 49 rfl) rfl rfl rfl rfl rfl fun w215 S215 => ?_)
           have T216 : Mv _ _ [bx b5 [.slice ra rn rc, .slice ua un uc] 27, bx b3 [.slice b_Ra b_Rn b_Rc, .slice b_Wa b_Wn b_Wc] 27, bx b1 [.slice a_Ra a_Rn a_Rc, .slice a_Wa a_Wn a_Wc] 27, bx b22 [.slice ra rn rc, .slice ua un uc] 27] _ := S215
           refine s_end (x_normal (wp_ret ?_))
           refine x_done (v := .agg #[.slice ra rn rc, .slice ua un uc]) F214 (results_1 Tryz.results79 (.cell (F214.ev 4 rfl) (run_loadVar' TI_27 _ [.slice ra rn rc, .slice ua un uc] rfl (fun h => nomatch h) (At.cells T216.at' 0 rfl 0 [.slice ra rn rc, .slice ua un uc] rfl)))) ?_
           exact ⟨ra, rn, rc, ua, un, uc, rfl, (Mv.pick (S1.trans (S3.trans (S5.trans (S129.trans (S132.trans (S131.trans (S174.trans (S173.trans T216)))))))) [] rfl), (Rd.cast (Rd.give (Rd.mq W131_0 (S174.trans (S173.trans T216)))) (show (joinL a.reads (b.reads.take k)) = (joinT a b).reads from by unfold joinT; dsimp only; congr 1; exact List.take_of_length_le (by omega))), (Rd.cast (Rd.give (Rd.mq W173_0 T216)) (show (joinL a.writes (b.writes.take j)) = (joinT a b).writes from by unfold joinT; dsimp only; congr 1; exact List.take_of_length_le (by omega)))⟩
theorem spec_l04Copy_c {w : World} {H : Nat → Prop} {m : MachD} {m_Sa : Option Addr} {m_Sn m_Sc : Nat} {m_Ra : Option Addr} {m_Rn m_Rc : Nat} {m_Wa : Option Addr} {m_Wn m_Wc : Nat} (Q15 : Rd 2 encC okC H w (.slice m_Sa m_Sn m_Sc) m.store) (Q16 : Rd 1 encS okS H w (.slice m_Ra m_Rn m_Rc) m.touch.reads) (Q17 : Rd 1 encS okS H w (.slice m_Wa m_Wn m_Wc) m.touch.writes) (p0 : m.store.length ≤ 274877906944) (p1 : m.touch.reads.length ≤ 274877906944) (p2 : m.touch.writes.length ≤ 274877906944) :
    Calls Tryz.prog 42 #[.agg #[.slice m_Sa m_Sn m_Sc, .slice m_Ra m_Rn m_Rc, .slice m_Wa m_Wn m_Wc]] w fun e w' => ∃ (Q9 : Option Addr), ∃ (Q11 : Nat), ∃ (Q10 : Nat), ∃ (Q6 : Option Addr), ∃ (Q8 : Nat), ∃ (Q7 : Nat), ∃ (Q12 : Option Addr), ∃ (Q14 : Nat), ∃ (Q13 : Nat), e = .returned (.agg #[.slice Q9 Q11 Q10, .slice Q6 Q8 Q7, .slice Q12 Q14 Q13]) ∧ Mv [] w [] w' ∧ Rd 2 encC okC (Fsh H w) w' (.slice Q9 Q11 Q10) m.store ∧ Rd 1 encS okS (Fsh H w) w' (.slice Q6 Q8 Q7) m.touch.reads ∧ Rd 1 encS okS (Fsh H w) w' (.slice Q12 Q14 Q13) m.touch.writes := by
 have uU : True := (fun _ _ _ => trivial) p0 p1 p2
 clear uU
 have Q18 : Rd 2 encC okC (V H w []) w (.slice m_Sa m_Sn m_Sc) m.store := Rd.start Q15 (fun _ _ => fps_nil _)
 obtain ⟨Q24, Q21, Q30, Q33⟩ := Rd.inv Q15
 have Q19 : Rd 1 encS okS (V H w []) w (.slice m_Ra m_Rn m_Rc) m.touch.reads := Rd.start Q16 (fun _ _ => fps_nil _)
 obtain ⟨Q25, Q22, Q31, Q34⟩ := Rd.inv Q16
 have Q20 : Rd 1 encS okS (V H w []) w (.slice m_Wa m_Wn m_Wc) m.touch.writes := Rd.start Q17 (fun _ _ => fps_nil _)
 obtain ⟨Q26, Q23, Q32, Q35⟩ := Rd.inv Q17
 refine calls_enter 12 Tryz.func42 rfl Tryz.ntmps42 (Nat.le_of_ble_eq_true rfl) (fun _ F0i => ?_)
 have F0 : Fr 12 [(0, .agg #[.slice m_Sa m_Sn m_Sc, .slice m_Ra m_Rn m_Rc, .slice m_Wa m_Wn m_Wc])] _ := F0i
 clear F0i
 refine wp_seq (wp_region_lit (l_op (f_box F0 (At.nil w) rfl rfl rfl (F0.ev 0 rfl) rfl rfl fun b1 _ w1 F2 S1 => ?_)))
 refine l_op (f_alloc F2 S1.at' ZI_29 rfl rfl rfl rfl rfl fun b3 _ w3 F4 S3 => ?_)
 refine s_end (x_normal (wp_seq ?_))
 refine x_draw (fun aZ wZ => ∃ (b12 : Nat), ∃ (A14 : Option Addr), ∃ (N14 : Nat), ∃ (C14 : Nat), ∃ (Q0 : Option Addr), ∃ (Q2 : Nat), ∃ (Q1 : Nat), ∃ (Q3 : Option Addr), ∃ (Q5 : Nat), ∃ (Q4 : Nat), Fr 12 [(2, .pointer (some ⟨b3, 0, none⟩))] aZ ∧ Mv [bx b3 [.slice none 0 0, .slice none 0 0, .slice none 0 0] 29, bx b1 [.slice m_Sa m_Sn m_Sc, .slice m_Ra m_Rn m_Rc, .slice m_Wa m_Wn m_Wc] 29] w3 [bx b3 [.slice A14 N14 C14, .slice Q0 Q2 Q1, .slice Q3 Q5 Q4] 29, bx b1 [.slice m_Sa m_Sn m_Sc, .slice m_Ra m_Rn m_Rc, .slice m_Wa m_Wn m_Wc] 29, ow 73 2 encC okC (.slice A14 N14 C14) (([] : List CellD) ++ m.store)] wZ ∧ Rd 1 encS okS (V H w [bx b3 [.slice A14 N14 C14, .slice Q0 Q2 Q1, .slice Q3 Q5 Q4] 29, bx b1 [.slice m_Sa m_Sn m_Sc, .slice m_Ra m_Rn m_Rc, .slice m_Wa m_Wn m_Wc] 29, ow 73 2 encC okC (.slice A14 N14 C14) (([] : List CellD) ++ m.store)]) wZ (.slice Q0 Q2 Q1) (joinT m.touch (⟨[], []⟩ : TouchD)).reads ∧ Rd 1 encS okS (V H w [bx b3 [.slice A14 N14 C14, .slice Q0 Q2 Q1, .slice Q3 Q5 Q4] 29, bx b1 [.slice m_Sa m_Sn m_Sc, .slice m_Ra m_Rn m_Rc, .slice m_Wa m_Wn m_Wc] 29, ow 73 2 encC okC (.slice A14 N14 C14) (([] : List CellD) ++ m.store)]) wZ (.slice Q3 Q5 Q4) (joinT m.touch (⟨[], []⟩ : TouchD)).writes) [bx b1 [.slice m_Sa m_Sn m_Sc, .slice m_Ra m_Rn m_Rc, .slice m_Wa m_Wn m_Wc] 29] mixed S3.at' (listed := #[false, false, false, false, false, false, false, false, false, false]) rfl (fun w6 S6 => ?_) [1] rfl ?_
 · skip
   refine g_take F4 rfl (i := 1) (listed' := #[false, true, false, false, false, false, false, false, false, false]) rfl (by kernel_rfl) (by kernel_rfl) (by kernel_rfl) (fun _ _ _ h => h) (Sd.of (Mv.refl S6.at') [1] rfl) rfl rfl rfl rfl (fun _ hz => (r_field FI_29_0 rfl (F4.ev 1 rfl) rfl)) fun _ F7 => ?_
   refine g_take (v := .slice m_Sa m_Sn m_Sc) F7 rfl (i := 2) (listed' := #[false, true, true, false, false, false, false, false, false, false]) rfl (by kernel_rfl) (by kernel_rfl) (by kernel_rfl) (fun _ _ _ h => h) (Sd.of (Mv.refl S6.at') [1] rfl) rfl rfl rfl rfl (fun _ hz => (r_loadX (hz.bx 0 rfl) TI_24 rfl (F7.ev 4 rfl) rfl rfl (fun _ => rfl) rfl)) fun _ F8 => ?_
   refine g_take F8 rfl (i := 4) (listed' := #[false, true, true, false, true, false, false, false, false, false]) rfl (by kernel_rfl) (by kernel_rfl) (by kernel_rfl) (fun _ _ _ h => h) (Sd.of (Mv.refl S6.at') [1] rfl) rfl rfl rfl rfl (fun _ hz => (r_field FI_29_1 rfl (F8.ev 1 rfl) rfl)) fun _ F9 => ?_
   refine g_take (v := .agg #[.slice m_Ra m_Rn m_Rc, .slice m_Wa m_Wn m_Wc]) F9 rfl (i := 5) (listed' := #[false, true, true, false, true, true, false, false, false, false]) rfl (by kernel_rfl) (by kernel_rfl) (by kernel_rfl) (fun _ _ _ h => h) (Sd.of (Mv.refl S6.at') [1] rfl) rfl rfl rfl rfl (fun _ hz => (r_loadX (hz.bx 0 rfl) TI_27 rfl (F9.ev 7 rfl) rfl rfl (fun h => nomatch h) rfl)) fun _ F10 => ?_
   refine g_take (v := .agg #[.slice none 0 0, .slice none 0 0]) F10 rfl (i := 6) (listed' := #[false, true, true, false, true, true, true, false, false, false]) rfl (by kernel_rfl) (by kernel_rfl) (by kernel_rfl) (fun _ _ _ h => h) (Sd.of (Mv.refl S6.at') [1] rfl) rfl rfl rfl rfl (fun _ hz => (r_build BI_27 rfl rfl rfl)) fun _ F11 => ?_
   refine d_one (i := 0) (listed' := #[true, true, true, false, true, true, true, false, false, false]) rfl (by kernel_rfl) rfl rfl ?_
   refine f_buildSl (ok := okC) (vs := []) F11 S6.at' (([] : List CellD)) ET_24 rfl rfl rfl rfl rfl rfl rfl rfl rfl (by simp) fun b12 _ w12 F13 S12 => ?_
   refine ⟨Sd.of S12 [2] rfl, ?_⟩
   refine d_one (i := 3) (listed' := #[true, true, true, true, true, true, true, false, false, false]) rfl (by kernel_rfl) rfl rfl ?_
   refine f_app (news := m.store) F13 S12.at' 0 ET_24 rfl rfl rfl rfl rfl rfl (F13.ev 3 rfl) (F13.ev 5 rfl) ((Rd.mq Q18 (S1.trans (S3.trans (S6.trans S12))))).1 (by ((repeat (first | rw [List.length_append] | rw [List.length_cons] | rw [List.length_nil] | rw [List.length_take] | rw [List.length_drop])) <;> omega)) fun A14 N14 C14 _ w14 F15 S14 l14 => ?_
   refine ⟨Sd.of (S12.trans S14) [2] rfl, ?_⟩
   refine d_one (i := 7) (listed' := #[true, true, true, true, true, true, true, true, false, false]) rfl (by kernel_rfl) rfl rfl ?_
   refine f_call F15 CF_79 rfl rfl rfl rfl (lc (F15.ev 8 rfl) (lc (F15.ev 9 rfl) rfl)) (spec_JoinTouch_c (a := m.touch) (b := (⟨[], []⟩ : TouchD)) (Rd.mq Q19 (S1.trans (S3.trans (S6.trans (S12.trans S14))))) (Rd.mq Q20 (S1.trans (S3.trans (S6.trans (S12.trans S14))))) Rd.nil Rd.nil (by first | assumption | omega | (simp <;> omega)) (by first | assumption | omega | (simp <;> omega)) (by first | assumption | omega | (simp <;> omega)) (by first | assumption | omega | (simp <;> omega))) ?_
   rintro _ w16 ⟨Q0, Q2, Q1, Q3, Q5, Q4, rfl, m16, v16_0, v16_1⟩
   refine ⟨_, rfl, fun _ F17 => ?_⟩
   have S16 := At.frame0 S14.at' m16
   have V16_0 := Rd.got0 S14.at' ((S1.trans (S3.trans (S6.trans (S12.trans S14)))).kp.size) v16_0 S16
   obtain ⟨ln16_0, le16_0, mx16_0, ni16_0⟩ := Rd.inv V16_0
   have V16_1 := Rd.got0 S14.at' ((S1.trans (S3.trans (S6.trans (S12.trans S14)))).kp.size) v16_1 S16
   obtain ⟨ln16_1, le16_1, mx16_1, ni16_1⟩ := Rd.inv V16_1
   clear m16 v16_0 v16_1
   refine ⟨Sd.of (S12.trans (S14.trans S16)) [2] rfl, ?_⟩
   refine g_take (v := .agg #[.slice A14 N14 C14, .slice Q0 Q2 Q1, .slice Q3 Q5 Q4]) F17 rfl (i := 8) (listed' := #[true, true, true, true, true, true, true, true, true, false]) rfl (by kernel_rfl) (by kernel_rfl) (by kernel_rfl) (fun _ _ _ h => h) (Sd.of (S12.trans (S14.trans S16)) [2] rfl) rfl rfl rfl rfl (fun _ hz => (r_build BI_29 rfl (lc (pr2 (F17.ev 6 rfl)) (lc (pr2 (F17.ev 10 rfl)) rfl)) rfl)) fun _ F18 => ?_
   refine d_one (i := 9) (listed' := #[true, true, true, true, true, true, true, true, true, true]) rfl (by kernel_rfl) rfl rfl ?_
   refine s_store S16.at' 1 TI_29 rfl rfl rfl rfl rfl (F18.ev 2 rfl) (F18.ev 11 rfl) rfl rfl rfl rfl rfl fun w19 S19 => ?_
   refine ⟨Sd.of (S12.trans (S14.trans (S16.trans S19))) [2] rfl, ?_⟩
   refine wpAnyH_done (by kernel_rfl) (x_normal ?_) _
   exact ⟨b12, A14, N14, C14, Q0, Q2, Q1, Q3, Q5, Q4, F18.cut rfl, ((S6.trans (S12.trans (S14.trans (S16.trans S19)))).pick [0, 2, 1] rfl), (Rd.mq (Rd.mq V16_0 S19) (Mv.pick (Mv.refl S19.at') [0, 2, 1] rfl)), (Rd.mq (Rd.mq V16_1 S19) (Mv.pick (Mv.refl S19.at') [0, 2, 1] rfl))⟩
 · rintro a20 w20 ⟨b12, A14, N14, C14, Q0, Q2, Q1, Q3, Q5, Q4, F20, S20, V20_0, V20_1⟩
   obtain ⟨ln20_0, le20_0, mx20_0, ni20_0⟩ := Rd.inv V20_0
   obtain ⟨ln20_1, le20_1, mx20_1, ni20_1⟩ := Rd.inv V20_1
   obtain ⟨Q27, Q28, Q29⟩ := At.ownInv S20.at' ET_24.hk 2 rfl
   refine x_normal (wp_ret ?_)
   have Z21 : Rd 2 encC okC (V H w [bx b3 [.slice A14 N14 C14, .slice Q0 Q2 Q1, .slice Q3 Q5 Q4] 29, bx b1 [.slice m_Sa m_Sn m_Sc, .slice m_Ra m_Rn m_Rc, .slice m_Wa m_Wn m_Wc] 29]) w20 (.slice A14 N14 C14) (([] : List CellD) ++ m.store) := At.freeze (S1.trans (S3.trans S20)) ET_24.hk 2 rfl (fun b hb => ((S1.trans (S3.trans S20)).fresh b ⟨_, nth_mem (i := 2) rfl, hb⟩).resolve_left (fps_nil _))
   have S21 := At.drop S20.at' 2
   refine x_done (v := .agg #[.slice A14 N14 C14, .slice Q0 Q2 Q1, .slice Q3 Q5 Q4]) F20 (results_1 Tryz.results42 (.cell (F20.ev 2 rfl) (run_loadVar' TI_29 _ [.slice A14 N14 C14, .slice Q0 Q2 Q1, .slice Q3 Q5 Q4] rfl (fun h => nomatch h) (At.cells S20.at' 0 rfl 0 [.slice A14 N14 C14, .slice Q0 Q2 Q1, .slice Q3 Q5 Q4] rfl)))) ?_
   exact ⟨A14, N14, C14, Q0, Q2, Q1, Q3, Q5, Q4, rfl, (Mv.pick (S1.trans (S3.trans (S20.trans S21))) [] rfl), (Rd.cast (Rd.give Z21) (show (([] : List CellD) ++ m.store) = m.store from by first | rfl | simp [joinT, joinL])), (Rd.cast (Rd.give (Rd.mq V20_0 S21)) (show (joinT m.touch (⟨[], []⟩ : TouchD)).reads = m.touch.reads from by first | rfl | simp [joinT, joinL])), (Rd.cast (Rd.give (Rd.mq V20_1 S21)) (show (joinT m.touch (⟨[], []⟩ : TouchD)).writes = m.touch.writes from by first | rfl | simp [joinT, joinL]))⟩
theorem spec_l04Look_c {w : World} {H : Nat → Prop} {m : MachD} {m_Sa : Option Addr} {m_Sn m_Sc : Nat} {m_Ra : Option Addr} {m_Rn m_Rc : Nat} {m_Wa : Option Addr} {m_Wn m_Wc : Nat} {key : ByteArray} (Q14 : Rd 2 encC okC H w (.slice m_Sa m_Sn m_Sc) m.store) (Q15 : Rd 1 encS okS H w (.slice m_Ra m_Rn m_Rc) m.touch.reads) (Q16 : Rd 1 encS okS H w (.slice m_Wa m_Wn m_Wc) m.touch.writes) (Q4 : okS key) (p0 : m.touch.reads.length ≤ 274877906944) :
    Calls Tryz.prog 81 #[.agg #[.slice m_Sa m_Sn m_Sc, .slice m_Ra m_Rn m_Rc, .slice m_Wa m_Wn m_Wc], .string key] w fun e w' => ∃ (Q8 : Option Addr), ∃ (Q10 : Nat), ∃ (Q9 : Nat), ∃ (Q5 : Option Addr), ∃ (Q7 : Nat), ∃ (Q6 : Nat), ∃ (Q11 : Option Addr), ∃ (Q13 : Nat), ∃ (Q12 : Nat), e = .returned (.tuple #[.agg #[.slice Q8 Q10 Q9, .slice Q5 Q7 Q6, .slice Q11 Q13 Q12], .string (getKey m.store key)]) ∧ Mv [] w [] w' ∧ Rd 2 encC okC (Fsh H w) w' (.slice Q8 Q10 Q9) (lookM m key).store ∧ Rd 1 encS okS (Fsh H w) w' (.slice Q5 Q7 Q6) (lookM m key).touch.reads ∧ Rd 1 encS okS (Fsh H w) w' (.slice Q11 Q13 Q12) (lookM m key).touch.writes ∧ okS (getKey m.store key) := by
 have uU : True := (fun _ => trivial) p0
 clear uU
 have Q3 : Rd 2 encC okC (V H w []) w (.slice m_Sa m_Sn m_Sc) m.store := Rd.start Q14 (fun _ _ => fps_nil _)
 obtain ⟨Q24, Q21, Q27, Q30⟩ := Rd.inv Q14
 have Q17 : Rd 1 encS okS (V H w []) w (.slice m_Ra m_Rn m_Rc) m.touch.reads := Rd.start Q15 (fun _ _ => fps_nil _)
 obtain ⟨Q25, Q22, Q28, Q31⟩ := Rd.inv Q15
 have Q18 : Rd 1 encS okS (V H w []) w (.slice m_Wa m_Wn m_Wc) m.touch.writes := Rd.start Q16 (fun _ _ => fps_nil _)
 obtain ⟨Q26, Q23, Q29, Q32⟩ := Rd.inv Q16
 refine calls_enter 18 Tryz.func81 rfl Tryz.ntmps81 (Nat.le_of_ble_eq_true rfl) (fun _ F0i => ?_)
 have F0 : Fr 18 [(0, .agg #[.slice m_Sa m_Sn m_Sc, .slice m_Ra m_Rn m_Rc, .slice m_Wa m_Wn m_Wc]), (1, .string key)] _ := F0i
 clear F0i
 refine wp_seq (wp_region_lit (l_op (f_box F0 (At.nil w) rfl rfl rfl (F0.ev 0 rfl) rfl rfl fun b1 _ w1 F2 S1 => ?_)))
 refine l_op (f_alloc F2 S1.at' ZI_29 rfl rfl rfl rfl rfl fun b3 _ w3 F4 S3 => ?_)
 refine l_op (f_val F4 rfl rfl (r_assign rfl rfl) rfl fun _ F5 => ?_)
 refine s_end (x_normal (wp_seq (wp_region_lit (l_op (f_val F5 rfl rfl (r_field FI_29_1 rfl (F5.ev 2 rfl) rfl) rfl fun _ F6 => ?_)))))
 refine l_op (f_val F6 rfl rfl (r_field FI_27_0 rfl (F6.ev 6 rfl) rfl) rfl fun _ F7 => ?_)
 refine l_op (f_val (v := .slice m_Ra m_Rn m_Rc) F7 rfl rfl (r_loadB S3.at' 1 TI_25 rfl rfl (F7.ev 7 rfl) rfl rfl (fun _ => rfl) rfl) rfl fun _ F8 => ?_)
 refine l_op (f_mv F8 rfl rfl rfl rfl rfl fun _ F9 => ?_)
 refine l_op (f_call F9 CF_96 rfl rfl rfl rfl (lc (F9.ev 8 rfl) (lc (F9.ev 9 rfl) rfl)) (spec_AddSpan_c (list := m.touch.reads) (span := key) (Rd.mq Q17 (S1.trans S3)) Q4 (by first | assumption | omega | (simp <;> omega))) ?_)
 rintro _ w10 ⟨Q0, Q2, Q1, rfl, m10, v10_0⟩
 refine ⟨_, rfl, fun _ F11 => ?_⟩
 have S10 := At.frame0 S3.at' m10
 have V10_0 := Rd.got0 S3.at' ((S1.trans S3).kp.size) v10_0 S10
 obtain ⟨ln10_0, le10_0, mx10_0, ni10_0⟩ := Rd.inv V10_0
 clear m10 v10_0
 refine l_op (f_val F11 rfl rfl (r_field FI_29_1 rfl (F11.ev 2 rfl) rfl) rfl fun _ F12 => ?_)
 refine l_op (f_val F12 rfl rfl (r_field FI_27_0 rfl (F12.ev 11 rfl) rfl) rfl fun _ F13 => ?_)
 refine l_op (s_store S10.at' 1 TI_25 rfl rfl rfl rfl rfl (F13.ev 12 rfl) (F13.ev 10 rfl) rfl rfl rfl rfl rfl fun w14 S14 => ?_)
 refine s_end (x_normal (wp_seq ?_))
 refine x_draw (fun aZ wZ => Fr 18 [(4, .pointer (some ⟨b3, 0, none⟩)), (5, .string (getKey m.store key))] aZ ∧ Mv [bx b1 [.slice m_Sa m_Sn m_Sc, .slice Q0 Q2 Q1, .slice m_Wa m_Wn m_Wc] 29, bx b3 [.slice none 0 0, .slice none 0 0, .slice none 0 0] 29] w14 [bx b1 [.slice m_Sa m_Sn m_Sc, .slice Q0 Q2 Q1, .slice m_Wa m_Wn m_Wc] 29, bx b3 [.slice m_Sa m_Sn m_Sc, .slice Q0 Q2 Q1, .slice m_Wa m_Wn m_Wc] 29] wZ ∧ okS (getKey m.store key)) [bx b1 [.slice m_Sa m_Sn m_Sc, .slice Q0 Q2 Q1, .slice m_Wa m_Wn m_Wc] 29] mixed S14.at' (listed := #[false, false, false, false, false, false, false]) rfl (fun w16 S16 => ?_) [0] rfl ?_
 · skip
   refine g_take (v := .agg #[.slice m_Sa m_Sn m_Sc, .slice Q0 Q2 Q1, .slice m_Wa m_Wn m_Wc]) F13 rfl (i := 0) (listed' := #[true, false, false, false, false, false, false]) rfl (by kernel_rfl) (by kernel_rfl) (by kernel_rfl) (fun _ _ _ h => h) (Sd.of (Mv.refl S16.at') [0] rfl) rfl rfl rfl rfl (fun _ hz => (r_loadX (hz.bx 0 rfl) TI_29 rfl (F13.ev 2 rfl) rfl rfl (fun h => nomatch h) rfl)) fun _ F17 => ?_
   refine g_take F17 rfl (i := 1) (listed' := #[true, true, false, false, false, false, false]) rfl (by kernel_rfl) (by kernel_rfl) (by kernel_rfl) (fun _ _ _ h => h) (Sd.of (Mv.refl S16.at') [0] rfl) rfl rfl rfl rfl (fun _ hz => (r_field FI_29_0 rfl (F17.ev 2 rfl) rfl)) fun _ F18 => ?_
   refine g_take (v := .slice m_Sa m_Sn m_Sc) F18 rfl (i := 2) (listed' := #[true, true, true, false, false, false, false]) rfl (by kernel_rfl) (by kernel_rfl) (by kernel_rfl) (fun _ _ _ h => h) (Sd.of (Mv.refl S16.at') [0] rfl) rfl rfl rfl rfl (fun _ hz => (r_loadX (hz.bx 0 rfl) TI_24 rfl (F18.ev 14 rfl) rfl rfl (fun _ => rfl) rfl)) fun _ F19 => ?_
   refine g_take F19 rfl (i := 3) (listed' := #[true, true, true, true, false, false, false]) rfl (by kernel_rfl) (by kernel_rfl) (by kernel_rfl) (fun _ _ _ h => h) (Sd.of (Mv.refl S16.at') [0] rfl) rfl rfl rfl rfl (fun _ hz => (r_move rfl (F19.ev 1 rfl))) fun _ F20 => ?_
   refine d_one (i := 4) (listed' := #[true, true, true, true, true, false, false]) rfl (by kernel_rfl) rfl rfl ?_
   refine f_call F20 CF_104 rfl rfl rfl rfl (lc (F20.ev 15 rfl) (lc (F20.ev 16 rfl) rfl)) (spec_GetKey_c (s := m.store) (key := key) (Rd.mq Q3 (S1.trans (S3.trans (S10.trans (S14.trans S16))))) Q4) ?_
   rintro _ w21 ⟨rfl, m21, Q20⟩
   refine ⟨_, rfl, fun _ F22 => ?_⟩
   have S21 := At.frame0 S16.at' m21
   clear m21
   refine ⟨Sd.of S21 [0] rfl, ?_⟩
   refine d_one (i := 5) (listed' := #[true, true, true, true, true, true, false]) rfl (by kernel_rfl) rfl rfl ?_
   refine s_store S21.at' 1 TI_29 rfl rfl rfl rfl rfl (F22.ev 4 rfl) (F22.ev 13 rfl) rfl rfl rfl rfl rfl fun w23 S23 => ?_
   refine ⟨Sd.of (S21.trans S23) [1] rfl, ?_⟩
   refine g_take F22 rfl (i := 6) (listed' := #[true, true, true, true, true, true, true]) rfl (by kernel_rfl) (by kernel_rfl) (by kernel_rfl) (fun _ _ _ h => h) (Sd.of (S21.trans S23) [1] rfl) rfl rfl rfl rfl (fun _ hz => (r_assign rfl (F22.ev 17 rfl))) fun _ F24 => ?_
   refine wpAnyH_done (by kernel_rfl) (x_normal ?_) _
   exact ⟨F24.cut rfl, ((S16.trans (S21.trans S23)).pick [1, 0] rfl), Q20⟩
 · rintro a25 w25 ⟨F25, S25, Q19⟩
   refine x_normal (wp_ret ?_)
   refine x_done (v := .tuple #[.agg #[.slice m_Sa m_Sn m_Sc, .slice Q0 Q2 Q1, .slice m_Wa m_Wn m_Wc], .string (getKey m.store key)]) F25 (results_2 Tryz.results81 (.cell (F25.ev 4 rfl) (run_loadVar' TI_29 _ [.slice m_Sa m_Sn m_Sc, .slice Q0 Q2 Q1, .slice m_Wa m_Wn m_Wc] rfl (fun h => nomatch h) (At.cells S25.at' 1 rfl 0 [.slice m_Sa m_Sn m_Sc, .slice Q0 Q2 Q1, .slice m_Wa m_Wn m_Wc] rfl))) (.tmp (F25.ev 5 rfl))) ?_
   exact ⟨m_Sa, m_Sn, m_Sc, Q0, Q2, Q1, m_Wa, m_Wn, m_Wc, rfl, (Mv.pick (S1.trans (S3.trans (S10.trans (S14.trans S25)))) [] rfl), (Rd.cast (Rd.give (Rd.mq Q3 (S1.trans (S3.trans (S10.trans (S14.trans S25)))))) (show m.store = (lookM m key).store from by rfl)), (Rd.cast (Rd.give (Rd.mq V10_0 (S14.trans S25))) (show (putL m.touch.reads key) = (lookM m key).touch.reads from by rfl)), (Rd.cast (Rd.give (Rd.mq Q18 (S1.trans (S3.trans (S10.trans (S14.trans S25)))))) (show m.touch.writes = (lookM m key).touch.writes from by rfl)), Q19⟩
end Go.Proofs.YtibgmijfnbnfkaaGreatDoor
