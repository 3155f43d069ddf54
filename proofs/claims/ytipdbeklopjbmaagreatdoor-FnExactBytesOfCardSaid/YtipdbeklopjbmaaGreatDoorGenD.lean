/-
  Walks: machines are looked at.
-/
import Derived.Test.YtipdbeklopjbmaaGreatDoorP05
set_option linter.unusedVariables false
set_option linter.unusedSimpArgs false
namespace Go.Proofs.YtipdbeklopjbmaaGreatDoor
open Go.ChangeShapes Go.WideShapes Go.ChangeAt Go.RowKit
set_option maxRecDepth 100000
set_option maxHeartbeats 1000000
theorem spec_JoinTouch_c {w:World} {H:Nat→Prop} {a:TouchD} {a_Ra:Option Addr} {a_Rn a_Rc:Nat} {a_Wa:Option Addr} {a_Wn a_Wc:Nat} {b:TouchD} {b_Ra:Option Addr} {b_Rn b_Rc:Nat} {b_Wa:Option Addr} {b_Wn b_Wc:Nat} (Q12:Rd 1 encS okS H w (.slice a_Ra a_Rn a_Rc) a.reads) (Q13:Rd 1 encS okS H w (.slice a_Wa a_Wn a_Wc) a.writes) (Q14:Rd 1 encS okS H w (.slice b_Ra b_Rn b_Rc) b.reads) (Q15:Rd 1 encS okS H w (.slice b_Wa b_Wn b_Wc) b.writes) (p0:a.reads.length≤274877906944) (p1:a.writes.length≤274877906944) (p2:b.reads.length≤274877906944) (p3:b.writes.length≤274877906944) :
 Calls Tryz.prog 149 #[.agg #[.slice a_Ra a_Rn a_Rc,.slice a_Wa a_Wn a_Wc],.agg #[.slice b_Ra b_Rn b_Rc,.slice b_Wa b_Wn b_Wc]] w fun e w'=>∃ (Q6:Option Addr),∃ (Q8:Nat),∃ (Q7:Nat),∃ (Q9:Option Addr),∃ (Q11:Nat),∃ (Q10:Nat),e=.returned (.agg #[.slice Q6 Q8 Q7,.slice Q9 Q11 Q10])∧Mv [] w [] w'∧Rd 1 encS okS (Fsh H w) w' (.slice Q6 Q8 Q7) (joinT a b).reads∧Rd 1 encS okS (Fsh H w) w' (.slice Q9 Q11 Q10) (joinT a b).writes:=by
 have V_v_a_reads:=Rd.start Q12 zN
 obtain ⟨Q26,Q22,Q69,Q73⟩:=Rd.inv Q12
 have V_v_a_writes:=Rd.start Q13 zN
 obtain ⟨Q27,Q23,Q70,Q74⟩:=Rd.inv Q13
 have V_v_b_reads:=Rd.start Q14 zN
 obtain ⟨Q28,Q24,Q71,Q75⟩:=Rd.inv Q14
 have V_v_b_writes:=Rd.start Q15 zN
 obtain ⟨Q29,Q25,Q72,Q76⟩:=Rd.inv Q15
 refine ze fun _ F=>?_
 refine l_op (f_box F (At.nil w) rfl rfl rfl (F.g rfl) rfl rfl fun b1 _ w1 F S1=>?_)
 refine l_op (f_box F S1.at' rfl rfl rfl (F.g rfl) rfl rfl fun b3 _ w3 F S3=>?_)
 refine l_op (f_alloc F S3.at' ZI_56 rfl rfl rfl rfl rfl fun b5 _ w5 F S5=>?_)
 refine zr fun _ F=>?_
 refine x_draw (fun aZ wZ=>∃ (b13:Nat),∃ (A15:Option Addr),∃ (N15:Nat),∃ (C15:Nat),∃ (b17:Nat),∃ (A19:Option Addr),∃ (N19:Nat),∃ (C19:Nat),∃ (b22:Nat),Fr 50 [(3,.pointer (some ⟨b3,0,none⟩)),(4,.pointer (some ⟨b5,0,none⟩)),(5,.pointer (some ⟨b22,0,none⟩))] aZ∧Mv [bx b5 [.slice none 0 0,.slice none 0 0] 56,bx b3 [.slice b_Ra b_Rn b_Rc,.slice b_Wa b_Wn b_Wc] 56,bx b1 [.slice a_Ra a_Rn a_Rc,.slice a_Wa a_Wn a_Wc] 56] w5 [bx b5 [.slice none 0 0,.slice none 0 0] 56,bx b3 [.slice b_Ra b_Rn b_Rc,.slice b_Wa b_Wn b_Wc] 56,bx b1 [.slice a_Ra a_Rn a_Rc,.slice a_Wa a_Wn a_Wc] 56,ow 9 1 encS okS (.slice A15 N15 C15) (([]:List ByteArray)++a.reads),ow 9 1 encS okS (.slice A19 N19 C19) (([]:List ByteArray)++a.writes),bx b22 [.slice A15 N15 C15,.slice A19 N19 C19] 56] wZ) [bx b1 [.slice a_Ra a_Rn a_Rc,.slice a_Wa a_Wn a_Wc] 56] mixed S5.at' (listed:=#[false,false,false,false,false,false,false,false,false,false,false]) rfl (fun w8 S8=>?_) [2] rfl ?_
 ·refine x_lem (fun aZ wZ=>∃ (b13:Nat),∃ (A15:Option Addr),∃ (N15:Nat),∃ (C15:Nat),∃ (b17:Nat),∃ (A19:Option Addr),∃ (N19:Nat),∃ (C19:Nat),∃ (b22:Nat),Fr 50 [(5,.pointer (some ⟨b22,0,none⟩)),(16,.agg #[.slice A15 N15 C15,.slice A19 N19 C19]),(4,.pointer (some ⟨b5,0,none⟩)),(3,.pointer (some ⟨b3,0,none⟩))] aZ∧Mv [bx b5 [.slice none 0 0,.slice none 0 0] 56,bx b3 [.slice b_Ra b_Rn b_Rc,.slice b_Wa b_Wn b_Wc] 56,bx b1 [.slice a_Ra a_Rn a_Rc,.slice a_Wa a_Wn a_Wc] 56] w8 [bx b22 [.slice none 0 0,.slice none 0 0] 56,ow 9 1 encS okS (.slice A19 N19 C19) (([]:List ByteArray)++a.writes),ow 9 1 encS okS (.slice A15 N15 C15) (([]:List ByteArray)++a.reads),bx b5 [.slice none 0 0,.slice none 0 0] 56,bx b3 [.slice b_Ra b_Rn b_Rc,.slice b_Wa b_Wn b_Wc] 56,bx b1 [.slice a_Ra a_Rn a_Rc,.slice a_Wa a_Wn a_Wc] 56] wZ) #[yT,yT,yT,yT,yT,yT,yT,yT,yT,yT,nF] 1 ?_ (fun G62=>?_)
  ·rintro a62 w62 ⟨b13,A15,N15,C15,b17,A19,N19,C19,b22,F,S62⟩
   obtain ⟨Q35,Q48,Q61⟩:=At.ownInv S62.at' ET_44.hk 1 rfl
   obtain ⟨Q36,Q49,Q62⟩:=At.ownInv S62.at' ET_44.hk 2 rfl
   refine d_one (i:=10) (listed':=#[yT,yT,yT,yT,yT,yT,yT,yT,yT,yT,yT]) rfl (by kernel_rfl) rfl rfl ?_
   refine s_store S62.at' 0 TI_56 rfl rfl rfl rfl rfl (F.g rfl) (F.g rfl) rfl rfl rfl rfl rfl fun w63 S63=>?_
   refine ⟨Sd.of (S62.trans S63) [5] rfl,?_⟩
   refine wpAnyH_done (by kernel_rfl) (x_normal ?_) _
   exact ⟨b13,A15,N15,C15,b17,A19,N19,C19,b22,F.cut rfl,((S8.trans (S62.trans S63)).pick [3,4,5,2,1,0] rfl)⟩
  refine x_lem (fun aZ wZ=>∃ (b13:Nat),∃ (A15:Option Addr),∃ (N15:Nat),∃ (C15:Nat),∃ (b17:Nat),∃ (A19:Option Addr),∃ (N19:Nat),∃ (C19:Nat),Fr 50 [(16,.agg #[.slice A15 N15 C15,.slice A19 N19 C19]),(4,.pointer (some ⟨b5,0,none⟩)),(3,.pointer (some ⟨b3,0,none⟩))] aZ∧Mv [bx b5 [.slice none 0 0,.slice none 0 0] 56,bx b3 [.slice b_Ra b_Rn b_Rc,.slice b_Wa b_Wn b_Wc] 56,bx b1 [.slice a_Ra a_Rn a_Rc,.slice a_Wa a_Wn a_Wc] 56] w8 [ow 9 1 encS okS (.slice A19 N19 C19) (([]:List ByteArray)++a.writes),ow 9 1 encS okS (.slice A15 N15 C15) (([]:List ByteArray)++a.reads),bx b5 [.slice none 0 0,.slice none 0 0] 56,bx b3 [.slice b_Ra b_Rn b_Rc,.slice b_Wa b_Wn b_Wc] 56,bx b1 [.slice a_Ra a_Rn a_Rc,.slice a_Wa a_Wn a_Wc] 56] wZ) #[yT,yT,yT,yT,yT,yT,yT,yT,yT,nF,nF] 2 ?_ (fun G64=>?_)
  ·rintro a64 w64 ⟨b13,A15,N15,C15,b17,A19,N19,C19,F,S64⟩
   obtain ⟨Q37,Q50,Q63⟩:=At.ownInv S64.at' ET_44.hk 0 rfl
   obtain ⟨Q38,Q51,Q64⟩:=At.ownInv S64.at' ET_44.hk 1 rfl
   refine d_one (i:=9) (listed':=#[yT,yT,yT,yT,yT,yT,yT,yT,yT,yT,nF]) rfl (by kernel_rfl) rfl rfl ?_
   refine f_alloc F S64.at' ZI_56 rfl rfl rfl rfl rfl fun b65 _ w65 F S65=>?_
   refine ⟨Sd.of (S64.trans S65) [5] rfl,?_⟩
   exact G62 _ _ ⟨b13,A15,N15,C15,b17,A19,N19,C19,b65,F.cut rfl,(S64.trans S65).pick [0,1,2,3,4,5] rfl⟩
  refine x_lem (fun aZ wZ=>∃ (b13:Nat),∃ (A15:Option Addr),∃ (N15:Nat),∃ (C15:Nat),∃ (b17:Nat),∃ (b25:Nat),Fr 50 [(5,.pointer (some ⟨b25,0,none⟩)),(12,.slice (some ⟨b17,0,none⟩) 0 0),(11,.slice A15 N15 C15),(14,.slice a_Wa a_Wn a_Wc),(4,.pointer (some ⟨b5,0,none⟩)),(3,.pointer (some ⟨b3,0,none⟩))] aZ∧Mv [bx b5 [.slice none 0 0,.slice none 0 0] 56,bx b3 [.slice b_Ra b_Rn b_Rc,.slice b_Wa b_Wn b_Wc] 56,bx b1 [.slice a_Ra a_Rn a_Rc,.slice a_Wa a_Wn a_Wc] 56] w8 [bx b25 [.slice none 0 0,.slice none 0 0] 56,ow 9 1 encS okS (.slice (some ⟨b17,0,none⟩) 0 0) ([]:List ByteArray),ow 9 1 encS okS (.slice A15 N15 C15) (([]:List ByteArray)++a.reads),bx b5 [.slice none 0 0,.slice none 0 0] 56,bx b3 [.slice b_Ra b_Rn b_Rc,.slice b_Wa b_Wn b_Wc] 56,bx b1 [.slice a_Ra a_Rn a_Rc,.slice a_Wa a_Wn a_Wc] 56] wZ) #[yT,yT,yT,yT,yT,yT,yT,nF,nF,yT,nF] 3 ?_ (fun G67=>?_)
  ·rintro a67 w67 ⟨b13,A15,N15,C15,b17,b25,F,S67⟩
   obtain ⟨Q39,Q52,Q65⟩:=At.ownInv S67.at' ET_44.hk 2 rfl
   refine d_one (i:=7) (listed':=#[yT,yT,yT,yT,yT,yT,yT,yT,nF,yT,nF]) rfl (by kernel_rfl) rfl rfl ?_
   refine f_app (news:=a.writes) F S67.at' 1 ET_44 rfl rfl rfl rfl rfl rfl (F.g rfl) (F.g rfl) ((Rd.mq V_v_a_writes (S1.trans (S3.trans (S5.trans (S8.trans S67)))))).1 zI9 fun A68 N68 C68 _ w68 F S68 l68=>?_
   refine ⟨Sd.of (S67.trans S68) [5] rfl,?_⟩
   refine g_take (v:=.agg #[.slice A15 N15 C15,.slice A68 N68 C68]) F rfl (i:=8) (listed':=#[yT,yT,yT,yT,yT,yT,yT,yT,yT,yT,nF]) rfl (by kernel_rfl) (by kernel_rfl) (by kernel_rfl) (fun _ _ _ h=>h) (Sd.of (S67.trans S68) [5] rfl) rfl rfl rfl rfl (fun _ hz=>(r_build BI_56 rfl (lc (pr2 (F.g rfl)) (lc (pr2 (F.g rfl)) rfl)) rfl)) fun _ F=>?_
   exact G62 _ _ ⟨b13,A15,N15,C15,b17,A68,N68,C68,b25,F.cut rfl,(S67.trans S68).pick [1,0,2,3,4,5] rfl⟩
  refine x_lem (fun aZ wZ=>∃ (b13:Nat),∃ (A15:Option Addr),∃ (N15:Nat),∃ (C15:Nat),∃ (b17:Nat),Fr 50 [(12,.slice (some ⟨b17,0,none⟩) 0 0),(11,.slice A15 N15 C15),(14,.slice a_Wa a_Wn a_Wc),(4,.pointer (some ⟨b5,0,none⟩)),(3,.pointer (some ⟨b3,0,none⟩))] aZ∧Mv [bx b5 [.slice none 0 0,.slice none 0 0] 56,bx b3 [.slice b_Ra b_Rn b_Rc,.slice b_Wa b_Wn b_Wc] 56,bx b1 [.slice a_Ra a_Rn a_Rc,.slice a_Wa a_Wn a_Wc] 56] w8 [ow 9 1 encS okS (.slice (some ⟨b17,0,none⟩) 0 0) ([]:List ByteArray),ow 9 1 encS okS (.slice A15 N15 C15) (([]:List ByteArray)++a.reads),bx b5 [.slice none 0 0,.slice none 0 0] 56,bx b3 [.slice b_Ra b_Rn b_Rc,.slice b_Wa b_Wn b_Wc] 56,bx b1 [.slice a_Ra a_Rn a_Rc,.slice a_Wa a_Wn a_Wc] 56] wZ) #[yT,yT,yT,yT,yT,yT,yT,nF,nF,nF,nF] 4 ?_ (fun G71=>?_)
  ·rintro a71 w71 ⟨b13,A15,N15,C15,b17,F,S71⟩
   obtain ⟨Q40,Q53,Q66⟩:=At.ownInv S71.at' ET_44.hk 1 rfl
   refine d_all (rs:=[7,9]) rfl (by kernel_rfl) (by simp) (d_cons (i:=7) (listed':=#[yT,yT,yT,yT,yT,yT,yT,yT,nF,nF,nF]) rfl rfl ?_ (d_cons (i:=9) (listed':=#[yT,yT,yT,yT,yT,yT,yT,nF,nF,yT,nF]) rfl rfl ?_ d_nil))
   ·refine f_app (news:=a.writes) F S71.at' 0 ET_44 rfl rfl rfl rfl rfl rfl (F.g rfl) (F.g rfl) ((Rd.mq V_v_a_writes (S1.trans (S3.trans (S5.trans (S8.trans S71)))))).1 zI9 fun A72 N72 C72 _ w72 F S72 l72=>?_
    refine ⟨Sd.of (S71.trans S72) [4] rfl,?_⟩
    refine g_take (v:=.agg #[.slice A15 N15 C15,.slice A72 N72 C72]) F rfl (i:=8) (listed':=#[yT,yT,yT,yT,yT,yT,yT,yT,yT,nF,nF]) rfl (by kernel_rfl) (by kernel_rfl) (by kernel_rfl) (fun _ _ _ h=>h) (Sd.of (S71.trans S72) [4] rfl) rfl rfl rfl rfl (fun _ hz=>(r_build BI_56 rfl (lc (pr2 (F.g rfl)) (lc (pr2 (F.g rfl)) rfl)) rfl)) fun _ F=>?_
    exact G64 _ _ ⟨b13,A15,N15,C15,b17,A72,N72,C72,F.cut rfl,(S71.trans S72).pick [0,1,2,3,4] rfl⟩
   ·refine f_alloc F S71.at' ZI_56 rfl rfl rfl rfl rfl fun b75 _ w75 F S75=>?_
    refine ⟨Sd.of (S71.trans S75) [5] rfl,?_⟩
    exact G67 _ _ ⟨b13,A15,N15,C15,b17,b75,F.cut rfl,(S71.trans S75).pick [0,1,2,3,4,5] rfl⟩
  refine x_lem (fun aZ wZ=>∃ (b13:Nat),∃ (A15:Option Addr),∃ (N15:Nat),∃ (C15:Nat),∃ (b30:Nat),Fr 50 [(5,.pointer (some ⟨b30,0,none⟩)),(11,.slice A15 N15 C15),(14,.slice a_Wa a_Wn a_Wc),(4,.pointer (some ⟨b5,0,none⟩)),(3,.pointer (some ⟨b3,0,none⟩))] aZ∧Mv [bx b5 [.slice none 0 0,.slice none 0 0] 56,bx b3 [.slice b_Ra b_Rn b_Rc,.slice b_Wa b_Wn b_Wc] 56,bx b1 [.slice a_Ra a_Rn a_Rc,.slice a_Wa a_Wn a_Wc] 56] w8 [bx b30 [.slice none 0 0,.slice none 0 0] 56,ow 9 1 encS okS (.slice A15 N15 C15) (([]:List ByteArray)++a.reads),bx b5 [.slice none 0 0,.slice none 0 0] 56,bx b3 [.slice b_Ra b_Rn b_Rc,.slice b_Wa b_Wn b_Wc] 56,bx b1 [.slice a_Ra a_Rn a_Rc,.slice a_Wa a_Wn a_Wc] 56] wZ) #[yT,yT,yT,yT,nF,yT,yT,nF,nF,yT,nF] 4 ?_ (fun G77=>?_)
  ·rintro a77 w77 ⟨b13,A15,N15,C15,b30,F,S77⟩
   obtain ⟨Q41,Q54,Q67⟩:=At.ownInv S77.at' ET_44.hk 1 rfl
   refine d_one (i:=4) (listed':=#[yT,yT,yT,yT,yT,yT,yT,nF,nF,yT,nF]) rfl (by kernel_rfl) rfl rfl ?_
   refine f_buildSl (ok:=okS) (vs:=[]) F S77.at' (([]:List ByteArray)) ET_44 rfl rfl rfl rfl rfl rfl rfl rfl rfl (by simp) fun b78 _ w78 F S78=>?_
   refine ⟨Sd.of (S77.trans S78) [5] rfl,?_⟩
   exact G67 _ _ ⟨b13,A15,N15,C15,b78,b30,F.cut rfl,(S77.trans S78).pick [1,0,2,3,4,5] rfl⟩
  refine x_lem (fun aZ wZ=>∃ (b13:Nat),∃ (b34:Nat),∃ (b38:Nat),Fr 50 [(5,.pointer (some ⟨b38,0,none⟩)),(12,.slice (some ⟨b34,0,none⟩) 0 0),(8,.slice (some ⟨b13,0,none⟩) 0 0),(14,.slice a_Wa a_Wn a_Wc),(10,.slice a_Ra a_Rn a_Rc),(4,.pointer (some ⟨b5,0,none⟩)),(3,.pointer (some ⟨b3,0,none⟩))] aZ∧Mv [bx b5 [.slice none 0 0,.slice none 0 0] 56,bx b3 [.slice b_Ra b_Rn b_Rc,.slice b_Wa b_Wn b_Wc] 56,bx b1 [.slice a_Ra a_Rn a_Rc,.slice a_Wa a_Wn a_Wc] 56] w8 [bx b38 [.slice none 0 0,.slice none 0 0] 56,ow 9 1 encS okS (.slice (some ⟨b34,0,none⟩) 0 0) ([]:List ByteArray),ow 9 1 encS okS (.slice (some ⟨b13,0,none⟩) 0 0) ([]:List ByteArray),bx b5 [.slice none 0 0,.slice none 0 0] 56,bx b3 [.slice b_Ra b_Rn b_Rc,.slice b_Wa b_Wn b_Wc] 56,bx b1 [.slice a_Ra a_Rn a_Rc,.slice a_Wa a_Wn a_Wc] 56] wZ) #[yT,yT,yT,nF,yT,yT,yT,nF,nF,yT,nF] 4 ?_ (fun G80=>?_)
  ·rintro a80 w80 ⟨b13,b34,b38,F,S80⟩
   refine d_one (i:=3) (listed':=#[yT,yT,yT,yT,yT,yT,yT,nF,nF,yT,nF]) rfl (by kernel_rfl) rfl rfl ?_
   refine f_app (news:=a.reads) F S80.at' 2 ET_44 rfl rfl rfl rfl rfl rfl (F.g rfl) (F.g rfl) ((Rd.mq V_v_a_reads (S1.trans (S3.trans (S5.trans (S8.trans S80)))))).1 zI9 fun A81 N81 C81 _ w81 F S81 l81=>?_
   refine ⟨Sd.of (S80.trans S81) [5] rfl,?_⟩
   exact G67 _ _ ⟨b13,A81,N81,C81,b34,b38,F.cut rfl,(S80.trans S81).pick [1,2,0,3,4,5] rfl⟩
  refine x_lem (fun aZ wZ=>∃ (b13:Nat),∃ (A15:Option Addr),∃ (N15:Nat),∃ (C15:Nat),Fr 50 [(11,.slice A15 N15 C15),(14,.slice a_Wa a_Wn a_Wc),(4,.pointer (some ⟨b5,0,none⟩)),(3,.pointer (some ⟨b3,0,none⟩))] aZ∧Mv [bx b5 [.slice none 0 0,.slice none 0 0] 56,bx b3 [.slice b_Ra b_Rn b_Rc,.slice b_Wa b_Wn b_Wc] 56,bx b1 [.slice a_Ra a_Rn a_Rc,.slice a_Wa a_Wn a_Wc] 56] w8 [ow 9 1 encS okS (.slice A15 N15 C15) (([]:List ByteArray)++a.reads),bx b5 [.slice none 0 0,.slice none 0 0] 56,bx b3 [.slice b_Ra b_Rn b_Rc,.slice b_Wa b_Wn b_Wc] 56,bx b1 [.slice a_Ra a_Rn a_Rc,.slice a_Wa a_Wn a_Wc] 56] wZ) #[yT,yT,yT,yT,nF,yT,yT,nF,nF,nF,nF] 5 ?_ (fun G83=>?_)
  ·rintro a83 w83 ⟨b13,A15,N15,C15,F,S83⟩
   obtain ⟨Q42,Q55,Q68⟩:=At.ownInv S83.at' ET_44.hk 0 rfl
   refine d_all (rs:=[4,9]) rfl (by kernel_rfl) (by simp) (d_cons (i:=4) (listed':=#[yT,yT,yT,yT,yT,yT,yT,nF,nF,nF,nF]) rfl rfl ?_ (d_cons (i:=9) (listed':=#[yT,yT,yT,yT,nF,yT,yT,nF,nF,yT,nF]) rfl rfl ?_ d_nil))
   ·refine f_buildSl (ok:=okS) (vs:=[]) F S83.at' (([]:List ByteArray)) ET_44 rfl rfl rfl rfl rfl rfl rfl rfl rfl (by simp) fun b84 _ w84 F S84=>?_
    refine ⟨Sd.of (S83.trans S84) [4] rfl,?_⟩
    exact G71 _ _ ⟨b13,A15,N15,C15,b84,F.cut rfl,(S83.trans S84).pick [0,1,2,3,4] rfl⟩
   ·refine f_alloc F S83.at' ZI_56 rfl rfl rfl rfl rfl fun b86 _ w86 F S86=>?_
    refine ⟨Sd.of (S83.trans S86) [4] rfl,?_⟩
    exact G77 _ _ ⟨b13,A15,N15,C15,b86,F.cut rfl,(S83.trans S86).pick [0,1,2,3,4] rfl⟩
  refine x_lem (fun aZ wZ=>∃ (b13:Nat),∃ (b34:Nat),Fr 50 [(12,.slice (some ⟨b34,0,none⟩) 0 0),(8,.slice (some ⟨b13,0,none⟩) 0 0),(14,.slice a_Wa a_Wn a_Wc),(10,.slice a_Ra a_Rn a_Rc),(4,.pointer (some ⟨b5,0,none⟩)),(3,.pointer (some ⟨b3,0,none⟩))] aZ∧Mv [bx b5 [.slice none 0 0,.slice none 0 0] 56,bx b3 [.slice b_Ra b_Rn b_Rc,.slice b_Wa b_Wn b_Wc] 56,bx b1 [.slice a_Ra a_Rn a_Rc,.slice a_Wa a_Wn a_Wc] 56] w8 [ow 9 1 encS okS (.slice (some ⟨b34,0,none⟩) 0 0) ([]:List ByteArray),ow 9 1 encS okS (.slice (some ⟨b13,0,none⟩) 0 0) ([]:List ByteArray),bx b5 [.slice none 0 0,.slice none 0 0] 56,bx b3 [.slice b_Ra b_Rn b_Rc,.slice b_Wa b_Wn b_Wc] 56,bx b1 [.slice a_Ra a_Rn a_Rc,.slice a_Wa a_Wn a_Wc] 56] wZ) #[yT,yT,yT,nF,yT,yT,yT,nF,nF,nF,nF] 5 ?_ (fun G88=>?_)
  ·rintro a88 w88 ⟨b13,b34,F,S88⟩
   refine d_all (rs:=[3,9]) rfl (by kernel_rfl) (by simp) (d_cons (i:=3) (listed':=#[yT,yT,yT,yT,yT,yT,yT,nF,nF,nF,nF]) rfl rfl ?_ (d_cons (i:=9) (listed':=#[yT,yT,yT,nF,yT,yT,yT,nF,nF,yT,nF]) rfl rfl ?_ d_nil))
   ·refine f_app (news:=a.reads) F S88.at' 1 ET_44 rfl rfl rfl rfl rfl rfl (F.g rfl) (F.g rfl) ((Rd.mq V_v_a_reads (S1.trans (S3.trans (S5.trans (S8.trans S88)))))).1 zI9 fun A89 N89 C89 _ w89 F S89 l89=>?_
    refine ⟨Sd.of (S88.trans S89) [4] rfl,?_⟩
    exact G71 _ _ ⟨b13,A89,N89,C89,b34,F.cut rfl,(S88.trans S89).pick [1,0,2,3,4] rfl⟩
   ·refine f_alloc F S88.at' ZI_56 rfl rfl rfl rfl rfl fun b91 _ w91 F S91=>?_
    refine ⟨Sd.of (S88.trans S91) [5] rfl,?_⟩
    exact G80 _ _ ⟨b13,b34,b91,F.cut rfl,(S88.trans S91).pick [0,1,2,3,4,5] rfl⟩
  refine x_lem (fun aZ wZ=>∃ (b13:Nat),∃ (b42:Nat),Fr 50 [(5,.pointer (some ⟨b42,0,none⟩)),(8,.slice (some ⟨b13,0,none⟩) 0 0),(14,.slice a_Wa a_Wn a_Wc),(10,.slice a_Ra a_Rn a_Rc),(4,.pointer (some ⟨b5,0,none⟩)),(3,.pointer (some ⟨b3,0,none⟩))] aZ∧Mv [bx b5 [.slice none 0 0,.slice none 0 0] 56,bx b3 [.slice b_Ra b_Rn b_Rc,.slice b_Wa b_Wn b_Wc] 56,bx b1 [.slice a_Ra a_Rn a_Rc,.slice a_Wa a_Wn a_Wc] 56] w8 [bx b42 [.slice none 0 0,.slice none 0 0] 56,ow 9 1 encS okS (.slice (some ⟨b13,0,none⟩) 0 0) ([]:List ByteArray),bx b5 [.slice none 0 0,.slice none 0 0] 56,bx b3 [.slice b_Ra b_Rn b_Rc,.slice b_Wa b_Wn b_Wc] 56,bx b1 [.slice a_Ra a_Rn a_Rc,.slice a_Wa a_Wn a_Wc] 56] wZ) #[yT,yT,yT,nF,nF,yT,yT,nF,nF,yT,nF] 5 ?_ (fun G93=>?_)
  ·rintro a93 w93 ⟨b13,b42,F,S93⟩
   refine d_all (rs:=[3,4]) rfl (by kernel_rfl) (by simp) (d_cons (i:=3) (listed':=#[yT,yT,yT,yT,nF,yT,yT,nF,nF,yT,nF]) rfl rfl ?_ (d_cons (i:=4) (listed':=#[yT,yT,yT,nF,yT,yT,yT,nF,nF,yT,nF]) rfl rfl ?_ d_nil))
   ·refine f_app (news:=a.reads) F S93.at' 1 ET_44 rfl rfl rfl rfl rfl rfl (F.g rfl) (F.g rfl) ((Rd.mq V_v_a_reads (S1.trans (S3.trans (S5.trans (S8.trans S93)))))).1 zI9 fun A94 N94 C94 _ w94 F S94 l94=>?_
    refine ⟨Sd.of (S93.trans S94) [4] rfl,?_⟩
    exact G77 _ _ ⟨b13,A94,N94,C94,b42,F.cut rfl,(S93.trans S94).pick [1,0,2,3,4] rfl⟩
   ·refine f_buildSl (ok:=okS) (vs:=[]) F S93.at' (([]:List ByteArray)) ET_44 rfl rfl rfl rfl rfl rfl rfl rfl rfl (by simp) fun b96 _ w96 F S96=>?_
    refine ⟨Sd.of (S93.trans S96) [5] rfl,?_⟩
    exact G80 _ _ ⟨b13,b96,b42,F.cut rfl,(S93.trans S96).pick [1,0,2,3,4,5] rfl⟩
  refine x_lem (fun aZ wZ=>∃ (b48:Nat),∃ (b52:Nat),Fr 50 [(5,.pointer (some ⟨b52,0,none⟩)),(12,.slice (some ⟨b48,0,none⟩) 0 0),(14,.slice a_Wa a_Wn a_Wc),(10,.slice a_Ra a_Rn a_Rc),(4,.pointer (some ⟨b5,0,none⟩)),(3,.pointer (some ⟨b3,0,none⟩))] aZ∧Mv [bx b5 [.slice none 0 0,.slice none 0 0] 56,bx b3 [.slice b_Ra b_Rn b_Rc,.slice b_Wa b_Wn b_Wc] 56,bx b1 [.slice a_Ra a_Rn a_Rc,.slice a_Wa a_Wn a_Wc] 56] w8 [bx b52 [.slice none 0 0,.slice none 0 0] 56,ow 9 1 encS okS (.slice (some ⟨b48,0,none⟩) 0 0) ([]:List ByteArray),bx b5 [.slice none 0 0,.slice none 0 0] 56,bx b3 [.slice b_Ra b_Rn b_Rc,.slice b_Wa b_Wn b_Wc] 56,bx b1 [.slice a_Ra a_Rn a_Rc,.slice a_Wa a_Wn a_Wc] 56] wZ) #[nF,yT,yT,nF,yT,yT,yT,nF,nF,yT,nF] 5 ?_ (fun G98=>?_)
  ·rintro a98 w98 ⟨b48,b52,F,S98⟩
   refine d_one (i:=0) (listed':=#[yT,yT,yT,nF,yT,yT,yT,nF,nF,yT,nF]) rfl (by kernel_rfl) rfl rfl ?_
   refine f_buildSl (ok:=okS) (vs:=[]) F S98.at' (([]:List ByteArray)) ET_44 rfl rfl rfl rfl rfl rfl rfl rfl rfl (by simp) fun b99 _ w99 F S99=>?_
   refine ⟨Sd.of (S98.trans S99) [5] rfl,?_⟩
   exact G80 _ _ ⟨b99,b48,b52,F.cut rfl,(S98.trans S99).pick [1,2,0,3,4,5] rfl⟩
  refine x_lem (fun aZ wZ=>∃ (b13:Nat),Fr 50 [(8,.slice (some ⟨b13,0,none⟩) 0 0),(14,.slice a_Wa a_Wn a_Wc),(10,.slice a_Ra a_Rn a_Rc),(4,.pointer (some ⟨b5,0,none⟩)),(3,.pointer (some ⟨b3,0,none⟩))] aZ∧Mv [bx b5 [.slice none 0 0,.slice none 0 0] 56,bx b3 [.slice b_Ra b_Rn b_Rc,.slice b_Wa b_Wn b_Wc] 56,bx b1 [.slice a_Ra a_Rn a_Rc,.slice a_Wa a_Wn a_Wc] 56] w8 [ow 9 1 encS okS (.slice (some ⟨b13,0,none⟩) 0 0) ([]:List ByteArray),bx b5 [.slice none 0 0,.slice none 0 0] 56,bx b3 [.slice b_Ra b_Rn b_Rc,.slice b_Wa b_Wn b_Wc] 56,bx b1 [.slice a_Ra a_Rn a_Rc,.slice a_Wa a_Wn a_Wc] 56] wZ) #[yT,yT,yT,nF,nF,yT,yT,nF,nF,nF,nF] 6 ?_ (fun G101=>?_)
  ·rintro a101 w101 ⟨b13,F,S101⟩
   refine d_all (rs:=[3,4,9]) rfl (by kernel_rfl) (by simp) (d_cons (i:=3) (listed':=#[yT,yT,yT,yT,nF,yT,yT,nF,nF,nF,nF]) rfl rfl ?_ (d_cons (i:=4) (listed':=#[yT,yT,yT,nF,yT,yT,yT,nF,nF,nF,nF]) rfl rfl ?_ (d_cons (i:=9) (listed':=#[yT,yT,yT,nF,nF,yT,yT,nF,nF,yT,nF]) rfl rfl ?_ d_nil)))
   ·refine f_app (news:=a.reads) F S101.at' 0 ET_44 rfl rfl rfl rfl rfl rfl (F.g rfl) (F.g rfl) ((Rd.mq V_v_a_reads (S1.trans (S3.trans (S5.trans (S8.trans S101)))))).1 zI9 fun A102 N102 C102 _ w102 F S102 l102=>?_
    refine ⟨Sd.of (S101.trans S102) [3] rfl,?_⟩
    exact G83 _ _ ⟨b13,A102,N102,C102,F.cut rfl,(S101.trans S102).pick [0,1,2,3] rfl⟩
   ·refine f_buildSl (ok:=okS) (vs:=[]) F S101.at' (([]:List ByteArray)) ET_44 rfl rfl rfl rfl rfl rfl rfl rfl rfl (by simp) fun b104 _ w104 F S104=>?_
    refine ⟨Sd.of (S101.trans S104) [4] rfl,?_⟩
    exact G88 _ _ ⟨b13,b104,F.cut rfl,(S101.trans S104).pick [0,1,2,3,4] rfl⟩
   ·refine f_alloc F S101.at' ZI_56 rfl rfl rfl rfl rfl fun b106 _ w106 F S106=>?_
    refine ⟨Sd.of (S101.trans S106) [4] rfl,?_⟩
    exact G93 _ _ ⟨b13,b106,F.cut rfl,(S101.trans S106).pick [0,1,2,3,4] rfl⟩
  refine x_lem (fun aZ wZ=>∃ (b48:Nat),Fr 50 [(12,.slice (some ⟨b48,0,none⟩) 0 0),(14,.slice a_Wa a_Wn a_Wc),(10,.slice a_Ra a_Rn a_Rc),(4,.pointer (some ⟨b5,0,none⟩)),(3,.pointer (some ⟨b3,0,none⟩))] aZ∧Mv [bx b5 [.slice none 0 0,.slice none 0 0] 56,bx b3 [.slice b_Ra b_Rn b_Rc,.slice b_Wa b_Wn b_Wc] 56,bx b1 [.slice a_Ra a_Rn a_Rc,.slice a_Wa a_Wn a_Wc] 56] w8 [ow 9 1 encS okS (.slice (some ⟨b48,0,none⟩) 0 0) ([]:List ByteArray),bx b5 [.slice none 0 0,.slice none 0 0] 56,bx b3 [.slice b_Ra b_Rn b_Rc,.slice b_Wa b_Wn b_Wc] 56,bx b1 [.slice a_Ra a_Rn a_Rc,.slice a_Wa a_Wn a_Wc] 56] wZ) #[nF,yT,yT,nF,yT,yT,yT,nF,nF,nF,nF] 6 ?_ (fun G108=>?_)
  ·rintro a108 w108 ⟨b48,F,S108⟩
   refine d_all (rs:=[0,9]) rfl (by kernel_rfl) (by simp) (d_cons (i:=0) (listed':=#[yT,yT,yT,nF,yT,yT,yT,nF,nF,nF,nF]) rfl rfl ?_ (d_cons (i:=9) (listed':=#[nF,yT,yT,nF,yT,yT,yT,nF,nF,yT,nF]) rfl rfl ?_ d_nil))
   ·refine f_buildSl (ok:=okS) (vs:=[]) F S108.at' (([]:List ByteArray)) ET_44 rfl rfl rfl rfl rfl rfl rfl rfl rfl (by simp) fun b109 _ w109 F S109=>?_
    refine ⟨Sd.of (S108.trans S109) [4] rfl,?_⟩
    exact G88 _ _ ⟨b109,b48,F.cut rfl,(S108.trans S109).pick [1,0,2,3,4] rfl⟩
   ·refine f_alloc F S108.at' ZI_56 rfl rfl rfl rfl rfl fun b111 _ w111 F S111=>?_
    refine ⟨Sd.of (S108.trans S111) [4] rfl,?_⟩
    exact G98 _ _ ⟨b48,b111,F.cut rfl,(S108.trans S111).pick [0,1,2,3,4] rfl⟩
  refine x_lem (fun aZ wZ=>∃ (b56:Nat),Fr 50 [(5,.pointer (some ⟨b56,0,none⟩)),(14,.slice a_Wa a_Wn a_Wc),(10,.slice a_Ra a_Rn a_Rc),(4,.pointer (some ⟨b5,0,none⟩)),(3,.pointer (some ⟨b3,0,none⟩))] aZ∧Mv [bx b5 [.slice none 0 0,.slice none 0 0] 56,bx b3 [.slice b_Ra b_Rn b_Rc,.slice b_Wa b_Wn b_Wc] 56,bx b1 [.slice a_Ra a_Rn a_Rc,.slice a_Wa a_Wn a_Wc] 56] w8 [bx b56 [.slice none 0 0,.slice none 0 0] 56,bx b5 [.slice none 0 0,.slice none 0 0] 56,bx b3 [.slice b_Ra b_Rn b_Rc,.slice b_Wa b_Wn b_Wc] 56,bx b1 [.slice a_Ra a_Rn a_Rc,.slice a_Wa a_Wn a_Wc] 56] wZ) #[nF,yT,yT,nF,nF,yT,yT,nF,nF,yT,nF] 6 ?_ (fun G113=>?_)
  ·rintro a113 w113 ⟨b56,F,S113⟩
   refine d_all (rs:=[0,4]) rfl (by kernel_rfl) (by simp) (d_cons (i:=0) (listed':=#[yT,yT,yT,nF,nF,yT,yT,nF,nF,yT,nF]) rfl rfl ?_ (d_cons (i:=4) (listed':=#[nF,yT,yT,nF,yT,yT,yT,nF,nF,yT,nF]) rfl rfl ?_ d_nil))
   ·refine f_buildSl (ok:=okS) (vs:=[]) F S113.at' (([]:List ByteArray)) ET_44 rfl rfl rfl rfl rfl rfl rfl rfl rfl (by simp) fun b114 _ w114 F S114=>?_
    refine ⟨Sd.of (S113.trans S114) [4] rfl,?_⟩
    exact G93 _ _ ⟨b114,b56,F.cut rfl,(S113.trans S114).pick [1,0,2,3,4] rfl⟩
   ·refine f_buildSl (ok:=okS) (vs:=[]) F S113.at' (([]:List ByteArray)) ET_44 rfl rfl rfl rfl rfl rfl rfl rfl rfl (by simp) fun b116 _ w116 F S116=>?_
    refine ⟨Sd.of (S113.trans S116) [4] rfl,?_⟩
    exact G98 _ _ ⟨b116,b56,F.cut rfl,(S113.trans S116).pick [1,0,2,3,4] rfl⟩
  refine x_lem (fun aZ wZ=>Fr 50 [(14,.slice a_Wa a_Wn a_Wc),(10,.slice a_Ra a_Rn a_Rc),(4,.pointer (some ⟨b5,0,none⟩)),(3,.pointer (some ⟨b3,0,none⟩))] aZ∧Mv [bx b5 [.slice none 0 0,.slice none 0 0] 56,bx b3 [.slice b_Ra b_Rn b_Rc,.slice b_Wa b_Wn b_Wc] 56,bx b1 [.slice a_Ra a_Rn a_Rc,.slice a_Wa a_Wn a_Wc] 56] w8 [bx b5 [.slice none 0 0,.slice none 0 0] 56,bx b3 [.slice b_Ra b_Rn b_Rc,.slice b_Wa b_Wn b_Wc] 56,bx b1 [.slice a_Ra a_Rn a_Rc,.slice a_Wa a_Wn a_Wc] 56] wZ) #[nF,yT,yT,nF,nF,yT,yT,nF,nF,nF,nF] 7 ?_ (fun G118=>?_)
  ·rintro a118 w118 ⟨F,S118⟩
   refine d_all (rs:=[0,4,9]) rfl (by kernel_rfl) (by simp) (d_cons (i:=0) (listed':=#[yT,yT,yT,nF,nF,yT,yT,nF,nF,nF,nF]) rfl rfl ?_ (d_cons (i:=4) (listed':=#[nF,yT,yT,nF,yT,yT,yT,nF,nF,nF,nF]) rfl rfl ?_ (d_cons (i:=9) (listed':=#[nF,yT,yT,nF,nF,yT,yT,nF,nF,yT,nF]) rfl rfl ?_ d_nil)))
   ·refine f_buildSl (ok:=okS) (vs:=[]) F S118.at' (([]:List ByteArray)) ET_44 rfl rfl rfl rfl rfl rfl rfl rfl rfl (by simp) fun b119 _ w119 F S119=>?_
    refine ⟨Sd.of (S118.trans S119) [3] rfl,?_⟩
    exact G101 _ _ ⟨b119,F.cut rfl,(S118.trans S119).pick [0,1,2,3] rfl⟩
   ·refine f_buildSl (ok:=okS) (vs:=[]) F S118.at' (([]:List ByteArray)) ET_44 rfl rfl rfl rfl rfl rfl rfl rfl rfl (by simp) fun b121 _ w121 F S121=>?_
    refine ⟨Sd.of (S118.trans S121) [3] rfl,?_⟩
    exact G108 _ _ ⟨b121,F.cut rfl,(S118.trans S121).pick [0,1,2,3] rfl⟩
   ·refine f_alloc F S118.at' ZI_56 rfl rfl rfl rfl rfl fun b123 _ w123 F S123=>?_
    refine ⟨Sd.of (S118.trans S123) [3] rfl,?_⟩
    exact G113 _ _ ⟨b123,F.cut rfl,(S118.trans S123).pick [0,1,2,3] rfl⟩
  refine g_take F rfl (i:=1) (listed':=#[nF,yT,nF,nF,nF,nF,nF,nF,nF,nF,nF]) rfl (by kernel_rfl) (by kernel_rfl) (by kernel_rfl) (fun _ _ _ h=>h) (Sd.of (Mv.refl S8.at') [2] rfl) rfl rfl rfl rfl (fun _ hz=>(r_field FI_56_0 rfl (F.g rfl) rfl)) fun _ F=>?_
  refine g_take (v:=.slice a_Ra a_Rn a_Rc) F rfl (i:=2) (listed':=#[nF,yT,yT,nF,nF,nF,nF,nF,nF,nF,nF]) rfl (by kernel_rfl) (by kernel_rfl) (by kernel_rfl) (fun _ _ _ h=>h) (Sd.of (Mv.refl S8.at') [2] rfl) rfl rfl rfl rfl (fun _ hz=>(r_loadX (hz.bx 0 rfl) TI_44 rfl (F.g rfl) rfl rfl (fun _=>rfl) rfl)) fun _ F=>?_
  refine g_take F rfl (i:=5) (listed':=#[nF,yT,yT,nF,nF,yT,nF,nF,nF,nF,nF]) rfl (by kernel_rfl) (by kernel_rfl) (by kernel_rfl) (fun _ _ _ h=>h) (Sd.of (Mv.refl S8.at') [2] rfl) rfl rfl rfl rfl (fun _ hz=>(r_field FI_56_1 rfl (F.g rfl) rfl)) fun _ F=>?_
  refine g_take (v:=.slice a_Wa a_Wn a_Wc) F rfl (i:=6) (listed':=#[nF,yT,yT,nF,nF,yT,yT,nF,nF,nF,nF]) rfl (by kernel_rfl) (by kernel_rfl) (by kernel_rfl) (fun _ _ _ h=>h) (Sd.of (Mv.refl S8.at') [2] rfl) rfl rfl rfl rfl (fun _ hz=>(r_loadX (hz.bx 0 rfl) TI_44 rfl (F.g rfl) rfl rfl (fun _=>rfl) rfl)) fun _ F=>?_
  exact G118 _ _ ⟨F.cut rfl,(Mv.refl S8.at').pick [0,1,2] rfl⟩
 ·rintro a129 w129 ⟨b13,A15,N15,C15,b17,A19,N19,C19,b22,F,S129⟩
  obtain ⟨Q30,Q43,Q56⟩:=At.ownInv S129.at' ET_44.hk 3 rfl
  obtain ⟨Q31,Q44,Q57⟩:=At.ownInv S129.at' ET_44.hk 4 rfl
  refine zr fun _ F=>?_
  have Z132:Rd 1 encS okS (V H w [bx b5 [.slice none 0 0,.slice none 0 0] 56,bx b3 [.slice b_Ra b_Rn b_Rc,.slice b_Wa b_Wn b_Wc] 56,bx b1 [.slice a_Ra a_Rn a_Rc,.slice a_Wa a_Wn a_Wc] 56,ow 9 1 encS okS (.slice A19 N19 C19) (([]:List ByteArray)++a.writes),bx b22 [.slice A15 N15 C15,.slice A19 N19 C19] 56]) w129 (.slice A15 N15 C15) (([]:List ByteArray)++a.reads):=At.freeze (S1.trans (S3.trans (S5.trans S129))) ET_44.hk 3 rfl (fun b hb=>((S1.trans (S3.trans (S5.trans S129))).fresh b ⟨_,nth_mem (i:=3) rfl,hb⟩).resolve_left (fps_nil _))
  have S132:=At.drop S129.at' 3
  refine x_lp (fun (k:Nat) aZ wZ=>∃ (ra:Option Addr),∃ (rn:Nat),∃ (rc:Nat),Fr 50 [(6,.int .i64 ((k:Nat):Int)),(3,.pointer (some ⟨b3,0,none⟩)),(4,.pointer (some ⟨b5,0,none⟩)),(5,.pointer (some ⟨b22,0,none⟩))] aZ∧Mv [bx b5 [.slice none 0 0,.slice none 0 0] 56,bx b3 [.slice b_Ra b_Rn b_Rc,.slice b_Wa b_Wn b_Wc] 56,bx b1 [.slice a_Ra a_Rn a_Rc,.slice a_Wa a_Wn a_Wc] 56,ow 9 1 encS okS (.slice A19 N19 C19) (([]:List ByteArray)++a.writes),bx b22 [.slice A15 N15 C15,.slice A19 N19 C19] 56] w129 [bx b5 [.slice none 0 0,.slice none 0 0] 56,bx b3 [.slice b_Ra b_Rn b_Rc,.slice b_Wa b_Wn b_Wc] 56,bx b1 [.slice a_Ra a_Rn a_Rc,.slice a_Wa a_Wn a_Wc] 56,ow 9 1 encS okS (.slice A19 N19 C19) (([]:List ByteArray)++a.writes),bx b22 [.slice ra rn rc,.slice A19 N19 C19] 56] wZ∧Rd 1 encS okS (V H w [bx b5 [.slice none 0 0,.slice none 0 0] 56,bx b3 [.slice b_Ra b_Rn b_Rc,.slice b_Wa b_Wn b_Wc] 56,bx b1 [.slice a_Ra a_Rn a_Rc,.slice a_Wa a_Wn a_Wc] 56,ow 9 1 encS okS (.slice A19 N19 C19) (([]:List ByteArray)++a.writes),bx b22 [.slice ra rn rc,.slice A19 N19 C19] 56]) wZ (.slice ra rn rc) (joinL a.reads (b.reads.take k))∧(k≤b_Rn)) (fun (k:Nat)=>b_Rn - k) (0) ?_ ?_
  ·exact ⟨A15,N15,C15,F.cut rfl,(Mv.refl S132.at'),Z132,by omega⟩
  ·rintro k a131 w131 ⟨ra,rn,rc,F,S131,W131_0,h131_0⟩
   obtain ⟨lv131_0,lw131_0,lx131_0,ly131_0⟩:=Rd.inv W131_0
   have jl:=joinL_length a.reads (b.reads.take k)
   rw [List.length_take] at jl
   refine zr fun _ F=>?_
   refine zl F S131.at' 1 fun _ F=>?_
   refine zc F (k < b_Rn) fun _ F=>?_
   refine zi F (fun h138=>?_) fun h138=>?_
   ·refine zr fun _ F=>?_
    obtain ⟨x1,hx1,okx1⟩:=Rd.elem (Rd.mq V_v_b_reads (S1.trans (S3.trans (S5.trans (S129.trans (S132.trans S131)))))) k zIa
    refine x_draw (fun aZ wZ=>∃ (Q0:Option Addr),∃ (Q4:Nat),∃ (Q2:Nat),Fr 50 [(3,.pointer (some ⟨b3,0,none⟩)),(4,.pointer (some ⟨b5,0,none⟩)),(5,.pointer (some ⟨b22,0,none⟩)),(6,.int .i64 ((k:Nat):Int))] aZ∧Mv [bx b5 [.slice none 0 0,.slice none 0 0] 56,bx b3 [.slice b_Ra b_Rn b_Rc,.slice b_Wa b_Wn b_Wc] 56,bx b1 [.slice a_Ra a_Rn a_Rc,.slice a_Wa a_Wn a_Wc] 56,ow 9 1 encS okS (.slice A19 N19 C19) (([]:List ByteArray)++a.writes),bx b22 [.slice ra rn rc,.slice A19 N19 C19] 56] w131 [bx b5 [.slice none 0 0,.slice none 0 0] 56,bx b3 [.slice b_Ra b_Rn b_Rc,.slice b_Wa b_Wn b_Wc] 56,bx b1 [.slice a_Ra a_Rn a_Rc,.slice a_Wa a_Wn a_Wc] 56,ow 9 1 encS okS (.slice A19 N19 C19) (([]:List ByteArray)++a.writes),bx b22 [.slice Q0 Q4 Q2,.slice A19 N19 C19] 56] wZ∧Rd 1 encS okS (V H w [bx b5 [.slice none 0 0,.slice none 0 0] 56,bx b3 [.slice b_Ra b_Rn b_Rc,.slice b_Wa b_Wn b_Wc] 56,bx b1 [.slice a_Ra a_Rn a_Rc,.slice a_Wa a_Wn a_Wc] 56,ow 9 1 encS okS (.slice A19 N19 C19) (([]:List ByteArray)++a.writes),bx b22 [.slice Q0 Q4 Q2,.slice A19 N19 C19] 56]) wZ (.slice Q0 Q4 Q2) (putL (joinL a.reads (b.reads.take k)) x1)) [bx b3 [.slice b_Ra b_Rn b_Rc,.slice b_Wa b_Wn b_Wc] 56] mixed S131.at' (listed:=#[false,false,false,false,false,false,false,false,false,false]) rfl (fun w140 S140=>?_) [1] rfl ?_
    ·refine x_lem (fun aZ wZ=>∃ (Q0:Option Addr),∃ (Q4:Nat),∃ (Q2:Nat),Fr 50 [(32,.pointer (some ⟨b22,0,none⟩)),(31,.slice Q0 Q4 Q2),(6,.int .i64 ((k:Nat):Int)),(3,.pointer (some ⟨b3,0,none⟩)),(4,.pointer (some ⟨b5,0,none⟩)),(5,.pointer (some ⟨b22,0,none⟩))] aZ∧Mv [bx b5 [.slice none 0 0,.slice none 0 0] 56,bx b3 [.slice b_Ra b_Rn b_Rc,.slice b_Wa b_Wn b_Wc] 56,bx b1 [.slice a_Ra a_Rn a_Rc,.slice a_Wa a_Wn a_Wc] 56,ow 9 1 encS okS (.slice A19 N19 C19) (([]:List ByteArray)++a.writes),bx b22 [.slice ra rn rc,.slice A19 N19 C19] 56] w140 [bx b5 [.slice none 0 0,.slice none 0 0] 56,bx b3 [.slice b_Ra b_Rn b_Rc,.slice b_Wa b_Wn b_Wc] 56,bx b1 [.slice a_Ra a_Rn a_Rc,.slice a_Wa a_Wn a_Wc] 56,ow 9 1 encS okS (.slice A19 N19 C19) (([]:List ByteArray)++a.writes),bx b22 [.slice ra rn rc,.slice A19 N19 C19] 56] wZ∧Rd 1 encS okS (V H w [bx b5 [.slice none 0 0,.slice none 0 0] 56,bx b3 [.slice b_Ra b_Rn b_Rc,.slice b_Wa b_Wn b_Wc] 56,bx b1 [.slice a_Ra a_Rn a_Rc,.slice a_Wa a_Wn a_Wc] 56,ow 9 1 encS okS (.slice A19 N19 C19) (([]:List ByteArray)++a.writes),bx b22 [.slice ra rn rc,.slice A19 N19 C19] 56]) wZ (.slice Q0 Q4 Q2) (putL (joinL a.reads (b.reads.take k)) x1)) #[yT,yT,yT,yT,yT,yT,yT,yT,yT,nF] 1 ?_ (fun G153=>?_)
     ·rintro a153 w153 ⟨Q0,Q4,Q2,F,S153,W153_0⟩
      obtain ⟨Q32,Q45,Q58⟩:=At.ownInv S153.at' ET_44.hk 3 rfl
      refine d_one (i:=9) (listed':=#[yT,yT,yT,yT,yT,yT,yT,yT,yT,yT]) rfl (by kernel_rfl) rfl rfl ?_
      refine s_store S153.at' 4 TI_44 rfl rfl rfl rfl rfl (F.g rfl) (F.g rfl) rfl rfl rfl rfl rfl fun w154 S154=>?_
      refine ⟨Sd.of (S153.trans S154) [2] rfl,?_⟩
      refine wpAnyH_done (by kernel_rfl) (x_normal ?_) _
      exact ⟨Q0,Q4,Q2,F.cut rfl,((S140.trans (S153.trans S154)).pick [1,2,3,4,0] rfl),(Rd.mq (Rd.mq W153_0 S154) (Mv.pick (Mv.refl S154.at') [1,2,3,4,0] rfl))⟩
     refine x_lem (fun aZ wZ=>Fr 50 [(25,.slice ra rn rc),(30,.string x1),(6,.int .i64 ((k:Nat):Int)),(3,.pointer (some ⟨b3,0,none⟩)),(4,.pointer (some ⟨b5,0,none⟩)),(5,.pointer (some ⟨b22,0,none⟩))] aZ∧Mv [bx b5 [.slice none 0 0,.slice none 0 0] 56,bx b3 [.slice b_Ra b_Rn b_Rc,.slice b_Wa b_Wn b_Wc] 56,bx b1 [.slice a_Ra a_Rn a_Rc,.slice a_Wa a_Wn a_Wc] 56,ow 9 1 encS okS (.slice A19 N19 C19) (([]:List ByteArray)++a.writes),bx b22 [.slice ra rn rc,.slice A19 N19 C19] 56] w140 [bx b5 [.slice none 0 0,.slice none 0 0] 56,bx b3 [.slice b_Ra b_Rn b_Rc,.slice b_Wa b_Wn b_Wc] 56,bx b1 [.slice a_Ra a_Rn a_Rc,.slice a_Wa a_Wn a_Wc] 56,ow 9 1 encS okS (.slice A19 N19 C19) (([]:List ByteArray)++a.writes),bx b22 [.slice ra rn rc,.slice A19 N19 C19] 56] wZ) #[yT,yT,yT,yT,yT,yT,yT,nF,nF,nF] 3 ?_ (fun G155=>?_)
     ·rintro a155 w155 ⟨F,S155⟩
      obtain ⟨Q33,Q46,Q59⟩:=At.ownInv S155.at' ET_44.hk 3 rfl
      refine d_one (i:=7) (listed':=#[yT,yT,yT,yT,yT,yT,yT,yT,nF,nF]) rfl (by kernel_rfl) rfl rfl ?_
      refine f_call F CF_180 rfl rfl rfl rfl (lc (F.g rfl) (lc (F.g rfl) rfl)) (spec_AddSpan_c (list:=joinL a.reads (b.reads.take k)) (span:=x1) (Rd.mq W131_0 (S140.trans S155)) okx1 zI8) ?_
      rintro _ w156 ⟨Q16,Q20,Q18,rfl,m156,v156_0⟩
      refine ⟨_,rfl,fun _ F=>?_⟩
      have S156:=At.frame0 S155.at' m156
      have V156_0:=Rd.got0 S155.at' ((S1.trans (S3.trans (S5.trans (S129.trans (S132.trans (S131.trans (S140.trans S155))))))).kp.size) v156_0 S156
      obtain ⟨ln156_0,le156_0,mx156_0,ni156_0⟩:=Rd.inv V156_0
      clear m156 v156_0
      refine ⟨Sd.of (S155.trans S156) [1] rfl,?_⟩
      refine g_take F rfl (i:=8) (listed':=#[yT,yT,yT,yT,yT,yT,yT,yT,yT,nF]) rfl (by kernel_rfl) (by kernel_rfl) (by kernel_rfl) (fun _ _ _ h=>h) (Sd.of (S155.trans S156) [1] rfl) rfl rfl rfl rfl (fun _ hz=>(r_field FI_56_0 rfl (F.g rfl) rfl)) fun _ F=>?_
      exact G153 _ _ ⟨Q16,Q20,Q18,F.cut rfl,(S155.trans S156).pick [0,1,2,3,4] rfl,V156_0⟩
     refine x_lem (fun aZ wZ=>Fr 50 [(30,.string x1),(24,.pointer (some ⟨b22,0,none⟩)),(6,.int .i64 ((k:Nat):Int)),(3,.pointer (some ⟨b3,0,none⟩)),(4,.pointer (some ⟨b5,0,none⟩)),(5,.pointer (some ⟨b22,0,none⟩))] aZ∧Mv [bx b5 [.slice none 0 0,.slice none 0 0] 56,bx b3 [.slice b_Ra b_Rn b_Rc,.slice b_Wa b_Wn b_Wc] 56,bx b1 [.slice a_Ra a_Rn a_Rc,.slice a_Wa a_Wn a_Wc] 56,ow 9 1 encS okS (.slice A19 N19 C19) (([]:List ByteArray)++a.writes),bx b22 [.slice ra rn rc,.slice A19 N19 C19] 56] w140 [bx b5 [.slice none 0 0,.slice none 0 0] 56,bx b3 [.slice b_Ra b_Rn b_Rc,.slice b_Wa b_Wn b_Wc] 56,bx b1 [.slice a_Ra a_Rn a_Rc,.slice a_Wa a_Wn a_Wc] 56,ow 9 1 encS okS (.slice A19 N19 C19) (([]:List ByteArray)++a.writes),bx b22 [.slice ra rn rc,.slice A19 N19 C19] 56] wZ) #[yT,nF,yT,yT,yT,yT,yT,nF,nF,nF] 4 ?_ (fun G159=>?_)
     ·rintro a159 w159 ⟨F,S159⟩
      obtain ⟨Q34,Q47,Q60⟩:=At.ownInv S159.at' ET_44.hk 3 rfl
      refine d_one (i:=1) (listed':=#[yT,yT,yT,yT,yT,yT,yT,nF,nF,nF]) rfl (by kernel_rfl) rfl rfl ?_
      refine f_val (v:=.slice ra rn rc) F rfl rfl (r_loadB S159.at' 4 TI_44 rfl rfl (F.g rfl) rfl rfl (fun _=>rfl) rfl) rfl fun _ F=>?_
      refine ⟨Sd.of S159 [1] rfl,?_⟩
      exact G155 _ _ ⟨F.cut rfl,S159.pick [0,1,2,3,4] rfl⟩
     refine g_take F rfl (i:=0) (listed':=#[yT,nF,nF,nF,nF,nF,nF,nF,nF,nF]) rfl (by kernel_rfl) (by kernel_rfl) (by kernel_rfl) (fun _ _ _ h=>h) (Sd.of (Mv.refl S140.at') [1] rfl) rfl rfl rfl rfl (fun _ hz=>(r_field FI_56_0 rfl (F.g rfl) rfl)) fun _ F=>?_
     refine g_take F rfl (i:=2) (listed':=#[yT,nF,yT,nF,nF,nF,nF,nF,nF,nF]) rfl (by kernel_rfl) (by kernel_rfl) (by kernel_rfl) (fun _ _ _ h=>h) (Sd.of (Mv.refl S140.at') [1] rfl) rfl rfl rfl rfl (fun _ hz=>(r_field FI_56_0 rfl (F.g rfl) rfl)) fun _ F=>?_
     refine g_take (v:=.slice b_Ra b_Rn b_Rc) F rfl (i:=3) (listed':=#[yT,nF,yT,yT,nF,nF,nF,nF,nF,nF]) rfl (by kernel_rfl) (by kernel_rfl) (by kernel_rfl) (fun _ _ _ h=>h) (Sd.of (Mv.refl S140.at') [1] rfl) rfl rfl rfl rfl (fun _ hz=>(r_loadX (hz.bx 0 rfl) TI_44 rfl (F.g rfl) rfl rfl (fun _=>rfl) rfl)) fun _ F=>?_
     refine g_take F rfl (i:=4) (listed':=#[yT,nF,yT,yT,yT,nF,nF,nF,nF,nF]) rfl (by kernel_rfl) (by kernel_rfl) (by kernel_rfl) (fun _ _ _ h=>h) (Sd.of (Mv.refl S140.at') [1] rfl) rfl rfl rfl rfl (fun _ hz=>(r_move rfl (F.g rfl))) fun _ F=>?_
     obtain ⟨B165,O165,y165,ad165,hy165,oky165,ln165,cl165⟩:=Rd.atK (Nat.succ_pos _) (Rd.mq V_v_b_reads (S1.trans (S3.trans (S5.trans (S129.trans (S132.trans (S131.trans S140))))))) k zIa
     clear ln165
     obtain rfl:=Option.some.inj (hx1.symm.trans hy165)
     clear hy165 oky165
     refine g_take F rfl (i:=5) (listed':=#[yT,nF,yT,yT,yT,yT,nF,nF,nF,nF]) rfl (by kernel_rfl) (by kernel_rfl) (by kernel_rfl) (fun _ _ _ h=>h) (Sd.of (Mv.refl S140.at') [1] rfl) rfl rfl rfl rfl (fun _ hz=>(r_indexAddr (i:=k) ET_44 rfl ((F.ev 27 rfl).trans (by rw [ad165])) (F.g rfl) (by omega) zIa)) fun _ F=>?_
     refine g_take (v:=.string x1) F rfl (i:=6) (listed':=#[yT,nF,yT,yT,yT,yT,yT,nF,nF,nF]) rfl (by kernel_rfl) (by kernel_rfl) (by kernel_rfl) (fun _ _ _ h=>h) (Sd.of (Mv.refl S140.at') [1] rfl) rfl rfl rfl rfl (fun _ hz=>(r_load (cs:=[.string x1]) TI_9 rfl (F.g rfl) rfl (fun _=>rfl) (elem_sub (f:=0) (cl165 _ hz.kp) [.string x1] rfl))) fun _ F=>?_
     exact G159 _ _ ⟨F.cut rfl,(Mv.refl S140.at').pick [0,1,2,3,4] rfl⟩
    ·rintro a168 w168 ⟨Q0,Q4,Q2,F,S168,V168_0⟩
     obtain ⟨ln168_0,le168_0,mx168_0,ni168_0⟩:=Rd.inv V168_0
     refine zr fun _ F=>?_
     refine zq F ((k+1:Nat):Int) fun _ F=>?_
     exact ⟨k+1,zD,Q0,Q4,Q2,F.cut rfl,((S131.trans S168).pick [0,1,2,3,4] rfl),(Rd.cast V168_0 (by exact (joinL_step hx1).symm)),by omega⟩
   ·refine zr fun _ F=>?_
    have Z174:Rd 1 encS okS (V H w [bx b5 [.slice none 0 0,.slice none 0 0] 56,bx b3 [.slice b_Ra b_Rn b_Rc,.slice b_Wa b_Wn b_Wc] 56,bx b1 [.slice a_Ra a_Rn a_Rc,.slice a_Wa a_Wn a_Wc] 56,bx b22 [.slice ra rn rc,.slice A19 N19 C19] 56]) w131 (.slice A19 N19 C19) (([]:List ByteArray)++a.writes):=At.freeze (S1.trans (S3.trans (S5.trans (S129.trans (S132.trans S131))))) ET_44.hk 3 rfl (fun b hb=>((S1.trans (S3.trans (S5.trans (S129.trans (S132.trans S131))))).fresh b ⟨_,nth_mem (i:=3) rfl,hb⟩).resolve_left (fps_nil _))
    have S174:=At.drop S131.at' 3
    refine x_lp (fun (j:Nat) aZ wZ=>∃ (ua:Option Addr),∃ (un:Nat),∃ (uc:Nat),Fr 50 [(7,.int .i64 ((j:Nat):Int)),(3,.pointer (some ⟨b3,0,none⟩)),(4,.pointer (some ⟨b5,0,none⟩)),(5,.pointer (some ⟨b22,0,none⟩))] aZ∧Mv [bx b5 [.slice none 0 0,.slice none 0 0] 56,bx b3 [.slice b_Ra b_Rn b_Rc,.slice b_Wa b_Wn b_Wc] 56,bx b1 [.slice a_Ra a_Rn a_Rc,.slice a_Wa a_Wn a_Wc] 56,bx b22 [.slice ra rn rc,.slice A19 N19 C19] 56] w131 [bx b5 [.slice none 0 0,.slice none 0 0] 56,bx b3 [.slice b_Ra b_Rn b_Rc,.slice b_Wa b_Wn b_Wc] 56,bx b1 [.slice a_Ra a_Rn a_Rc,.slice a_Wa a_Wn a_Wc] 56,bx b22 [.slice ra rn rc,.slice ua un uc] 56] wZ∧Rd 1 encS okS (V H w [bx b5 [.slice none 0 0,.slice none 0 0] 56,bx b3 [.slice b_Ra b_Rn b_Rc,.slice b_Wa b_Wn b_Wc] 56,bx b1 [.slice a_Ra a_Rn a_Rc,.slice a_Wa a_Wn a_Wc] 56,bx b22 [.slice ra rn rc,.slice ua un uc] 56]) wZ (.slice ua un uc) (joinL a.writes (b.writes.take j))∧(j≤b_Wn)) (fun (j:Nat)=>b_Wn - j) (0) ?_ ?_
    ·exact ⟨A19,N19,C19,F.cut rfl,(Mv.refl S174.at'),Z174,by omega⟩
    ·rintro j a173 w173 ⟨ua,un,uc,F,S173,W173_0,h173_0⟩
     obtain ⟨lv173_0,lw173_0,lx173_0,ly173_0⟩:=Rd.inv W173_0
     have jl:=joinL_length a.writes (b.writes.take j)
     rw [List.length_take] at jl
     refine zr fun _ F=>?_
     refine zl F S173.at' 1 fun _ F=>?_
     refine zc F (j < b_Wn) fun _ F=>?_
     refine zi F (fun h180=>?_) fun h180=>?_
     ·refine zr fun _ F=>?_
      obtain ⟨x1,hx1,okx1⟩:=Rd.elem (Rd.mq V_v_b_writes (S1.trans (S3.trans (S5.trans (S129.trans (S132.trans (S131.trans (S174.trans S173)))))))) j zIa
      refine x_draw (fun aZ wZ=>∃ (Q1:Option Addr),∃ (Q5:Nat),∃ (Q3:Nat),Fr 50 [(3,.pointer (some ⟨b3,0,none⟩)),(4,.pointer (some ⟨b5,0,none⟩)),(5,.pointer (some ⟨b22,0,none⟩)),(7,.int .i64 ((j:Nat):Int))] aZ∧Mv [bx b5 [.slice none 0 0,.slice none 0 0] 56,bx b3 [.slice b_Ra b_Rn b_Rc,.slice b_Wa b_Wn b_Wc] 56,bx b1 [.slice a_Ra a_Rn a_Rc,.slice a_Wa a_Wn a_Wc] 56,bx b22 [.slice ra rn rc,.slice ua un uc] 56] w173 [bx b5 [.slice none 0 0,.slice none 0 0] 56,bx b3 [.slice b_Ra b_Rn b_Rc,.slice b_Wa b_Wn b_Wc] 56,bx b1 [.slice a_Ra a_Rn a_Rc,.slice a_Wa a_Wn a_Wc] 56,bx b22 [.slice ra rn rc,.slice Q1 Q5 Q3] 56] wZ∧Rd 1 encS okS (V H w [bx b5 [.slice none 0 0,.slice none 0 0] 56,bx b3 [.slice b_Ra b_Rn b_Rc,.slice b_Wa b_Wn b_Wc] 56,bx b1 [.slice a_Ra a_Rn a_Rc,.slice a_Wa a_Wn a_Wc] 56,bx b22 [.slice ra rn rc,.slice Q1 Q5 Q3] 56]) wZ (.slice Q1 Q5 Q3) (putL (joinL a.writes (b.writes.take j)) x1)) [bx b3 [.slice b_Ra b_Rn b_Rc,.slice b_Wa b_Wn b_Wc] 56] mixed S173.at' (listed:=#[false,false,false,false,false,false,false,false,false,false]) rfl (fun w182 S182=>?_) [1] rfl ?_
      ·refine x_lem (fun aZ wZ=>∃ (Q1:Option Addr),∃ (Q5:Nat),∃ (Q3:Nat),Fr 50 [(48,.pointer (some ⟨b22,1,none⟩)),(47,.slice Q1 Q5 Q3),(7,.int .i64 ((j:Nat):Int)),(3,.pointer (some ⟨b3,0,none⟩)),(4,.pointer (some ⟨b5,0,none⟩)),(5,.pointer (some ⟨b22,0,none⟩))] aZ∧Mv [bx b5 [.slice none 0 0,.slice none 0 0] 56,bx b3 [.slice b_Ra b_Rn b_Rc,.slice b_Wa b_Wn b_Wc] 56,bx b1 [.slice a_Ra a_Rn a_Rc,.slice a_Wa a_Wn a_Wc] 56,bx b22 [.slice ra rn rc,.slice ua un uc] 56] w182 [bx b5 [.slice none 0 0,.slice none 0 0] 56,bx b3 [.slice b_Ra b_Rn b_Rc,.slice b_Wa b_Wn b_Wc] 56,bx b1 [.slice a_Ra a_Rn a_Rc,.slice a_Wa a_Wn a_Wc] 56,bx b22 [.slice ra rn rc,.slice ua un uc] 56] wZ∧Rd 1 encS okS (V H w [bx b5 [.slice none 0 0,.slice none 0 0] 56,bx b3 [.slice b_Ra b_Rn b_Rc,.slice b_Wa b_Wn b_Wc] 56,bx b1 [.slice a_Ra a_Rn a_Rc,.slice a_Wa a_Wn a_Wc] 56,bx b22 [.slice ra rn rc,.slice ua un uc] 56]) wZ (.slice Q1 Q5 Q3) (putL (joinL a.writes (b.writes.take j)) x1)) #[yT,yT,yT,yT,yT,yT,yT,yT,yT,nF] 1 ?_ (fun G195=>?_)
       ·rintro a195 w195 ⟨Q1,Q5,Q3,F,S195,W195_0⟩
        refine d_one (i:=9) (listed':=#[yT,yT,yT,yT,yT,yT,yT,yT,yT,yT]) rfl (by kernel_rfl) rfl rfl ?_
        refine s_store S195.at' 3 TI_44 rfl rfl rfl rfl rfl (F.g rfl) (F.g rfl) rfl rfl rfl rfl rfl fun w196 S196=>?_
        refine ⟨Sd.of (S195.trans S196) [2] rfl,?_⟩
        refine wpAnyH_done (by kernel_rfl) (x_normal ?_) _
        exact ⟨Q1,Q5,Q3,F.cut rfl,((S182.trans (S195.trans S196)).pick [1,2,3,0] rfl),(Rd.mq (Rd.mq W195_0 S196) (Mv.pick (Mv.refl S196.at') [1,2,3,0] rfl))⟩
       refine x_lem (fun aZ wZ=>Fr 50 [(41,.slice ua un uc),(46,.string x1),(7,.int .i64 ((j:Nat):Int)),(3,.pointer (some ⟨b3,0,none⟩)),(4,.pointer (some ⟨b5,0,none⟩)),(5,.pointer (some ⟨b22,0,none⟩))] aZ∧Mv [bx b5 [.slice none 0 0,.slice none 0 0] 56,bx b3 [.slice b_Ra b_Rn b_Rc,.slice b_Wa b_Wn b_Wc] 56,bx b1 [.slice a_Ra a_Rn a_Rc,.slice a_Wa a_Wn a_Wc] 56,bx b22 [.slice ra rn rc,.slice ua un uc] 56] w182 [bx b5 [.slice none 0 0,.slice none 0 0] 56,bx b3 [.slice b_Ra b_Rn b_Rc,.slice b_Wa b_Wn b_Wc] 56,bx b1 [.slice a_Ra a_Rn a_Rc,.slice a_Wa a_Wn a_Wc] 56,bx b22 [.slice ra rn rc,.slice ua un uc] 56] wZ) #[yT,yT,yT,yT,yT,yT,yT,nF,nF,nF] 3 ?_ (fun G197=>?_)
       ·rintro a197 w197 ⟨F,S197⟩
        refine d_one (i:=7) (listed':=#[yT,yT,yT,yT,yT,yT,yT,yT,nF,nF]) rfl (by kernel_rfl) rfl rfl ?_
        refine f_call F CF_180 rfl rfl rfl rfl (lc (F.g rfl) (lc (F.g rfl) rfl)) (spec_AddSpan_c (list:=joinL a.writes (b.writes.take j)) (span:=x1) (Rd.mq W173_0 (S182.trans S197)) okx1 zI8) ?_
        rintro _ w198 ⟨Q17,Q21,Q19,rfl,m198,v198_0⟩
        refine ⟨_,rfl,fun _ F=>?_⟩
        have S198:=At.frame0 S197.at' m198
        have V198_0:=Rd.got0 S197.at' ((S1.trans (S3.trans (S5.trans (S129.trans (S132.trans (S131.trans (S174.trans (S173.trans (S182.trans S197))))))))).kp.size) v198_0 S198
        obtain ⟨ln198_0,le198_0,mx198_0,ni198_0⟩:=Rd.inv V198_0
        clear m198 v198_0
        refine ⟨Sd.of (S197.trans S198) [1] rfl,?_⟩
        refine g_take F rfl (i:=8) (listed':=#[yT,yT,yT,yT,yT,yT,yT,yT,yT,nF]) rfl (by kernel_rfl) (by kernel_rfl) (by kernel_rfl) (fun _ _ _ h=>h) (Sd.of (S197.trans S198) [1] rfl) rfl rfl rfl rfl (fun _ hz=>(r_field FI_56_1 rfl (F.g rfl) rfl)) fun _ F=>?_
        exact G195 _ _ ⟨Q17,Q21,Q19,F.cut rfl,(S197.trans S198).pick [0,1,2,3] rfl,V198_0⟩
       refine x_lem (fun aZ wZ=>Fr 50 [(46,.string x1),(40,.pointer (some ⟨b22,1,none⟩)),(7,.int .i64 ((j:Nat):Int)),(3,.pointer (some ⟨b3,0,none⟩)),(4,.pointer (some ⟨b5,0,none⟩)),(5,.pointer (some ⟨b22,0,none⟩))] aZ∧Mv [bx b5 [.slice none 0 0,.slice none 0 0] 56,bx b3 [.slice b_Ra b_Rn b_Rc,.slice b_Wa b_Wn b_Wc] 56,bx b1 [.slice a_Ra a_Rn a_Rc,.slice a_Wa a_Wn a_Wc] 56,bx b22 [.slice ra rn rc,.slice ua un uc] 56] w182 [bx b5 [.slice none 0 0,.slice none 0 0] 56,bx b3 [.slice b_Ra b_Rn b_Rc,.slice b_Wa b_Wn b_Wc] 56,bx b1 [.slice a_Ra a_Rn a_Rc,.slice a_Wa a_Wn a_Wc] 56,bx b22 [.slice ra rn rc,.slice ua un uc] 56] wZ) #[yT,nF,yT,yT,yT,yT,yT,nF,nF,nF] 4 ?_ (fun G201=>?_)
       ·rintro a201 w201 ⟨F,S201⟩
        refine d_one (i:=1) (listed':=#[yT,yT,yT,yT,yT,yT,yT,nF,nF,nF]) rfl (by kernel_rfl) rfl rfl ?_
        refine f_val (v:=.slice ua un uc) F rfl rfl (r_loadB S201.at' 3 TI_44 rfl rfl (F.g rfl) rfl rfl (fun _=>rfl) rfl) rfl fun _ F=>?_
        refine ⟨Sd.of S201 [1] rfl,?_⟩
        exact G197 _ _ ⟨F.cut rfl,S201.pick [0,1,2,3] rfl⟩
       refine g_take F rfl (i:=0) (listed':=#[yT,nF,nF,nF,nF,nF,nF,nF,nF,nF]) rfl (by kernel_rfl) (by kernel_rfl) (by kernel_rfl) (fun _ _ _ h=>h) (Sd.of (Mv.refl S182.at') [1] rfl) rfl rfl rfl rfl (fun _ hz=>(r_field FI_56_1 rfl (F.g rfl) rfl)) fun _ F=>?_
       refine g_take F rfl (i:=2) (listed':=#[yT,nF,yT,nF,nF,nF,nF,nF,nF,nF]) rfl (by kernel_rfl) (by kernel_rfl) (by kernel_rfl) (fun _ _ _ h=>h) (Sd.of (Mv.refl S182.at') [1] rfl) rfl rfl rfl rfl (fun _ hz=>(r_field FI_56_1 rfl (F.g rfl) rfl)) fun _ F=>?_
       refine g_take (v:=.slice b_Wa b_Wn b_Wc) F rfl (i:=3) (listed':=#[yT,nF,yT,yT,nF,nF,nF,nF,nF,nF]) rfl (by kernel_rfl) (by kernel_rfl) (by kernel_rfl) (fun _ _ _ h=>h) (Sd.of (Mv.refl S182.at') [1] rfl) rfl rfl rfl rfl (fun _ hz=>(r_loadX (hz.bx 0 rfl) TI_44 rfl (F.g rfl) rfl rfl (fun _=>rfl) rfl)) fun _ F=>?_
       refine g_take F rfl (i:=4) (listed':=#[yT,nF,yT,yT,yT,nF,nF,nF,nF,nF]) rfl (by kernel_rfl) (by kernel_rfl) (by kernel_rfl) (fun _ _ _ h=>h) (Sd.of (Mv.refl S182.at') [1] rfl) rfl rfl rfl rfl (fun _ hz=>(r_move rfl (F.g rfl))) fun _ F=>?_
       obtain ⟨B207,O207,y207,ad207,hy207,oky207,ln207,cl207⟩:=Rd.atK (Nat.succ_pos _) (Rd.mq V_v_b_writes (S1.trans (S3.trans (S5.trans (S129.trans (S132.trans (S131.trans (S174.trans (S173.trans S182))))))))) j zIa
       clear ln207
       obtain rfl:=Option.some.inj (hx1.symm.trans hy207)
       clear hy207 oky207
       refine g_take F rfl (i:=5) (listed':=#[yT,nF,yT,yT,yT,yT,nF,nF,nF,nF]) rfl (by kernel_rfl) (by kernel_rfl) (by kernel_rfl) (fun _ _ _ h=>h) (Sd.of (Mv.refl S182.at') [1] rfl) rfl rfl rfl rfl (fun _ hz=>(r_indexAddr (i:=j) ET_44 rfl ((F.ev 43 rfl).trans (by rw [ad207])) (F.g rfl) (by omega) zIa)) fun _ F=>?_
       refine g_take (v:=.string x1) F rfl (i:=6) (listed':=#[yT,nF,yT,yT,yT,yT,yT,nF,nF,nF]) rfl (by kernel_rfl) (by kernel_rfl) (by kernel_rfl) (fun _ _ _ h=>h) (Sd.of (Mv.refl S182.at') [1] rfl) rfl rfl rfl rfl (fun _ hz=>(r_load (cs:=[.string x1]) TI_9 rfl (F.g rfl) rfl (fun _=>rfl) (elem_sub (f:=0) (cl207 _ hz.kp) [.string x1] rfl))) fun _ F=>?_
       exact G201 _ _ ⟨F.cut rfl,(Mv.refl S182.at').pick [0,1,2,3] rfl⟩
      ·rintro a210 w210 ⟨Q1,Q5,Q3,F,S210,V210_0⟩
       obtain ⟨ln210_0,le210_0,mx210_0,ni210_0⟩:=Rd.inv V210_0
       refine zr fun _ F=>?_
       refine zq F ((j+1:Nat):Int) fun _ F=>?_
       exact ⟨j+1,zD,Q1,Q5,Q3,F.cut rfl,((S173.trans S210).pick [0,1,2,3] rfl),(Rd.cast V210_0 (by exact (joinL_step hx1).symm)),by omega⟩
     ·refine zr fun _ F=>?_
      refine zw F S173.at' 3 fun _ F=>?_
      refine l_op (s_store S173.at' 0 TI_56 rfl rfl rfl rfl rfl (F.g rfl) (F.g rfl) rfl rfl rfl rfl rfl fun w215 S215=>?_)
      have T216:Mv _ _ [bx _ [_,_] _,bx _ [_,_] _,bx _ [_,_] _,bx _ [_,_] _] _:=S215
      refine zr fun _ F=>?_
      refine x_done F (results_1 rfl (zca F T216.at' 0)) ?_
      exact ⟨ra,rn,rc,ua,un,uc,rfl,(Mv.pick (S1.trans (S3.trans (S5.trans (S129.trans (S132.trans (S131.trans (S174.trans (S173.trans T216)))))))) [] rfl),(Rd.cast (Rd.give (Rd.mq W131_0 (S174.trans (S173.trans T216)))) (by unfold joinT;dsimp only;congr 1;exact List.take_of_length_le (by omega))),(Rd.cast (Rd.give (Rd.mq W173_0 T216)) (by unfold joinT;dsimp only;congr 1;exact List.take_of_length_le (by omega)))⟩
theorem spec_l04Look_c {w:World} {H:Nat→Prop} {m:MachD} {m_Sa:Option Addr} {m_Sn m_Sc:Nat} {m_Ra:Option Addr} {m_Rn m_Rc:Nat} {m_Wa:Option Addr} {m_Wn m_Wc:Nat} {key:ByteArray} (Q13:Rd 2 encC okC H w (.slice m_Sa m_Sn m_Sc) m.store) (Q14:Rd 1 encS okS H w (.slice m_Ra m_Rn m_Rc) m.touch.reads) (Q15:Rd 1 encS okS H w (.slice m_Wa m_Wn m_Wc) m.touch.writes) (Q3:okS key) (p0:m.touch.reads.length≤274877906944) :
 Calls Tryz.prog 293 #[.agg #[.slice m_Sa m_Sn m_Sc,.slice m_Ra m_Rn m_Rc,.slice m_Wa m_Wn m_Wc],.string key] w fun e w'=>∃ (Q7:Option Addr),∃ (Q9:Nat),∃ (Q8:Nat),∃ (Q4:Option Addr),∃ (Q6:Nat),∃ (Q5:Nat),∃ (Q10:Option Addr),∃ (Q12:Nat),∃ (Q11:Nat),e=.returned (.tuple #[.agg #[.slice Q7 Q9 Q8,.slice Q4 Q6 Q5,.slice Q10 Q12 Q11],.string (getKey m.store key)])∧Mv [] w [] w'∧Rd 2 encC okC (Fsh H w) w' (.slice Q7 Q9 Q8) (lookM m key).store∧Rd 1 encS okS (Fsh H w) w' (.slice Q4 Q6 Q5) (lookM m key).touch.reads∧Rd 1 encS okS (Fsh H w) w' (.slice Q10 Q12 Q11) (lookM m key).touch.writes∧okS (getKey m.store key):=by
 have V_v_m_store:=Rd.start Q13 zN
 obtain ⟨Q21,Q18,Q24,Q27⟩:=Rd.inv Q13
 have V_v_m_touch_reads:=Rd.start Q14 zN
 obtain ⟨Q22,Q19,Q25,Q28⟩:=Rd.inv Q14
 have V_v_m_touch_writes:=Rd.start Q15 zN
 obtain ⟨Q23,Q20,Q26,Q29⟩:=Rd.inv Q15
 refine ze fun _ F=>?_
 refine l_op (f_box F (At.nil w) rfl rfl rfl (F.g rfl) rfl rfl fun b1 _ w1 F S1=>?_)
 refine l_op (f_alloc F S1.at' ZI_210 rfl rfl rfl rfl rfl fun b3 _ w3 F S3=>?_)
 refine zr fun _ F=>?_
 refine zl F S3.at' 1 fun _ F=>?_
 refine zz F (spec_AddSpan_c (list:=m.touch.reads) (span:=key) (Rd.mq V_v_m_touch_reads (S1.trans S3)) Q3 zI8) ?_
 rintro _ w10 ⟨Q0,Q2,Q1,rfl,m10,v10_0⟩
 refine zt fun _ F=>?_
 have S10:=At.frame0 S3.at' m10
 have V10_0:=Rd.got0 S3.at' ((S1.trans S3).kp.size) v10_0 S10
 obtain ⟨ln10_0,le10_0,mx10_0,ni10_0⟩:=Rd.inv V10_0
 clear m10 v10_0
 refine l_op (s_store S10.at' 1 TI_44 rfl rfl rfl rfl rfl (F.g rfl) (F.g rfl) rfl rfl rfl rfl rfl fun w14 S14=>?_)
 have T15:Mv _ _ [bx _ [_,_,_] _,bx _ [_,_,_] _] _:=S14
 refine zr fun _ F=>?_
 refine x_draw (fun aZ wZ=>Fr 18 [(4,.pointer (some ⟨b3,0,none⟩)),(5,.string (getKey m.store key))] aZ∧Mv [bx b1 [.slice m_Sa m_Sn m_Sc,.slice Q0 Q2 Q1,.slice m_Wa m_Wn m_Wc] 210,bx b3 [.slice none 0 0,.slice none 0 0,.slice none 0 0] 210] w14 [bx b1 [.slice m_Sa m_Sn m_Sc,.slice Q0 Q2 Q1,.slice m_Wa m_Wn m_Wc] 210,bx b3 [.slice m_Sa m_Sn m_Sc,.slice Q0 Q2 Q1,.slice m_Wa m_Wn m_Wc] 210] wZ∧okS (getKey m.store key)) [bx b1 [.slice m_Sa m_Sn m_Sc,.slice Q0 Q2 Q1,.slice m_Wa m_Wn m_Wc] 210] mixed T15.at' (listed:=#[false,false,false,false,false,false,false]) rfl (fun w17 S17=>?_) [0] rfl ?_
 ·refine g_take (v:=.agg #[.slice m_Sa m_Sn m_Sc,.slice Q0 Q2 Q1,.slice m_Wa m_Wn m_Wc]) F rfl (i:=0) (listed':=#[true,false,false,false,false,false,false]) rfl (by kernel_rfl) (by kernel_rfl) (by kernel_rfl) (fun _ _ _ h=>h) (Sd.of (Mv.refl S17.at') [0] rfl) rfl rfl rfl rfl (fun _ hz=>(r_loadX (hz.bx 0 rfl) TI_210 rfl (F.g rfl) rfl rfl (fun h=>nomatch h) rfl)) fun _ F=>?_
  refine g_take F rfl (i:=1) (listed':=#[true,true,false,false,false,false,false]) rfl (by kernel_rfl) (by kernel_rfl) (by kernel_rfl) (fun _ _ _ h=>h) (Sd.of (Mv.refl S17.at') [0] rfl) rfl rfl rfl rfl (fun _ hz=>(r_field FI_210_0 rfl (F.g rfl) rfl)) fun _ F=>?_
  refine g_take (v:=.slice m_Sa m_Sn m_Sc) F rfl (i:=2) (listed':=#[true,true,true,false,false,false,false]) rfl (by kernel_rfl) (by kernel_rfl) (by kernel_rfl) (fun _ _ _ h=>h) (Sd.of (Mv.refl S17.at') [0] rfl) rfl rfl rfl rfl (fun _ hz=>(r_loadX (hz.bx 0 rfl) TI_28 rfl (F.g rfl) rfl rfl (fun _=>rfl) rfl)) fun _ F=>?_
  refine g_take F rfl (i:=3) (listed':=#[true,true,true,true,false,false,false]) rfl (by kernel_rfl) (by kernel_rfl) (by kernel_rfl) (fun _ _ _ h=>h) (Sd.of (Mv.refl S17.at') [0] rfl) rfl rfl rfl rfl (fun _ hz=>(r_move rfl (F.g rfl))) fun _ F=>?_
  refine d_one (i:=4) (listed':=#[true,true,true,true,true,false,false]) rfl (by kernel_rfl) rfl rfl ?_
  refine f_call F CF_109 rfl rfl rfl rfl (lc (F.g rfl) (lc (F.g rfl) rfl)) (spec_GetKey_c (s:=m.store) (key:=key) (Rd.mq V_v_m_store (S1.trans (S3.trans (S10.trans (T15.trans S17))))) Q3) ?_
  rintro _ w22 ⟨rfl,m22,Q17⟩
  refine ⟨_,rfl,fun _ F=>?_⟩
  have S22:=At.frame0 S17.at' m22
  clear m22
  refine ⟨Sd.of S22 [0] rfl,?_⟩
  refine d_one (i:=5) (listed':=#[true,true,true,true,true,true,false]) rfl (by kernel_rfl) rfl rfl ?_
  refine s_store S22.at' 1 TI_210 rfl rfl rfl rfl rfl (F.g rfl) (F.g rfl) rfl rfl rfl rfl rfl fun w24 S24=>?_
  refine ⟨Sd.of (S22.trans S24) [1] rfl,?_⟩
  refine g_take F rfl (i:=6) (listed':=#[true,true,true,true,true,true,true]) rfl (by kernel_rfl) (by kernel_rfl) (by kernel_rfl) (fun _ _ _ h=>h) (Sd.of (S22.trans S24) [1] rfl) rfl rfl rfl rfl (fun _ hz=>(r_assign rfl (F.g rfl))) fun _ F=>?_
  refine wpAnyH_done (by kernel_rfl) (x_normal ?_) _
  exact ⟨F.cut rfl,((S17.trans (S22.trans S24)).pick [1,0] rfl),Q17⟩
 ·rintro a26 w26 ⟨F,S26,Q16⟩
  refine zr fun _ F=>?_
  refine x_done F (results_2 rfl (zca F S26.at' 1) (zta F)) ?_
  exact ⟨m_Sa,m_Sn,m_Sc,Q0,Q2,Q1,m_Wa,m_Wn,m_Wc,rfl,(Mv.pick (S1.trans (S3.trans (S10.trans (T15.trans S26)))) [] rfl),(Rd.cast (Rd.give (Rd.mq V_v_m_store (S1.trans (S3.trans (S10.trans (T15.trans S26)))))) (by rfl)),(Rd.cast (Rd.give (Rd.mq V10_0 (T15.trans S26))) (by rfl)),(Rd.cast (Rd.give (Rd.mq V_v_m_touch_writes (S1.trans (S3.trans (S10.trans (T15.trans S26)))))) (by rfl)),Q16⟩
end Go.Proofs.YtipdbeklopjbmaaGreatDoor
