/-
  Walks: machines are looked at.
-/
import Derived.Test.YtipdbeklopjbmaaGreatDoorP06
set_option linter.unusedVariables false
set_option linter.unusedSimpArgs false
namespace Go.Proofs.YtipdbeklopjbmaaGreatDoor
open Go.ChangeShapes Go.WideShapes Go.ChangeAt Go.RowKit Go.Proofs.Tryz
variable {w:World} {H:Nat→Prop}
set_option maxRecDepth 100000
set_option maxHeartbeats 1000000
theorem J3l {a:TouchD} {a_Ra:Option Addr} {a_Rn a_Rc:Nat} {a_Wa:Option Addr} {a_Wn a_Wc:Nat} {b:TouchD} {b_Ra:Option Addr} {b_Rn b_Rc:Nat} {b_Wa:Option Addr} {b_Wn b_Wc:Nat} (Q12:Rd 1 J3 okS H w (.slice a_Ra a_Rn a_Rc) a.reads) (Q13:Rd 1 J3 okS H w (.slice a_Wa a_Wn a_Wc) a.writes) (Q14:Rd 1 J3 okS H w (.slice b_Ra b_Rn b_Rc) b.reads) (Q15:Rd 1 J3 okS H w (.slice b_Wa b_Wn b_Wc) b.writes) (p0:a.reads.length≤274877906944) (p1:a.writes.length≤274877906944) (p2:b.reads.length≤274877906944) (p3:b.writes.length≤274877906944) :
 Calls prog 149 #[.agg #[.slice a_Ra a_Rn a_Rc,.slice a_Wa a_Wn a_Wc],.agg #[.slice b_Ra b_Rn b_Rc,.slice b_Wa b_Wn b_Wc]] w fun e w'=>∃ (Q6:Option Addr)(Q8 Q7:Nat)(Q9:Option Addr)(Q11 Q10:Nat),e=.returned (.agg #[.slice Q6 Q8 Q7,.slice Q9 Q11 Q10])∧Mv [] w [] w'∧Rd 1 J3 okS (Fsh H w) w' (.slice Q6 Q8 Q7) (J4N a b).reads∧Rd 1 J3 okS (Fsh H w) w' (.slice Q9 Q11 Q10) (J4N a b).writes:=by
 have V_v_a_reads:=Rd.start Q12 zN
 obtain ⟨Q26,Q22,Q69,Q73⟩:=Rd.inv Q12
 have V_v_a_writes:=Rd.start Q13 zN
 obtain ⟨Q27,Q23,Q70,Q74⟩:=Rd.inv Q13
 have V_v_b_reads:=Rd.start Q14 zN
 obtain ⟨Q28,Q24,Q71,Q75⟩:=Rd.inv Q14
 have V_v_b_writes:=Rd.start Q15 zN
 obtain ⟨Q29,Q25,Q72,Q76⟩:=Rd.inv Q15
 refine ze fun _ F=>?_
 refine zbx F (At.nil w) fun b1 w1 S1 _ F=>?_
 refine zbx F S1.at' fun b3 w3 S3 _ F=>?_
 refine zal F S3.at' J0i fun b5 w5 S5 _ F=>?_
 refine J5v S5.at' (fun lZ aZ wZ=>∃ (b13:Nat)(A15:Option Addr)(N15 C15 b17:Nat)(A19:Option Addr)(N19 C19 b22:Nat),Fr 50 [(3,pT b3),(4,pT b5),(5,pT b22)] aZ∧Mv lZ w5 (lZ++[qS A15 N15 C15 (([]:List ByteArray)++a.reads),qS A19 N19 C19 (([]:List ByteArray)++a.writes),bx b22 [.slice A15 N15 C15,.slice A19 N19 C19] 56]) wZ) [2] (listed:=#[false,false,false,false,false,false,false,false,false,false,false]) rfl (fun w8 S8=>?_) ?_
 ·refine JR S8.at' (fun lZ aZ wZ=>∃ (b13:Nat)(A15:Option Addr)(N15 C15 b17:Nat)(A19:Option Addr)(N19 C19 b22:Nat),Fr 50 [(5,pT b22),(16,.agg #[.slice A15 N15 C15,.slice A19 N19 C19]),(4,pT b5),(3,pT b3)] aZ∧Mv lZ w8 (lZ++[bx b22 [sN,sN] 56,qS A19 N19 C19 (([]:List ByteArray)++a.writes),qS A15 N15 C15 (([]:List ByteArray)++a.reads)]) wZ) #[yT,yT,yT,yT,yT,yT,yT,yT,yT,yT,nF] 1 ?_ (fun G62=>?_)
  ·rintro a62 w62 ⟨b13,A15,N15,C15,b17,A19,N19,C19,b22,F,S62⟩
   have S62:Mv _ _ [bx _ [_,_] _,bx _ [_,_] _,bx _ [_,_] _,bx _ [_,_] _,_,_] _:=S62
   obtain ⟨Q35,Q48,Q61⟩:=At.ownInv S62.at' ET_44.hk 4 rfl
   obtain ⟨Q36,Q49,Q62⟩:=At.ownInv S62.at' ET_44.hk 5 rfl
   refine J0W (i:=10) (listed':=#[yT,yT,yT,yT,yT,yT,yT,yT,yT,yT,yT]) rfl zK rfl rfl ?_
   refine J0C S62.at' 3 J7C rfl rfl rfl rfl rfl (F.g rfl) (F.g rfl) rfl rfl rfl rfl rfl fun w63 S63=>?_
   refine ⟨Sd.of (S62.trans S63) [3] rfl,?_⟩
   refine wpAnyH_done zK (J3A ?_) _
   exact ⟨b13,A15,N15,C15,b17,A19,N19,C19,b22,F.cut rfl,((tc3 S8 S62 S63).pick [1,2,3,5,4,0] rfl)⟩
  refine JR S8.at' (fun lZ aZ wZ=>∃ (b13:Nat)(A15:Option Addr)(N15 C15 b17:Nat)(A19:Option Addr)(N19 C19:Nat),Fr 50 [(16,.agg #[.slice A15 N15 C15,.slice A19 N19 C19]),(4,pT b5),(3,pT b3)] aZ∧Mv lZ w8 (lZ++[qS A19 N19 C19 (([]:List ByteArray)++a.writes),qS A15 N15 C15 (([]:List ByteArray)++a.reads)]) wZ) #[yT,yT,yT,yT,yT,yT,yT,yT,yT,nF,nF] 2 ?_ (fun G64=>?_)
  ·rintro a64 w64 ⟨b13,A15,N15,C15,b17,A19,N19,C19,F,S64⟩
   have S64:Mv _ _ [bx _ [_,_] _,bx _ [_,_] _,bx _ [_,_] _,_,_] _:=S64
   obtain ⟨Q37,Q50,Q63⟩:=At.ownInv S64.at' ET_44.hk 3 rfl
   obtain ⟨Q38,Q51,Q64⟩:=At.ownInv S64.at' ET_44.hk 4 rfl
   refine J0W (i:=9) (listed':=#[yT,yT,yT,yT,yT,yT,yT,yT,yT,yT,nF]) rfl zK rfl rfl ?_
   refine J2a F S64.at' J0i rfl rfl rfl rfl rfl fun b65 _ w65 F S65=>?_
   refine ⟨Sd.of (S64.trans S65) [3] rfl,?_⟩
   exact G62 _ _ ⟨b13,A15,N15,C15,b17,A19,N19,C19,b65,F.cut rfl,(S64.trans S65).pick [1,2,3,0,4,5] rfl⟩
  refine JR S8.at' (fun lZ aZ wZ=>∃ (b13:Nat)(A15:Option Addr)(N15 C15 b17 b25:Nat),Fr 50 [(5,pT b25),(12,.slice (aO b17) 0 0),(11,.slice A15 N15 C15),(14,.slice a_Wa a_Wn a_Wc),(4,pT b5),(3,pT b3)] aZ∧Mv lZ w8 (lZ++[bx b25 [sN,sN] 56,qS (aO b17) 0 0 ([]:List ByteArray),qS A15 N15 C15 (([]:List ByteArray)++a.reads)]) wZ) #[yT,yT,yT,yT,yT,yT,yT,nF,nF,yT,nF] 3 ?_ (fun G67=>?_)
  ·rintro a67 w67 ⟨b13,A15,N15,C15,b17,b25,F,S67⟩
   have S67:Mv _ _ [bx _ [_,_] _,bx _ [_,_] _,bx _ [_,_] _,bx _ [_,_] _,_,_] _:=S67
   obtain ⟨Q39,Q52,Q65⟩:=At.ownInv S67.at' ET_44.hk 5 rfl
   refine J0W (i:=7) (listed':=#[yT,yT,yT,yT,yT,yT,yT,yT,nF,yT,nF]) rfl zK rfl rfl ?_
   refine Jv (news:=a.writes) F S67.at' 4 ET_44 rfl rfl rfl rfl rfl rfl (F.g rfl) (F.g rfl) ((Rd.mq V_v_a_writes (tc5 S1 S3 S5 S8 S67))).1 (by ((repeat (first|rw [List.length_append]|rw [List.length_cons]|rw [List.length_nil]|rw [List.length_take]|rw [List.length_drop])) <;> omega)) fun A68 N68 C68 _ w68 F S68 l68=>?_
   refine ⟨Sd.of (S67.trans S68) [3] rfl,?_⟩
   refine J0o (v:=.agg #[.slice A15 N15 C15,.slice A68 N68 C68]) F rfl (i:=8) (listed':=#[yT,yT,yT,yT,yT,yT,yT,yT,yT,yT,nF]) rfl zK zK zK (fun _ _ _ h=>h) (Sd.of (S67.trans S68) [3] rfl) rfl rfl rfl rfl (fun _ hz=>(J06 J4L rfl (lc (pr2 (F.g rfl)) (lc (pr2 (F.g rfl)) rfl)) rfl)) fun _ F=>?_
   exact G62 _ _ ⟨b13,A15,N15,C15,b17,A68,N68,C68,b25,F.cut rfl,(S67.trans S68).pick [1,2,3,4,0,5] rfl⟩
  refine JR S8.at' (fun lZ aZ wZ=>∃ (b13:Nat)(A15:Option Addr)(N15 C15 b17:Nat),Fr 50 [(12,.slice (aO b17) 0 0),(11,.slice A15 N15 C15),(14,.slice a_Wa a_Wn a_Wc),(4,pT b5),(3,pT b3)] aZ∧Mv lZ w8 (lZ++[qS (aO b17) 0 0 ([]:List ByteArray),qS A15 N15 C15 (([]:List ByteArray)++a.reads)]) wZ) #[yT,yT,yT,yT,yT,yT,yT,nF,nF,nF,nF] 4 ?_ (fun G71=>?_)
  ·rintro a71 w71 ⟨b13,A15,N15,C15,b17,F,S71⟩
   have S71:Mv _ _ [bx _ [_,_] _,bx _ [_,_] _,bx _ [_,_] _,_,_] _:=S71
   obtain ⟨Q40,Q53,Q66⟩:=At.ownInv S71.at' ET_44.hk 4 rfl
   refine J0G (rs:=[7,9]) rfl zK (by simp) (Jz (i:=7) (listed':=#[yT,yT,yT,yT,yT,yT,yT,yT,nF,nF,nF]) rfl rfl ?_ (Jz (i:=9) (listed':=#[yT,yT,yT,yT,yT,yT,yT,nF,nF,yT,nF]) rfl rfl ?_ J0H))
   ·refine Jv (news:=a.writes) F S71.at' 3 ET_44 rfl rfl rfl rfl rfl rfl (F.g rfl) (F.g rfl) ((Rd.mq V_v_a_writes (tc5 S1 S3 S5 S8 S71))).1 (by ((repeat (first|rw [List.length_append]|rw [List.length_cons]|rw [List.length_nil]|rw [List.length_take]|rw [List.length_drop])) <;> omega)) fun A72 N72 C72 _ w72 F S72 l72=>?_
    refine ⟨Sd.of (S71.trans S72) [3] rfl,?_⟩
    refine J0o (v:=.agg #[.slice A15 N15 C15,.slice A72 N72 C72]) F rfl (i:=8) (listed':=#[yT,yT,yT,yT,yT,yT,yT,yT,yT,nF,nF]) rfl zK zK zK (fun _ _ _ h=>h) (Sd.of (S71.trans S72) [3] rfl) rfl rfl rfl rfl (fun _ hz=>(J06 J4L rfl (lc (pr2 (F.g rfl)) (lc (pr2 (F.g rfl)) rfl)) rfl)) fun _ F=>?_
    exact G64 _ _ ⟨b13,A15,N15,C15,b17,A72,N72,C72,F.cut rfl,(S71.trans S72).pick [1,2,3,0,4] rfl⟩
   refine J2a F S71.at' J0i rfl rfl rfl rfl rfl fun b75 _ w75 F S75=>?_
   refine ⟨Sd.of (S71.trans S75) [3] rfl,?_⟩
   exact G67 _ _ ⟨b13,A15,N15,C15,b17,b75,F.cut rfl,(S71.trans S75).pick [1,2,3,0,4,5] rfl⟩
  refine JR S8.at' (fun lZ aZ wZ=>∃ (b13:Nat)(A15:Option Addr)(N15 C15 b30:Nat),Fr 50 [(5,pT b30),(11,.slice A15 N15 C15),(14,.slice a_Wa a_Wn a_Wc),(4,pT b5),(3,pT b3)] aZ∧Mv lZ w8 (lZ++[bx b30 [sN,sN] 56,qS A15 N15 C15 (([]:List ByteArray)++a.reads)]) wZ) #[yT,yT,yT,yT,nF,yT,yT,nF,nF,yT,nF] 4 ?_ (fun G77=>?_)
  ·rintro a77 w77 ⟨b13,A15,N15,C15,b30,F,S77⟩
   have S77:Mv _ _ [bx _ [_,_] _,bx _ [_,_] _,bx _ [_,_] _,bx _ [_,_] _,_] _:=S77
   obtain ⟨Q41,Q54,Q67⟩:=At.ownInv S77.at' ET_44.hk 4 rfl
   refine J0W (i:=4) (listed':=#[yT,yT,yT,yT,yT,yT,yT,nF,nF,yT,nF]) rfl zK rfl rfl ?_
   refine J02 (ok:=okS) (vs:=[]) F S77.at' (([]:List ByteArray)) ET_44 rfl rfl rfl rfl rfl rfl rfl rfl rfl (by simp) fun b78 _ w78 F S78=>?_
   refine ⟨Sd.of (S77.trans S78) [3] rfl,?_⟩
   exact G67 _ _ ⟨b13,A15,N15,C15,b78,b30,F.cut rfl,(S77.trans S78).pick [1,2,3,4,0,5] rfl⟩
  refine JR S8.at' (fun lZ aZ wZ=>∃ (b13 b34 b38:Nat),Fr 50 [(5,pT b38),(12,.slice (aO b34) 0 0),(8,.slice (aO b13) 0 0),(14,.slice a_Wa a_Wn a_Wc),(10,.slice a_Ra a_Rn a_Rc),(4,pT b5),(3,pT b3)] aZ∧Mv lZ w8 (lZ++[bx b38 [sN,sN] 56,qS (aO b34) 0 0 ([]:List ByteArray),qS (aO b13) 0 0 ([]:List ByteArray)]) wZ) #[yT,yT,yT,nF,yT,yT,yT,nF,nF,yT,nF] 4 ?_ (fun G80=>?_)
  ·rintro a80 w80 ⟨b13,b34,b38,F,S80⟩
   have S80:Mv _ _ [bx _ [_,_] _,bx _ [_,_] _,bx _ [_,_] _,bx _ [_,_] _,_,_] _:=S80
   refine J0W (i:=3) (listed':=#[yT,yT,yT,yT,yT,yT,yT,nF,nF,yT,nF]) rfl zK rfl rfl ?_
   refine Jv (news:=a.reads) F S80.at' 5 ET_44 rfl rfl rfl rfl rfl rfl (F.g rfl) (F.g rfl) ((Rd.mq V_v_a_reads (tc5 S1 S3 S5 S8 S80))).1 (by ((repeat (first|rw [List.length_append]|rw [List.length_cons]|rw [List.length_nil]|rw [List.length_take]|rw [List.length_drop])) <;> omega)) fun A81 N81 C81 _ w81 F S81 l81=>?_
   refine ⟨Sd.of (S80.trans S81) [3] rfl,?_⟩
   exact G67 _ _ ⟨b13,A81,N81,C81,b34,b38,F.cut rfl,(S80.trans S81).pick [1,2,3,4,5,0] rfl⟩
  refine JR S8.at' (fun lZ aZ wZ=>∃ (b13:Nat)(A15:Option Addr)(N15 C15:Nat),Fr 50 [(11,.slice A15 N15 C15),(14,.slice a_Wa a_Wn a_Wc),(4,pT b5),(3,pT b3)] aZ∧Mv lZ w8 (lZ++[qS A15 N15 C15 (([]:List ByteArray)++a.reads)]) wZ) #[yT,yT,yT,yT,nF,yT,yT,nF,nF,nF,nF] 5 ?_ (fun G83=>?_)
  ·rintro a83 w83 ⟨b13,A15,N15,C15,F,S83⟩
   have S83:Mv _ _ [bx _ [_,_] _,bx _ [_,_] _,bx _ [_,_] _,_] _:=S83
   obtain ⟨Q42,Q55,Q68⟩:=At.ownInv S83.at' ET_44.hk 3 rfl
   refine J0G (rs:=[4,9]) rfl zK (by simp) (Jz (i:=4) (listed':=#[yT,yT,yT,yT,yT,yT,yT,nF,nF,nF,nF]) rfl rfl ?_ (Jz (i:=9) (listed':=#[yT,yT,yT,yT,nF,yT,yT,nF,nF,yT,nF]) rfl rfl ?_ J0H))
   ·refine J02 (ok:=okS) (vs:=[]) F S83.at' (([]:List ByteArray)) ET_44 rfl rfl rfl rfl rfl rfl rfl rfl rfl (by simp) fun b84 _ w84 F S84=>?_
    refine ⟨Sd.of (S83.trans S84) [3] rfl,?_⟩
    exact G71 _ _ ⟨b13,A15,N15,C15,b84,F.cut rfl,(S83.trans S84).pick [1,2,3,0,4] rfl⟩
   refine J2a F S83.at' J0i rfl rfl rfl rfl rfl fun b86 _ w86 F S86=>?_
   refine ⟨Sd.of (S83.trans S86) [3] rfl,?_⟩
   exact G77 _ _ ⟨b13,A15,N15,C15,b86,F.cut rfl,(S83.trans S86).pick [1,2,3,0,4] rfl⟩
  refine JR S8.at' (fun lZ aZ wZ=>∃ (b13 b34:Nat),Fr 50 [(12,.slice (aO b34) 0 0),(8,.slice (aO b13) 0 0),(14,.slice a_Wa a_Wn a_Wc),(10,.slice a_Ra a_Rn a_Rc),(4,pT b5),(3,pT b3)] aZ∧Mv lZ w8 (lZ++[qS (aO b34) 0 0 ([]:List ByteArray),qS (aO b13) 0 0 ([]:List ByteArray)]) wZ) #[yT,yT,yT,nF,yT,yT,yT,nF,nF,nF,nF] 5 ?_ (fun G88=>?_)
  ·rintro a88 w88 ⟨b13,b34,F,S88⟩
   have S88:Mv _ _ [bx _ [_,_] _,bx _ [_,_] _,bx _ [_,_] _,_,_] _:=S88
   refine J0G (rs:=[3,9]) rfl zK (by simp) (Jz (i:=3) (listed':=#[yT,yT,yT,yT,yT,yT,yT,nF,nF,nF,nF]) rfl rfl ?_ (Jz (i:=9) (listed':=#[yT,yT,yT,nF,yT,yT,yT,nF,nF,yT,nF]) rfl rfl ?_ J0H))
   ·refine Jv (news:=a.reads) F S88.at' 4 ET_44 rfl rfl rfl rfl rfl rfl (F.g rfl) (F.g rfl) ((Rd.mq V_v_a_reads (tc5 S1 S3 S5 S8 S88))).1 (by ((repeat (first|rw [List.length_append]|rw [List.length_cons]|rw [List.length_nil]|rw [List.length_take]|rw [List.length_drop])) <;> omega)) fun A89 N89 C89 _ w89 F S89 l89=>?_
    refine ⟨Sd.of (S88.trans S89) [3] rfl,?_⟩
    exact G71 _ _ ⟨b13,A89,N89,C89,b34,F.cut rfl,(S88.trans S89).pick [1,2,3,4,0] rfl⟩
   refine J2a F S88.at' J0i rfl rfl rfl rfl rfl fun b91 _ w91 F S91=>?_
   refine ⟨Sd.of (S88.trans S91) [3] rfl,?_⟩
   exact G80 _ _ ⟨b13,b34,b91,F.cut rfl,(S88.trans S91).pick [1,2,3,0,4,5] rfl⟩
  refine JR S8.at' (fun lZ aZ wZ=>∃ (b13 b42:Nat),Fr 50 [(5,pT b42),(8,.slice (aO b13) 0 0),(14,.slice a_Wa a_Wn a_Wc),(10,.slice a_Ra a_Rn a_Rc),(4,pT b5),(3,pT b3)] aZ∧Mv lZ w8 (lZ++[bx b42 [sN,sN] 56,qS (aO b13) 0 0 ([]:List ByteArray)]) wZ) #[yT,yT,yT,nF,nF,yT,yT,nF,nF,yT,nF] 5 ?_ (fun G93=>?_)
  ·rintro a93 w93 ⟨b13,b42,F,S93⟩
   have S93:Mv _ _ [bx _ [_,_] _,bx _ [_,_] _,bx _ [_,_] _,bx _ [_,_] _,_] _:=S93
   refine J0G (rs:=[3,4]) rfl zK (by simp) (Jz (i:=3) (listed':=#[yT,yT,yT,yT,nF,yT,yT,nF,nF,yT,nF]) rfl rfl ?_ (Jz (i:=4) (listed':=#[yT,yT,yT,nF,yT,yT,yT,nF,nF,yT,nF]) rfl rfl ?_ J0H))
   ·refine Jv (news:=a.reads) F S93.at' 4 ET_44 rfl rfl rfl rfl rfl rfl (F.g rfl) (F.g rfl) ((Rd.mq V_v_a_reads (tc5 S1 S3 S5 S8 S93))).1 (by ((repeat (first|rw [List.length_append]|rw [List.length_cons]|rw [List.length_nil]|rw [List.length_take]|rw [List.length_drop])) <;> omega)) fun A94 N94 C94 _ w94 F S94 l94=>?_
    refine ⟨Sd.of (S93.trans S94) [3] rfl,?_⟩
    exact G77 _ _ ⟨b13,A94,N94,C94,b42,F.cut rfl,(S93.trans S94).pick [1,2,3,4,0] rfl⟩
   refine J02 (ok:=okS) (vs:=[]) F S93.at' (([]:List ByteArray)) ET_44 rfl rfl rfl rfl rfl rfl rfl rfl rfl (by simp) fun b96 _ w96 F S96=>?_
   refine ⟨Sd.of (S93.trans S96) [3] rfl,?_⟩
   exact G80 _ _ ⟨b13,b96,b42,F.cut rfl,(S93.trans S96).pick [1,2,3,4,0,5] rfl⟩
  refine JR S8.at' (fun lZ aZ wZ=>∃ (b48 b52:Nat),Fr 50 [(5,pT b52),(12,.slice (aO b48) 0 0),(14,.slice a_Wa a_Wn a_Wc),(10,.slice a_Ra a_Rn a_Rc),(4,pT b5),(3,pT b3)] aZ∧Mv lZ w8 (lZ++[bx b52 [sN,sN] 56,qS (aO b48) 0 0 ([]:List ByteArray)]) wZ) #[nF,yT,yT,nF,yT,yT,yT,nF,nF,yT,nF] 5 ?_ (fun G98=>?_)
  ·rintro a98 w98 ⟨b48,b52,F,S98⟩
   have S98:Mv _ _ [bx _ [_,_] _,bx _ [_,_] _,bx _ [_,_] _,bx _ [_,_] _,_] _:=S98
   refine J0W (i:=0) (listed':=#[yT,yT,yT,nF,yT,yT,yT,nF,nF,yT,nF]) rfl zK rfl rfl ?_
   refine J02 (ok:=okS) (vs:=[]) F S98.at' (([]:List ByteArray)) ET_44 rfl rfl rfl rfl rfl rfl rfl rfl rfl (by simp) fun b99 _ w99 F S99=>?_
   refine ⟨Sd.of (S98.trans S99) [3] rfl,?_⟩
   exact G80 _ _ ⟨b99,b48,b52,F.cut rfl,(S98.trans S99).pick [1,2,3,4,5,0] rfl⟩
  refine JR S8.at' (fun lZ aZ wZ=>∃ (b13:Nat),Fr 50 [(8,.slice (aO b13) 0 0),(14,.slice a_Wa a_Wn a_Wc),(10,.slice a_Ra a_Rn a_Rc),(4,pT b5),(3,pT b3)] aZ∧Mv lZ w8 (lZ++[qS (aO b13) 0 0 ([]:List ByteArray)]) wZ) #[yT,yT,yT,nF,nF,yT,yT,nF,nF,nF,nF] 6 ?_ (fun G101=>?_)
  ·rintro a101 w101 ⟨b13,F,S101⟩
   have S101:Mv _ _ [bx _ [_,_] _,bx _ [_,_] _,bx _ [_,_] _,_] _:=S101
   refine J0G (rs:=[3,4,9]) rfl zK (by simp) (Jz (i:=3) (listed':=#[yT,yT,yT,yT,nF,yT,yT,nF,nF,nF,nF]) rfl rfl ?_ (Jz (i:=4) (listed':=#[yT,yT,yT,nF,yT,yT,yT,nF,nF,nF,nF]) rfl rfl ?_ (Jz (i:=9) (listed':=#[yT,yT,yT,nF,nF,yT,yT,nF,nF,yT,nF]) rfl rfl ?_ J0H)))
   ·refine Jv (news:=a.reads) F S101.at' 3 ET_44 rfl rfl rfl rfl rfl rfl (F.g rfl) (F.g rfl) ((Rd.mq V_v_a_reads (tc5 S1 S3 S5 S8 S101))).1 (by ((repeat (first|rw [List.length_append]|rw [List.length_cons]|rw [List.length_nil]|rw [List.length_take]|rw [List.length_drop])) <;> omega)) fun A102 N102 C102 _ w102 F S102 l102=>?_
    refine ⟨Sd.of (S101.trans S102) [3] rfl,?_⟩
    exact G83 _ _ ⟨b13,A102,N102,C102,F.cut rfl,(S101.trans S102).pick [1,2,3,0] rfl⟩
   ·refine J02 (ok:=okS) (vs:=[]) F S101.at' (([]:List ByteArray)) ET_44 rfl rfl rfl rfl rfl rfl rfl rfl rfl (by simp) fun b104 _ w104 F S104=>?_
    refine ⟨Sd.of (S101.trans S104) [3] rfl,?_⟩
    exact G88 _ _ ⟨b13,b104,F.cut rfl,(S101.trans S104).pick [1,2,3,0,4] rfl⟩
   refine J2a F S101.at' J0i rfl rfl rfl rfl rfl fun b106 _ w106 F S106=>?_
   refine ⟨Sd.of (S101.trans S106) [3] rfl,?_⟩
   exact G93 _ _ ⟨b13,b106,F.cut rfl,(S101.trans S106).pick [1,2,3,0,4] rfl⟩
  refine JR S8.at' (fun lZ aZ wZ=>∃ (b48:Nat),Fr 50 [(12,.slice (aO b48) 0 0),(14,.slice a_Wa a_Wn a_Wc),(10,.slice a_Ra a_Rn a_Rc),(4,pT b5),(3,pT b3)] aZ∧Mv lZ w8 (lZ++[qS (aO b48) 0 0 ([]:List ByteArray)]) wZ) #[nF,yT,yT,nF,yT,yT,yT,nF,nF,nF,nF] 6 ?_ (fun G108=>?_)
  ·rintro a108 w108 ⟨b48,F,S108⟩
   have S108:Mv _ _ [bx _ [_,_] _,bx _ [_,_] _,bx _ [_,_] _,_] _:=S108
   refine J0G (rs:=[0,9]) rfl zK (by simp) (Jz (i:=0) (listed':=#[yT,yT,yT,nF,yT,yT,yT,nF,nF,nF,nF]) rfl rfl ?_ (Jz (i:=9) (listed':=#[nF,yT,yT,nF,yT,yT,yT,nF,nF,yT,nF]) rfl rfl ?_ J0H))
   ·refine J02 (ok:=okS) (vs:=[]) F S108.at' (([]:List ByteArray)) ET_44 rfl rfl rfl rfl rfl rfl rfl rfl rfl (by simp) fun b109 _ w109 F S109=>?_
    refine ⟨Sd.of (S108.trans S109) [3] rfl,?_⟩
    exact G88 _ _ ⟨b109,b48,F.cut rfl,(S108.trans S109).pick [1,2,3,4,0] rfl⟩
   refine J2a F S108.at' J0i rfl rfl rfl rfl rfl fun b111 _ w111 F S111=>?_
   refine ⟨Sd.of (S108.trans S111) [3] rfl,?_⟩
   exact G98 _ _ ⟨b48,b111,F.cut rfl,(S108.trans S111).pick [1,2,3,0,4] rfl⟩
  refine JR S8.at' (fun lZ aZ wZ=>∃ (b56:Nat),Fr 50 [(5,pT b56),(14,.slice a_Wa a_Wn a_Wc),(10,.slice a_Ra a_Rn a_Rc),(4,pT b5),(3,pT b3)] aZ∧Mv lZ w8 (lZ++[bx b56 [sN,sN] 56]) wZ) #[nF,yT,yT,nF,nF,yT,yT,nF,nF,yT,nF] 6 ?_ (fun G113=>?_)
  ·rintro a113 w113 ⟨b56,F,S113⟩
   have S113:Mv _ _ [bx _ [_,_] _,bx _ [_,_] _,bx _ [_,_] _,bx _ [_,_] _] _:=S113
   refine J0G (rs:=[0,4]) rfl zK (by simp) (Jz (i:=0) (listed':=#[yT,yT,yT,nF,nF,yT,yT,nF,nF,yT,nF]) rfl rfl ?_ (Jz (i:=4) (listed':=#[nF,yT,yT,nF,yT,yT,yT,nF,nF,yT,nF]) rfl rfl ?_ J0H))
   ·refine J02 (ok:=okS) (vs:=[]) F S113.at' (([]:List ByteArray)) ET_44 rfl rfl rfl rfl rfl rfl rfl rfl rfl (by simp) fun b114 _ w114 F S114=>?_
    refine ⟨Sd.of (S113.trans S114) [3] rfl,?_⟩
    exact G93 _ _ ⟨b114,b56,F.cut rfl,(S113.trans S114).pick [1,2,3,4,0] rfl⟩
   refine J02 (ok:=okS) (vs:=[]) F S113.at' (([]:List ByteArray)) ET_44 rfl rfl rfl rfl rfl rfl rfl rfl rfl (by simp) fun b116 _ w116 F S116=>?_
   refine ⟨Sd.of (S113.trans S116) [3] rfl,?_⟩
   exact G98 _ _ ⟨b116,b56,F.cut rfl,(S113.trans S116).pick [1,2,3,4,0] rfl⟩
  refine JR S8.at' (fun lZ aZ wZ=>Fr 50 [(14,.slice a_Wa a_Wn a_Wc),(10,.slice a_Ra a_Rn a_Rc),(4,pT b5),(3,pT b3)] aZ∧Mv lZ w8 lZ wZ) #[nF,yT,yT,nF,nF,yT,yT,nF,nF,nF,nF] 7 ?_ (fun G118=>?_)
  ·rintro a118 w118 ⟨F,S118⟩
   refine J0G (rs:=[0,4,9]) rfl zK (by simp) (Jz (i:=0) (listed':=#[yT,yT,yT,nF,nF,yT,yT,nF,nF,nF,nF]) rfl rfl ?_ (Jz (i:=4) (listed':=#[nF,yT,yT,nF,yT,yT,yT,nF,nF,nF,nF]) rfl rfl ?_ (Jz (i:=9) (listed':=#[nF,yT,yT,nF,nF,yT,yT,nF,nF,yT,nF]) rfl rfl ?_ J0H)))
   ·refine J02 (ok:=okS) (vs:=[]) F S118.at' (([]:List ByteArray)) ET_44 rfl rfl rfl rfl rfl rfl rfl rfl rfl (by simp) fun b119 _ w119 F S119=>?_
    refine ⟨Sd.of (S118.trans S119) [3] rfl,?_⟩
    exact G101 _ _ ⟨b119,F.cut rfl,(S118.trans S119).pick [1,2,3,0] rfl⟩
   ·refine J02 (ok:=okS) (vs:=[]) F S118.at' (([]:List ByteArray)) ET_44 rfl rfl rfl rfl rfl rfl rfl rfl rfl (by simp) fun b121 _ w121 F S121=>?_
    refine ⟨Sd.of (S118.trans S121) [3] rfl,?_⟩
    exact G108 _ _ ⟨b121,F.cut rfl,(S118.trans S121).pick [1,2,3,0] rfl⟩
   refine J2a F S118.at' J0i rfl rfl rfl rfl rfl fun b123 _ w123 F S123=>?_
   refine ⟨Sd.of (S118.trans S123) [3] rfl,?_⟩
   exact G113 _ _ ⟨b123,F.cut rfl,(S118.trans S123).pick [1,2,3,0] rfl⟩
  refine J0o F rfl (i:=1) (listed':=#[nF,yT,nF,nF,nF,nF,nF,nF,nF,nF,nF]) rfl zK zK zK (fun _ _ _ h=>h) (Sd.of (Mv.refl S8.at') [2] rfl) rfl rfl rfl rfl (fun _ hz=>(J13 FIc.h rfl (F.g rfl) rfl)) fun _ F=>?_
  refine J0o (v:=.slice a_Ra a_Rn a_Rc) F rfl (i:=2) (listed':=#[nF,yT,yT,nF,nF,nF,nF,nF,nF,nF,nF]) rfl zK zK zK (fun _ _ _ h=>h) (Sd.of (Mv.refl S8.at') [2] rfl) rfl rfl rfl rfl (fun _ hz=>(J3B (hz.bx 0 rfl) J0b rfl (F.g rfl) rfl rfl (fun _=>rfl) rfl)) fun _ F=>?_
  refine J0o F rfl (i:=5) (listed':=#[nF,yT,yT,nF,nF,yT,nF,nF,nF,nF,nF]) rfl zK zK zK (fun _ _ _ h=>h) (Sd.of (Mv.refl S8.at') [2] rfl) rfl rfl rfl rfl (fun _ hz=>(J13 FIc.h rfl (F.g rfl) rfl)) fun _ F=>?_
  refine J0o (v:=.slice a_Wa a_Wn a_Wc) F rfl (i:=6) (listed':=#[nF,yT,yT,nF,nF,yT,yT,nF,nF,nF,nF]) rfl zK zK zK (fun _ _ _ h=>h) (Sd.of (Mv.refl S8.at') [2] rfl) rfl rfl rfl rfl (fun _ hz=>(J3B (hz.bx 0 rfl) J0b rfl (F.g rfl) rfl rfl (fun _=>rfl) rfl)) fun _ F=>?_
  exact G118 _ _ ⟨F.cut rfl,(Mv.refl S8.at').pick [0,1,2] rfl⟩
 rintro a129 w129 ⟨b13,A15,N15,C15,b17,A19,N19,C19,b22,F,S129⟩
 have S129:Mv _ _ [bx _ [_,_] _,bx _ [_,_] _,bx _ [_,_] _,_,_,bx _ [_,_] _] _:=S129
 obtain ⟨Q30,Q43,Q56⟩:=At.ownInv S129.at' ET_44.hk 3 rfl
 obtain ⟨Q31,Q44,Q57⟩:=At.ownInv S129.at' ET_44.hk 4 rfl
 refine zr fun _ F=>?_
 have Z132:Rd 1 J3 okS (V H w [bx b5 [sN,sN] 56,bx b3 [.slice b_Ra b_Rn b_Rc,.slice b_Wa b_Wn b_Wc] 56,bx b1 [.slice a_Ra a_Rn a_Rc,.slice a_Wa a_Wn a_Wc] 56,qS A19 N19 C19 (([]:List ByteArray)++a.writes),bx b22 [.slice A15 N15 C15,.slice A19 N19 C19] 56]) w129 (.slice A15 N15 C15) (([]:List ByteArray)++a.reads):=At.freeze (tc4 S1 S3 S5 S129) ET_44.hk 3 rfl (fun b hb=>((tc4 S1 S3 S5 S129).fresh b ⟨_,Jm (i:=3) rfl,hb⟩).resolve_left (JF _))
 have S132:=At.drop S129.at' 3
 refine JH S132.at' (fun lZ (k:Nat) aZ wZ=>∃ (ra:Option Addr)(rn rc:Nat),(fun l2=>Fr 50 [(6,nV k),(3,pT b3),(4,pT b5),(5,pT b22)] aZ∧Mv lZ w129 l2 wZ∧Rd 1 J3 okS (V H w l2) wZ (.slice ra rn rc) (J0p a.reads (b.reads.take k))∧(k≤b_Rn)) (lZ.set 4 (bx b22 [.slice ra rn rc,.slice A19 N19 C19] 56))) (fun (k:Nat)=>b_Rn - k) (0) ?_ ?_
 ·exact ⟨A15,N15,C15,F.cut rfl,(Mv.refl S132.at'),Z132,zO⟩
 rintro k a131 w131 ⟨ra,rn,rc,F,S131,W131_0,h131_0⟩
 have S131:Mv _ _ [bx _ [_,_] _,bx _ [_,_] _,bx _ [_,_] _,_,bx _ [_,_] _] _:=S131
 obtain ⟨lv131_0,lw131_0,lx131_0,ly131_0⟩:=Rd.inv W131_0
 have jl:=J51 a.reads (b.reads.take k)
 rw [List.length_take] at jl
 refine zr fun _ F=>?_
 refine zl F S131.at' 1 fun _ F=>?_
 refine zc F (k < b_Rn) fun _ F=>?_
 refine zi F (fun h138=>?_) fun h138=>?_
 ·refine zr fun _ F=>?_
  obtain ⟨x1,hx1,okx1⟩:=Rd.elem (Rd.mq V_v_b_reads (tc6 S1 S3 S5 S129 S132 S131)) k yq
  refine J5v S131.at' (fun lZ aZ wZ=>∃ (Q0:Option Addr)(Q4 Q2:Nat),(fun l2=>Fr 50 [(3,pT b3),(4,pT b5),(5,pT b22),(6,nV k)] aZ∧Mv lZ w131 l2 wZ∧Rd 1 J3 okS (V H w l2) wZ (.slice Q0 Q4 Q2) (JI (J0p a.reads (b.reads.take k)) x1)) (lZ.set 4 (bx b22 [.slice Q0 Q4 Q2,.slice A19 N19 C19] 56))) [1] (listed:=#[false,false,false,false,false,false,false,false,false,false]) rfl (fun w140 S140=>?_) ?_
  ·refine JR S140.at' (fun lZ aZ wZ=>∃ (Q0:Option Addr)(Q4 Q2:Nat),Fr 50 [(32,pT b22),(31,.slice Q0 Q4 Q2),(6,nV k),(3,pT b3),(4,pT b5),(5,pT b22)] aZ∧Mv lZ w140 lZ wZ∧Rd 1 J3 okS (V H w lZ) wZ (.slice Q0 Q4 Q2) (JI (J0p a.reads (b.reads.take k)) x1)) #[yT,yT,yT,yT,yT,yT,yT,yT,yT,nF] 1 ?_ (fun G153=>?_)
   ·rintro a153 w153 ⟨Q0,Q4,Q2,F,S153,W153_0⟩
    obtain ⟨Q32,Q45,Q58⟩:=At.ownInv S153.at' ET_44.hk 3 rfl
    refine J0W (i:=9) (listed':=#[yT,yT,yT,yT,yT,yT,yT,yT,yT,yT]) rfl zK rfl rfl ?_
    refine J0C S153.at' 4 J0b rfl rfl rfl rfl rfl (F.g rfl) (F.g rfl) rfl rfl rfl rfl rfl fun w154 S154=>?_
    refine ⟨Sd.of (S153.trans S154) [2] rfl,?_⟩
    refine wpAnyH_done zK (J3A ?_) _
    exact ⟨Q0,Q4,Q2,F.cut rfl,((tc3 S140 S153 S154).pick [1,2,3,4,0] rfl),(Rd.mq (Rd.mq W153_0 S154) (Mv.pick (Mv.refl S154.at') [1,2,3,4,0] rfl))⟩
   refine JR S140.at' (fun lZ aZ wZ=>Fr 50 [(25,.slice ra rn rc),(30,.string x1),(6,nV k),(3,pT b3),(4,pT b5),(5,pT b22)] aZ∧Mv lZ w140 lZ wZ) #[yT,yT,yT,yT,yT,yT,yT,nF,nF,nF] 3 ?_ (fun G155=>?_)
   ·rintro a155 w155 ⟨F,S155⟩
    obtain ⟨Q33,Q46,Q59⟩:=At.ownInv S155.at' ET_44.hk 3 rfl
    refine J0W (i:=7) (listed':=#[yT,yT,yT,yT,yT,yT,yT,yT,nF,nF]) rfl zK rfl rfl ?_
    refine J4E F CFc.h rfl rfl rfl rfl (lc (F.g rfl) (lc (F.g rfl) rfl)) (J2V (list:=J0p a.reads (b.reads.take k)) (span:=x1) (Rd.mq W131_0 (S140.trans S155)) okx1 yb) ?_
    rintro _ w156 ⟨Q16,Q20,Q18,rfl,m156,v156_0⟩
    refine ⟨_,rfl,fun _ F=>?_⟩
    have S156:=At.frame0 S155.at' m156
    have V156_0:=Rd.got0 S155.at' ((tc8 S1 S3 S5 S129 S132 S131 S140 S155).kp.size) v156_0 S156
    obtain ⟨ln156_0,le156_0,mx156_0,ni156_0⟩:=Rd.inv V156_0
    refine ⟨Sd.of (S155.trans S156) [1] rfl,?_⟩
    refine J0o F rfl (i:=8) (listed':=#[yT,yT,yT,yT,yT,yT,yT,yT,yT,nF]) rfl zK zK zK (fun _ _ _ h=>h) (Sd.of (S155.trans S156) [1] rfl) rfl rfl rfl rfl (fun _ hz=>(J13 FIc.h rfl (F.g rfl) rfl)) fun _ F=>?_
    exact G153 _ _ ⟨Q16,Q20,Q18,F.cut rfl,(S155.trans S156).pick [0,1,2,3,4] rfl,V156_0⟩
   refine JR S140.at' (fun lZ aZ wZ=>Fr 50 [(30,.string x1),(24,pT b22),(6,nV k),(3,pT b3),(4,pT b5),(5,pT b22)] aZ∧Mv lZ w140 lZ wZ) #[yT,nF,yT,yT,yT,yT,yT,nF,nF,nF] 4 ?_ (fun G159=>?_)
   ·rintro a159 w159 ⟨F,S159⟩
    obtain ⟨Q34,Q47,Q60⟩:=At.ownInv S159.at' ET_44.hk 3 rfl
    refine J0W (i:=1) (listed':=#[yT,yT,yT,yT,yT,yT,yT,nF,nF,nF]) rfl zK rfl rfl ?_
    refine Jf (v:=.slice ra rn rc) F rfl rfl (JZ S159.at' 4 J0b rfl rfl (F.g rfl) rfl rfl (fun _=>rfl) rfl) rfl fun _ F=>?_
    refine ⟨Sd.of S159 [1] rfl,?_⟩
    exact G155 _ _ ⟨F.cut rfl,S159.pick [0,1,2,3,4] rfl⟩
   refine J0o F rfl (i:=0) (listed':=#[yT,nF,nF,nF,nF,nF,nF,nF,nF,nF]) rfl zK zK zK (fun _ _ _ h=>h) (Sd.of (Mv.refl S140.at') [1] rfl) rfl rfl rfl rfl (fun _ hz=>(J13 FIc.h rfl (F.g rfl) rfl)) fun _ F=>?_
   refine J0o F rfl (i:=2) (listed':=#[yT,nF,yT,nF,nF,nF,nF,nF,nF,nF]) rfl zK zK zK (fun _ _ _ h=>h) (Sd.of (Mv.refl S140.at') [1] rfl) rfl rfl rfl rfl (fun _ hz=>(J13 FIc.h rfl (F.g rfl) rfl)) fun _ F=>?_
   refine J0o (v:=.slice b_Ra b_Rn b_Rc) F rfl (i:=3) (listed':=#[yT,nF,yT,yT,nF,nF,nF,nF,nF,nF]) rfl zK zK zK (fun _ _ _ h=>h) (Sd.of (Mv.refl S140.at') [1] rfl) rfl rfl rfl rfl (fun _ hz=>(J3B (hz.bx 0 rfl) J0b rfl (F.g rfl) rfl rfl (fun _=>rfl) rfl)) fun _ F=>?_
   refine J0o F rfl (i:=4) (listed':=#[yT,nF,yT,yT,yT,nF,nF,nF,nF,nF]) rfl zK zK zK (fun _ _ _ h=>h) (Sd.of (Mv.refl S140.at') [1] rfl) rfl rfl rfl rfl (fun _ hz=>(J5B rfl (F.g rfl))) fun _ F=>?_
   obtain ⟨B165,O165,y165,ad165,hy165,oky165,ln165,cl165⟩:=Rd.atK (Nat.succ_pos _) (Rd.mq V_v_b_reads (tc7 S1 S3 S5 S129 S132 S131 S140)) k yq
   clear ln165
   obtain rfl:=Option.some.inj (hx1.symm.trans hy165)
   clear hy165 oky165
   refine J0o F rfl (i:=5) (listed':=#[yT,nF,yT,yT,yT,yT,nF,nF,nF,nF]) rfl zK zK zK (fun _ _ _ h=>h) (Sd.of (Mv.refl S140.at') [1] rfl) rfl rfl rfl rfl (fun _ hz=>(JB (i:=k) ET_44 rfl ((F.ev 27 rfl).trans (by rw [ad165])) (F.g rfl) zO yq)) fun _ F=>?_
   refine J0o (v:=.string x1) F rfl (i:=6) (listed':=#[yT,nF,yT,yT,yT,yT,yT,nF,nF,nF]) rfl zK zK zK (fun _ _ _ h=>h) (Sd.of (Mv.refl S140.at') [1] rfl) rfl rfl rfl rfl (fun _ hz=>(JD (cs:=[.string x1]) J0j rfl (F.g rfl) rfl (fun _=>rfl) (JN (f:=0) (cl165 _ hz.kp) [.string x1] rfl))) fun _ F=>?_
   exact G159 _ _ ⟨F.cut rfl,(Mv.refl S140.at').pick [0,1,2,3,4] rfl⟩
  rintro a168 w168 ⟨Q0,Q4,Q2,F,S168,V168_0⟩
  have S168:Mv _ _ [bx _ [_,_] _,bx _ [_,_] _,bx _ [_,_] _,_,bx _ [_,_] _] _:=S168
  obtain ⟨ln168_0,le168_0,mx168_0,ni168_0⟩:=Rd.inv V168_0
  refine zr fun _ F=>?_
  refine zq F ((k+1:Nat):Int) fun _ F=>?_
  exact ⟨k+1,zD,Q0,Q4,Q2,F.cut rfl,((S131.trans S168).pick [0,1,2,3,4] rfl),(Rd.cast V168_0 (by exact (J8R hx1).symm)),zO⟩
 refine zr fun _ F=>?_
 have Z174:Rd 1 J3 okS (V H w [bx b5 [sN,sN] 56,bx b3 [.slice b_Ra b_Rn b_Rc,.slice b_Wa b_Wn b_Wc] 56,bx b1 [.slice a_Ra a_Rn a_Rc,.slice a_Wa a_Wn a_Wc] 56,bx b22 [.slice ra rn rc,.slice A19 N19 C19] 56]) w131 (.slice A19 N19 C19) (([]:List ByteArray)++a.writes):=At.freeze (tc6 S1 S3 S5 S129 S132 S131) ET_44.hk 3 rfl (fun b hb=>((tc6 S1 S3 S5 S129 S132 S131).fresh b ⟨_,Jm (i:=3) rfl,hb⟩).resolve_left (JF _))
 have S174:=At.drop S131.at' 3
 refine JH S174.at' (fun lZ (j:Nat) aZ wZ=>∃ (ua:Option Addr)(un uc:Nat),(fun l2=>Fr 50 [(7,nV j),(3,pT b3),(4,pT b5),(5,pT b22)] aZ∧Mv lZ w131 l2 wZ∧Rd 1 J3 okS (V H w l2) wZ (.slice ua un uc) (J0p a.writes (b.writes.take j))∧(j≤b_Wn)) (lZ.set 3 (bx b22 [.slice ra rn rc,.slice ua un uc] 56))) (fun (j:Nat)=>b_Wn - j) (0) ?_ ?_
 ·exact ⟨A19,N19,C19,F.cut rfl,(Mv.refl S174.at'),Z174,zO⟩
 rintro j a173 w173 ⟨ua,un,uc,F,S173,W173_0,h173_0⟩
 have S173:Mv _ _ [bx _ [_,_] _,bx _ [_,_] _,bx _ [_,_] _,bx _ [_,_] _] _:=S173
 obtain ⟨lv173_0,lw173_0,lx173_0,ly173_0⟩:=Rd.inv W173_0
 have jl:=J51 a.writes (b.writes.take j)
 rw [List.length_take] at jl
 refine zr fun _ F=>?_
 refine zl F S173.at' 1 fun _ F=>?_
 refine zc F (j < b_Wn) fun _ F=>?_
 refine zi F (fun h180=>?_) fun h180=>?_
 ·refine zr fun _ F=>?_
  obtain ⟨x1,hx1,okx1⟩:=Rd.elem (Rd.mq V_v_b_writes (tc8 S1 S3 S5 S129 S132 S131 S174 S173)) j yq
  refine J5v S173.at' (fun lZ aZ wZ=>∃ (Q1:Option Addr)(Q5 Q3:Nat),(fun l2=>Fr 50 [(3,pT b3),(4,pT b5),(5,pT b22),(7,nV j)] aZ∧Mv lZ w173 l2 wZ∧Rd 1 J3 okS (V H w l2) wZ (.slice Q1 Q5 Q3) (JI (J0p a.writes (b.writes.take j)) x1)) (lZ.set 3 (bx b22 [.slice ra rn rc,.slice Q1 Q5 Q3] 56))) [1] (listed:=#[false,false,false,false,false,false,false,false,false,false]) rfl (fun w182 S182=>?_) ?_
  ·refine JR S182.at' (fun lZ aZ wZ=>∃ (Q1:Option Addr)(Q5 Q3:Nat),Fr 50 [(48,pP b22 1),(47,.slice Q1 Q5 Q3),(7,nV j),(3,pT b3),(4,pT b5),(5,pT b22)] aZ∧Mv lZ w182 lZ wZ∧Rd 1 J3 okS (V H w lZ) wZ (.slice Q1 Q5 Q3) (JI (J0p a.writes (b.writes.take j)) x1)) #[yT,yT,yT,yT,yT,yT,yT,yT,yT,nF] 1 ?_ (fun G195=>?_)
   ·rintro a195 w195 ⟨Q1,Q5,Q3,F,S195,W195_0⟩
    refine J0W (i:=9) (listed':=#[yT,yT,yT,yT,yT,yT,yT,yT,yT,yT]) rfl zK rfl rfl ?_
    refine J0C S195.at' 3 J0b rfl rfl rfl rfl rfl (F.g rfl) (F.g rfl) rfl rfl rfl rfl rfl fun w196 S196=>?_
    refine ⟨Sd.of (S195.trans S196) [2] rfl,?_⟩
    refine wpAnyH_done zK (J3A ?_) _
    exact ⟨Q1,Q5,Q3,F.cut rfl,((tc3 S182 S195 S196).pick [1,2,3,0] rfl),(Rd.mq (Rd.mq W195_0 S196) (Mv.pick (Mv.refl S196.at') [1,2,3,0] rfl))⟩
   refine JR S182.at' (fun lZ aZ wZ=>Fr 50 [(41,.slice ua un uc),(46,.string x1),(7,nV j),(3,pT b3),(4,pT b5),(5,pT b22)] aZ∧Mv lZ w182 lZ wZ) #[yT,yT,yT,yT,yT,yT,yT,nF,nF,nF] 3 ?_ (fun G197=>?_)
   ·rintro a197 w197 ⟨F,S197⟩
    refine J0W (i:=7) (listed':=#[yT,yT,yT,yT,yT,yT,yT,yT,nF,nF]) rfl zK rfl rfl ?_
    refine J4E F CFc.h rfl rfl rfl rfl (lc (F.g rfl) (lc (F.g rfl) rfl)) (J2V (list:=J0p a.writes (b.writes.take j)) (span:=x1) (Rd.mq W173_0 (S182.trans S197)) okx1 yb) ?_
    rintro _ w198 ⟨Q17,Q21,Q19,rfl,m198,v198_0⟩
    refine ⟨_,rfl,fun _ F=>?_⟩
    have S198:=At.frame0 S197.at' m198
    have V198_0:=Rd.got0 S197.at' ((J0X S1 S3 S5 S129 S132 S131 S174 S173 S182 S197).kp.size) v198_0 S198
    obtain ⟨ln198_0,le198_0,mx198_0,ni198_0⟩:=Rd.inv V198_0
    refine ⟨Sd.of (S197.trans S198) [1] rfl,?_⟩
    refine J0o F rfl (i:=8) (listed':=#[yT,yT,yT,yT,yT,yT,yT,yT,yT,nF]) rfl zK zK zK (fun _ _ _ h=>h) (Sd.of (S197.trans S198) [1] rfl) rfl rfl rfl rfl (fun _ hz=>(J13 FIc.h rfl (F.g rfl) rfl)) fun _ F=>?_
    exact G195 _ _ ⟨Q17,Q21,Q19,F.cut rfl,(S197.trans S198).pick [0,1,2,3] rfl,V198_0⟩
   refine JR S182.at' (fun lZ aZ wZ=>Fr 50 [(46,.string x1),(40,pP b22 1),(7,nV j),(3,pT b3),(4,pT b5),(5,pT b22)] aZ∧Mv lZ w182 lZ wZ) #[yT,nF,yT,yT,yT,yT,yT,nF,nF,nF] 4 ?_ (fun G201=>?_)
   ·rintro a201 w201 ⟨F,S201⟩
    refine J0W (i:=1) (listed':=#[yT,yT,yT,yT,yT,yT,yT,nF,nF,nF]) rfl zK rfl rfl ?_
    refine Jf (v:=.slice ua un uc) F rfl rfl (JZ S201.at' 3 J0b rfl rfl (F.g rfl) rfl rfl (fun _=>rfl) rfl) rfl fun _ F=>?_
    refine ⟨Sd.of S201 [1] rfl,?_⟩
    exact G197 _ _ ⟨F.cut rfl,S201.pick [0,1,2,3] rfl⟩
   refine J0o F rfl (i:=0) (listed':=#[yT,nF,nF,nF,nF,nF,nF,nF,nF,nF]) rfl zK zK zK (fun _ _ _ h=>h) (Sd.of (Mv.refl S182.at') [1] rfl) rfl rfl rfl rfl (fun _ hz=>(J13 FIc.h rfl (F.g rfl) rfl)) fun _ F=>?_
   refine J0o F rfl (i:=2) (listed':=#[yT,nF,yT,nF,nF,nF,nF,nF,nF,nF]) rfl zK zK zK (fun _ _ _ h=>h) (Sd.of (Mv.refl S182.at') [1] rfl) rfl rfl rfl rfl (fun _ hz=>(J13 FIc.h rfl (F.g rfl) rfl)) fun _ F=>?_
   refine J0o (v:=.slice b_Wa b_Wn b_Wc) F rfl (i:=3) (listed':=#[yT,nF,yT,yT,nF,nF,nF,nF,nF,nF]) rfl zK zK zK (fun _ _ _ h=>h) (Sd.of (Mv.refl S182.at') [1] rfl) rfl rfl rfl rfl (fun _ hz=>(J3B (hz.bx 0 rfl) J0b rfl (F.g rfl) rfl rfl (fun _=>rfl) rfl)) fun _ F=>?_
   refine J0o F rfl (i:=4) (listed':=#[yT,nF,yT,yT,yT,nF,nF,nF,nF,nF]) rfl zK zK zK (fun _ _ _ h=>h) (Sd.of (Mv.refl S182.at') [1] rfl) rfl rfl rfl rfl (fun _ hz=>(J5B rfl (F.g rfl))) fun _ F=>?_
   obtain ⟨B207,O207,y207,ad207,hy207,oky207,ln207,cl207⟩:=Rd.atK (Nat.succ_pos _) (Rd.mq V_v_b_writes (tc9 S1 S3 S5 S129 S132 S131 S174 S173 S182)) j yq
   clear ln207
   obtain rfl:=Option.some.inj (hx1.symm.trans hy207)
   clear hy207 oky207
   refine J0o F rfl (i:=5) (listed':=#[yT,nF,yT,yT,yT,yT,nF,nF,nF,nF]) rfl zK zK zK (fun _ _ _ h=>h) (Sd.of (Mv.refl S182.at') [1] rfl) rfl rfl rfl rfl (fun _ hz=>(JB (i:=j) ET_44 rfl ((F.ev 43 rfl).trans (by rw [ad207])) (F.g rfl) zO yq)) fun _ F=>?_
   refine J0o (v:=.string x1) F rfl (i:=6) (listed':=#[yT,nF,yT,yT,yT,yT,yT,nF,nF,nF]) rfl zK zK zK (fun _ _ _ h=>h) (Sd.of (Mv.refl S182.at') [1] rfl) rfl rfl rfl rfl (fun _ hz=>(JD (cs:=[.string x1]) J0j rfl (F.g rfl) rfl (fun _=>rfl) (JN (f:=0) (cl207 _ hz.kp) [.string x1] rfl))) fun _ F=>?_
   exact G201 _ _ ⟨F.cut rfl,(Mv.refl S182.at').pick [0,1,2,3] rfl⟩
  rintro a210 w210 ⟨Q1,Q5,Q3,F,S210,V210_0⟩
  have S210:Mv _ _ [bx _ [_,_] _,bx _ [_,_] _,bx _ [_,_] _,bx _ [_,_] _] _:=S210
  obtain ⟨ln210_0,le210_0,mx210_0,ni210_0⟩:=Rd.inv V210_0
  refine zr fun _ F=>?_
  refine zq F ((j+1:Nat):Int) fun _ F=>?_
  exact ⟨j+1,zD,Q1,Q5,Q3,F.cut rfl,((S173.trans S210).pick [0,1,2,3] rfl),(Rd.cast V210_0 (by exact (J8R hx1).symm)),zO⟩
 refine zr fun _ F=>?_
 refine zw F S173.at' 3 fun _ F=>?_
 refine zst F S173.at' 0 fun w215 S215 _ F=>?_
 have T216:Mv _ _ [bx _ [_,_] _,bx _ [_,_] _,bx _ [_,_] _,bx _ [_,_] _] _:=S215
 refine zdc F T216.at' 0 ?_
 exact ⟨ra,rn,rc,ua,un,uc,rfl,(Mv.pick (tc9 S1 S3 S5 S129 S132 S131 S174 S173 T216) [] rfl),(Rd.cast (Rd.give (Rd.mq W131_0 (tc3 S174 S173 T216))) (by unfold J4N;dsimp only;congr 1;exact List.take_of_length_le zO)),(Rd.cast (Rd.give (Rd.mq W173_0 T216)) (by unfold J4N;dsimp only;congr 1;exact List.take_of_length_le zO))⟩
theorem Jd1 {m:MachD} {m_Sa:Option Addr} {m_Sn m_Sc:Nat} {m_Ra:Option Addr} {m_Rn m_Rc:Nat} {m_Wa:Option Addr} {m_Wn m_Wc:Nat} {key:ByteArray} (Q10:Rd 2 J6 okC H w (.slice m_Sa m_Sn m_Sc) m.store) (Q11:Rd 1 J3 okS H w (.slice m_Ra m_Rn m_Rc) m.touch.reads) (Q12:Rd 1 J3 okS H w (.slice m_Wa m_Wn m_Wc) m.touch.writes) (Q0:okS key) (p0:m.touch.reads.length≤274877906944) :
 Calls prog 293 #[.agg #[.slice m_Sa m_Sn m_Sc,.slice m_Ra m_Rn m_Rc,.slice m_Wa m_Wn m_Wc],.string key] w fun e w'=>∃ (Q4:Option Addr)(Q6 Q5:Nat)(Q1:Option Addr)(Q3 Q2:Nat)(Q7:Option Addr)(Q9 Q8:Nat),e=.returned (.tuple #[.agg #[.slice Q4 Q6 Q5,.slice Q1 Q3 Q2,.slice Q7 Q9 Q8],.string (Jl m.store key)])∧Mv [] w [] w'∧Rd 2 J6 okC (Fsh H w) w' (.slice Q4 Q6 Q5) (J15 m key).store∧Rd 1 J3 okS (Fsh H w) w' (.slice Q1 Q3 Q2) (J15 m key).touch.reads∧Rd 1 J3 okS (Fsh H w) w' (.slice Q7 Q9 Q8) (J15 m key).touch.writes∧okS (Jl m.store key):=by
 have V_v_m_store:=Rd.start Q10 zN
 obtain ⟨Q20,Q17,Q23,Q26⟩:=Rd.inv Q10
 have V_v_m_touch_reads:=Rd.start Q11 zN
 obtain ⟨Q21,Q18,Q24,Q27⟩:=Rd.inv Q11
 have V_v_m_touch_writes:=Rd.start Q12 zN
 obtain ⟨Q22,Q19,Q25,Q28⟩:=Rd.inv Q12
 refine ze fun _ F=>?_
 refine zbx F (At.nil w) fun b1 w1 S1 _ F=>?_
 refine zal F S1.at' JA fun b3 w3 S3 _ F=>?_
 refine zl F S3.at' 1 fun _ F=>?_
 refine zz F (J2V (list:=m.touch.reads) (span:=key) (Rd.mq V_v_m_touch_reads (S1.trans S3)) Q0 yb) ?_
 rintro _ w10 ⟨Q14,Q16,Q15,rfl,m10,v10_0⟩
 refine zt fun _ F=>?_
 have S10:=At.frame0 S3.at' m10
 have V10_0:=Rd.got0 S3.at' ((S1.trans S3).kp.size) v10_0 S10
 obtain ⟨ln10_0,le10_0,mx10_0,ni10_0⟩:=Rd.inv V10_0
 refine zst F S10.at' 1 fun w14 S14 _ F=>?_
 have T15:Mv _ _ [bx _ [_,_,_] _,bx _ [_,_,_] _] _:=S14
 refine J1K [] [0,1,2,3,4,5,6] T15.at' [0] zK fun w17 S17 hS=>?_
 refine zg fun _ F=>?_
 refine J2 rfl rfl (zzs F S17.at' (J3N (s:=m.store) (key:=key) (Rd.mq V_v_m_store (tc5 S1 S3 S10 T15 S17)) Q0) ?_)
 rintro w22 S22 Q13 _ F
 refine nS (Sd.of S22 [0] rfl) fun hS=>?_
 refine J2 rfl rfl (J0C S22.at' 1 J7e rfl rfl rfl rfl rfl (F.g rfl) (F.g rfl) rfl rfl rfl rfl rfl fun w24 S24=>?_)
 refine nS (Sd.of (S22.trans S24) [1] rfl) fun hS=>?_
 refine zg fun _ F=>?_
 refine zde F S24.at' 0 ?_
 exact ⟨m_Sa,m_Sn,m_Sc,Q14,Q16,Q15,m_Wa,m_Wn,m_Wc,rfl,(Mv.pick (tc7 S1 S3 S10 T15 S17 S22 S24) [] rfl),(Rd.cast (Rd.give (Rd.mq V_v_m_store (tc7 S1 S3 S10 T15 S17 S22 S24))) (by rfl)),(Rd.cast (Rd.give (Rd.mq V10_0 (tc4 T15 S17 S22 S24))) (by rfl)),(Rd.cast (Rd.give (Rd.mq V_v_m_touch_writes (tc7 S1 S3 S10 T15 S17 S22 S24))) (by rfl)),Q13⟩
end Go.Proofs.YtipdbeklopjbmaaGreatDoor
