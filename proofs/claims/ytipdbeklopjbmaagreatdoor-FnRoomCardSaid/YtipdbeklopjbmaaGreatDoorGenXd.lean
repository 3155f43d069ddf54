/-
  Walks: a mark is set.
-/
import Derived.Test.YtipdbeklopjbmaaGreatDoorP10
import Derived.Test.YtipdbeklopjbmaaGreatDoorP28
set_option linter.unusedVariables false
set_option linter.unusedSimpArgs false
namespace Go.Proofs.YtipdbeklopjbmaaGreatDoor
open Go.ChangeShapes Go.WideShapes Go.ChangeAt Go.RowKit Go.Proofs.Tryz
variable {w:World} {H:Nat→Prop}
set_option maxRecDepth 100000
set_option maxHeartbeats 1000000
theorem J8c {x:TxD} {Q26:Option Addr} {Q28 Q27:Nat} {Q23:Option Addr} {Q25 Q24:Nat} {x_Ra:Option Addr} {x_Rn x_Rc:Nat} {x_Wa:Option Addr} {x_Wn x_Wc:Nat} {Q0:Option Addr} {Q2 Q1:Nat} (Q31:J1 x.id) (Q29:J1 x.age) (Q32:J1 x.proc) (Q30:J1 x.began) (Q19:Rd 6 J16 okK H w (.slice Q26 Q28 Q27) x.calls) (Q18:Rd 3 J0x okR H w (.slice Q23 Q25 Q24) x.answers) (Q21:Rd 1 J3 okS H w (.slice x_Ra x_Rn x_Rc) x.touch.reads) (Q22:Rd 1 J3 okS H w (.slice x_Wa x_Wn x_Wc) x.touch.writes) (Q20:Rd 1 J0w okI H w (.slice Q0 Q2 Q1) x.marks) (Q33:J1 x.state) (p0:x.calls.length≤6000000000) (p1:x.answers.length≤6000000000) (p2:x.touch.reads.length≤6000000000) (p3:x.touch.writes.length≤6000000000) (p4:x.marks.length≤6000000000) :
 Calls prog 266 #[.agg #[iV x.id,iV x.age,iV x.proc,iV x.began,.slice Q26 Q28 Q27,.slice Q23 Q25 Q24,.slice x_Ra x_Rn x_Rc,.slice x_Wa x_Wn x_Wc,.slice Q0 Q2 Q1,iV x.state]] w fun e w'=>∃ (Q12:Option Addr)(Q14 Q13:Nat)(Q9:Option Addr)(Q11 Q10:Nat)(Q3:Option Addr)(Q5 Q4:Nat)(Q6:Option Addr)(Q8 Q7:Nat)(Q15:Option Addr)(Q17 Q16:Nat),e=.returned (.agg #[iV x.id,iV x.age,iV x.proc,iV x.began,.slice Q12 Q14 Q13,.slice Q9 Q11 Q10,.slice Q3 Q5 Q4,.slice Q6 Q8 Q7,.slice Q15 Q17 Q16,iV x.state])∧Mv [] w [qK Q12 Q14 Q13 x.calls,qR Q9 Q11 Q10 x.answers,qS Q3 Q5 Q4 x.touch.reads,qS Q6 Q8 Q7 x.touch.writes,qI Q15 Q17 Q16 x.marks] w':=by
 have V_v_x_calls:=Rd.start Q19 zN
 obtain ⟨Q40,Q35,Q195,Q200⟩:=Rd.inv Q19
 have V_v_x_answers:=Rd.start Q18 zN
 obtain ⟨Q39,Q34,Q194,Q199⟩:=Rd.inv Q18
 have V_v_x_touch_reads:=Rd.start Q21 zN
 obtain ⟨Q42,Q37,Q197,Q202⟩:=Rd.inv Q21
 have V_v_x_touch_writes:=Rd.start Q22 zN
 obtain ⟨Q43,Q38,Q198,Q203⟩:=Rd.inv Q22
 have V_v_x_marks:=Rd.start Q20 zN
 obtain ⟨Q41,Q36,Q196,Q201⟩:=Rd.inv Q20
 refine ze fun _ F=>?_
 refine zbx F (At.nil w) fun b1 w1 S1 _ F=>?_
 refine zal F S1.at' J1t fun b3 w3 S3 _ F=>?_
 refine zbs (ok:=okK) F S3.at' (([]:List CallD)) ET_54 (by simp) fun b5 w5 S5 _ F=>?_
 refine zl F S5.at' 2 fun _ F=>?_
 refine J0 (Jv (news:=x.calls) F S5.at' 0 ET_54 rfl rfl rfl rfl rfl rfl (F.g rfl) (F.g rfl) ((Rd.mq V_v_x_calls (tc3 S1 S3 S5))).1 (by ((repeat (first|rw [List.length_append]|rw [List.length_cons]|rw [List.length_nil]|rw [List.length_take]|rw [List.length_drop])) <;> omega)) fun A9 N9 C9 _ w9 F S9 l9=>?_)
 refine zr fun _ F=>?_
 refine zst F S9.at' 2 fun w12 S12 _ F=>?_
 have T13:Mv _ _ [bx _ [_,_,_,_,_,_,_,_,_,_] _,_,bx _ [_,_,_,_,_,_,_,_,_,_] _] _:=S12
 refine zbs (ok:=okR) F T13.at' (([]:List AnsD)) ET_55 (by simp) fun b14 w14 S14 _ F=>?_
 refine zl F S14.at' 1 fun _ F=>?_
 refine J0 (Jv (news:=x.answers) F S14.at' 0 ET_55 rfl rfl rfl rfl rfl rfl (F.g rfl) (F.g rfl) ((Rd.mq V_v_x_answers (tc6 S1 S3 S5 S9 T13 S14))).1 (by ((repeat (first|rw [List.length_append]|rw [List.length_cons]|rw [List.length_nil]|rw [List.length_take]|rw [List.length_drop])) <;> omega)) fun A18 N18 C18 _ w18 F S18 l18=>?_)
 refine zr fun _ F=>?_
 refine zst F S18.at' 1 fun w21 S21 _ F=>?_
 refine J5v S21.at' (fun lZ aZ wZ=>∃ (b28:Nat)(A31:Option Addr)(N31 C31 b33:Nat)(A36:Option Addr)(N36 C36:Nat),Fr 31 [(1,pT b1),(2,pT b3)] aZ∧Mv lZ w21 ((lZ.set 0 (bx b1 [iV x.id,iV x.age,iV x.proc,iV x.began,.slice A9 N9 C9,.slice A18 N18 C18,.slice A31 N31 C31,.slice A36 N36 C36,.slice Q0 Q2 Q1,iV x.state] 58))++[qS A31 N31 C31 (([]:List ByteArray)++x.touch.reads),qS A36 N36 C36 (([]:List ByteArray)++x.touch.writes)]) wZ) [] (listed:=#[false,false,false,false,false,false,false,false,false,false,false,false,false]) rfl (fun w23 S23=>?_) ?_
 ·refine JR S23.at' (fun lZ aZ wZ=>∃ (b28:Nat)(A31:Option Addr)(N31 C31 b33:Nat)(A36:Option Addr)(N36 C36:Nat),Fr 31 [(24,pP b1 6),(23,.agg #[.slice A31 N31 C31,.slice A36 N36 C36]),(2,pT b3),(1,pT b1)] aZ∧Mv lZ w23 (lZ++[qS A36 N36 C36 (([]:List ByteArray)++x.touch.writes),qS A31 N31 C31 (([]:List ByteArray)++x.touch.reads)]) wZ) #[yT,yT,yT,yT,yT,yT,yT,yT,yT,yT,yT,yT,nF] 1 ?_ (fun G95=>?_)
  ·rintro a95 w95 ⟨b28,A31,N31,C31,b33,A36,N36,C36,F,S95⟩
   have S95:Mv _ _ [bx _ [_,_,_,_,_,_,_,_,_,_] _,_,_,bx _ [_,_,_,_,_,_,_,_,_,_] _,_,_] _:=S95
   obtain ⟨Q87,Q137,Q187⟩:=At.ownInv S95.at' ET_55.hk 1 rfl
   obtain ⟨Q88,Q138,Q188⟩:=At.ownInv S95.at' ET_54.hk 2 rfl
   obtain ⟨Q89,Q139,Q189⟩:=At.ownInv S95.at' ET_44.hk 4 rfl
   obtain ⟨Q90,Q140,Q190⟩:=At.ownInv S95.at' ET_44.hk 5 rfl
   refine J0W (i:=12) (listed':=#[yT,yT,yT,yT,yT,yT,yT,yT,yT,yT,yT,yT,yT]) rfl zK rfl rfl ?_
   refine J0C S95.at' 0 J7C rfl rfl rfl rfl rfl (F.g rfl) (F.g rfl) rfl rfl rfl rfl rfl fun w96 S96=>?_
   refine ⟨Sd.of (S95.trans S96) [] rfl,?_⟩
   refine wpAnyH_done zK (J3A ?_) _
   exact ⟨b28,A31,N31,C31,b33,A36,N36,C36,F.cut rfl,((tc3 S23 S95 S96).pick [0,1,2,3,5,4] rfl)⟩
  refine JR S23.at' (fun lZ aZ wZ=>∃ (b28:Nat)(A31:Option Addr)(N31 C31 b33:Nat),Fr 31 [(21,.slice x_Wa x_Wn x_Wc),(18,.slice (aO b33) 0 0),(17,.slice A31 N31 C31),(2,pT b3),(1,pT b1)] aZ∧Mv lZ w23 (lZ++[qS (aO b33) 0 0 ([]:List ByteArray),qS A31 N31 C31 (([]:List ByteArray)++x.touch.reads)]) wZ) #[yT,yT,yT,yT,yT,yT,yT,yT,yT,nF,nF,nF,nF] 4 ?_ (fun G97=>?_)
  ·rintro a97 w97 ⟨b28,A31,N31,C31,b33,F,S97⟩
   have S97:Mv _ _ [bx _ [_,_,_,_,_,_,_,_,_,_] _,_,_,bx _ [_,_,_,_,_,_,_,_,_,_] _,_,_] _:=S97
   obtain ⟨Q91,Q141,Q191⟩:=At.ownInv S97.at' ET_55.hk 1 rfl
   obtain ⟨Q92,Q142,Q192⟩:=At.ownInv S97.at' ET_54.hk 2 rfl
   obtain ⟨Q93,Q143,Q193⟩:=At.ownInv S97.at' ET_44.hk 5 rfl
   refine J0W (i:=9) (listed':=#[yT,yT,yT,yT,yT,yT,yT,yT,yT,yT,nF,nF,nF]) rfl zK rfl rfl ?_
   refine Jv (news:=x.touch.writes) F S97.at' 4 ET_44 rfl rfl rfl rfl rfl rfl (F.g rfl) (F.g rfl) ((Rd.mq V_v_x_touch_writes (J0X S1 S3 S5 S9 T13 S14 S18 S21 S23 S97))).1 (by ((repeat (first|rw [List.length_append]|rw [List.length_cons]|rw [List.length_nil]|rw [List.length_take]|rw [List.length_drop])) <;> omega)) fun A98 N98 C98 _ w98 F S98 l98=>?_
   refine ⟨Sd.of (S97.trans S98) [] rfl,?_⟩
   refine J0o (v:=.agg #[.slice A31 N31 C31,.slice A98 N98 C98]) F rfl (i:=10) (listed':=#[yT,yT,yT,yT,yT,yT,yT,yT,yT,yT,yT,nF,nF]) rfl zK zK zK (fun _ _ _ h=>h) (Sd.of (S97.trans S98) [] rfl) rfl rfl rfl rfl (fun _ hz=>(J06 J4L rfl (lc (pr2 (F.g rfl)) (lc (pr2 (F.g rfl)) rfl)) rfl)) fun _ F=>?_
   refine J0o F rfl (i:=11) (listed':=#[yT,yT,yT,yT,yT,yT,yT,yT,yT,yT,yT,yT,nF]) rfl zK zK zK (fun _ _ _ h=>h) (Sd.of (S97.trans S98) [] rfl) rfl rfl rfl rfl (fun _ hz=>(J13 FIc.h rfl (F.g rfl) rfl)) fun _ F=>?_
   exact G95 _ _ ⟨b28,A31,N31,C31,b33,A98,N98,C98,F.cut rfl,(S97.trans S98).pick [1,2,3,4,0,5] rfl⟩
  refine JR S23.at' (fun lZ aZ wZ=>∃ (b28:Nat)(A31:Option Addr)(N31 C31 b33:Nat),Fr 31 [(18,.slice (aO b33) 0 0),(17,.slice A31 N31 C31),(20,pP b1 7),(2,pT b3),(1,pT b1)] aZ∧Mv lZ w23 (lZ++[qS (aO b33) 0 0 ([]:List ByteArray),qS A31 N31 C31 (([]:List ByteArray)++x.touch.reads)]) wZ) #[yT,yT,yT,yT,yT,yT,yT,yT,nF,nF,nF,nF,nF] 5 ?_ (fun G102=>?_)
  ·rintro a102 w102 ⟨b28,A31,N31,C31,b33,F,S102⟩
   have S102:Mv _ _ [bx _ [_,_,_,_,_,_,_,_,_,_] _,_,_,bx _ [_,_,_,_,_,_,_,_,_,_] _,_,_] _:=S102
   obtain ⟨Q44,Q94,Q144⟩:=At.ownInv S102.at' ET_55.hk 1 rfl
   obtain ⟨Q45,Q95,Q145⟩:=At.ownInv S102.at' ET_54.hk 2 rfl
   obtain ⟨Q46,Q96,Q146⟩:=At.ownInv S102.at' ET_44.hk 5 rfl
   refine J0W (i:=8) (listed':=#[yT,yT,yT,yT,yT,yT,yT,yT,yT,nF,nF,nF,nF]) rfl zK rfl rfl ?_
   refine Jf (v:=.slice x_Wa x_Wn x_Wc) F rfl rfl (JZ S102.at' 0 J0b rfl rfl (F.g rfl) rfl rfl (fun _=>rfl) rfl) rfl fun _ F=>?_
   refine ⟨Sd.of S102 [] rfl,?_⟩
   exact G97 _ _ ⟨b28,A31,N31,C31,b33,F.cut rfl,S102.pick [0,1,2,3,4,5] rfl⟩
  refine JR S23.at' (fun lZ aZ wZ=>∃ (b28:Nat)(A31:Option Addr)(N31 C31:Nat),Fr 31 [(21,.slice x_Wa x_Wn x_Wc),(17,.slice A31 N31 C31),(2,pT b3),(1,pT b1)] aZ∧Mv lZ w23 (lZ++[qS A31 N31 C31 (([]:List ByteArray)++x.touch.reads)]) wZ) #[yT,yT,yT,yT,yT,nF,yT,yT,yT,nF,nF,nF,nF] 5 ?_ (fun G104=>?_)
  ·rintro a104 w104 ⟨b28,A31,N31,C31,F,S104⟩
   have S104:Mv _ _ [bx _ [_,_,_,_,_,_,_,_,_,_] _,_,_,bx _ [_,_,_,_,_,_,_,_,_,_] _,_] _:=S104
   obtain ⟨Q47,Q97,Q147⟩:=At.ownInv S104.at' ET_55.hk 1 rfl
   obtain ⟨Q48,Q98,Q148⟩:=At.ownInv S104.at' ET_54.hk 2 rfl
   obtain ⟨Q49,Q99,Q149⟩:=At.ownInv S104.at' ET_44.hk 4 rfl
   refine J0W (i:=5) (listed':=#[yT,yT,yT,yT,yT,yT,yT,yT,yT,nF,nF,nF,nF]) rfl zK rfl rfl ?_
   refine J02 (ok:=okS) (vs:=[]) F S104.at' (([]:List ByteArray)) ET_44 rfl rfl rfl rfl rfl rfl rfl rfl rfl (by simp) fun b105 _ w105 F S105=>?_
   refine ⟨Sd.of (S104.trans S105) [] rfl,?_⟩
   exact G97 _ _ ⟨b28,A31,N31,C31,b105,F.cut rfl,(S104.trans S105).pick [1,2,3,4,0,5] rfl⟩
  refine JR S23.at' (fun lZ aZ wZ=>∃ (b28 b44:Nat),Fr 31 [(21,.slice x_Wa x_Wn x_Wc),(18,.slice (aO b44) 0 0),(16,.slice x_Ra x_Rn x_Rc),(13,.slice (aO b28) 0 0),(2,pT b3),(1,pT b1)] aZ∧Mv lZ w23 (lZ++[qS (aO b44) 0 0 ([]:List ByteArray),qS (aO b28) 0 0 ([]:List ByteArray)]) wZ) #[yT,yT,yT,yT,nF,yT,yT,yT,yT,nF,nF,nF,nF] 5 ?_ (fun G107=>?_)
  ·rintro a107 w107 ⟨b28,b44,F,S107⟩
   have S107:Mv _ _ [bx _ [_,_,_,_,_,_,_,_,_,_] _,_,_,bx _ [_,_,_,_,_,_,_,_,_,_] _,_,_] _:=S107
   obtain ⟨Q50,Q100,Q150⟩:=At.ownInv S107.at' ET_55.hk 1 rfl
   obtain ⟨Q51,Q101,Q151⟩:=At.ownInv S107.at' ET_54.hk 2 rfl
   refine J0W (i:=4) (listed':=#[yT,yT,yT,yT,yT,yT,yT,yT,yT,nF,nF,nF,nF]) rfl zK rfl rfl ?_
   refine Jv (news:=x.touch.reads) F S107.at' 5 ET_44 rfl rfl rfl rfl rfl rfl (F.g rfl) (F.g rfl) ((Rd.mq V_v_x_touch_reads (J0X S1 S3 S5 S9 T13 S14 S18 S21 S23 S107))).1 (by ((repeat (first|rw [List.length_append]|rw [List.length_cons]|rw [List.length_nil]|rw [List.length_take]|rw [List.length_drop])) <;> omega)) fun A108 N108 C108 _ w108 F S108 l108=>?_
   refine ⟨Sd.of (S107.trans S108) [] rfl,?_⟩
   exact G97 _ _ ⟨b28,A108,N108,C108,b44,F.cut rfl,(S107.trans S108).pick [1,2,3,4,5,0] rfl⟩
  refine JR S23.at' (fun lZ aZ wZ=>∃ (b28:Nat)(A31:Option Addr)(N31 C31:Nat),Fr 31 [(17,.slice A31 N31 C31),(20,pP b1 7),(2,pT b3),(1,pT b1)] aZ∧Mv lZ w23 (lZ++[qS A31 N31 C31 (([]:List ByteArray)++x.touch.reads)]) wZ) #[yT,yT,yT,yT,yT,nF,yT,yT,nF,nF,nF,nF,nF] 6 ?_ (fun G110=>?_)
  ·rintro a110 w110 ⟨b28,A31,N31,C31,F,S110⟩
   have S110:Mv _ _ [bx _ [_,_,_,_,_,_,_,_,_,_] _,_,_,bx _ [_,_,_,_,_,_,_,_,_,_] _,_] _:=S110
   obtain ⟨Q52,Q102,Q152⟩:=At.ownInv S110.at' ET_55.hk 1 rfl
   obtain ⟨Q53,Q103,Q153⟩:=At.ownInv S110.at' ET_54.hk 2 rfl
   obtain ⟨Q54,Q104,Q154⟩:=At.ownInv S110.at' ET_44.hk 4 rfl
   refine J0G (rs:=[5,8]) rfl zK (by simp) (Jz (i:=5) (listed':=#[yT,yT,yT,yT,yT,yT,yT,yT,nF,nF,nF,nF,nF]) rfl rfl ?_ (Jz (i:=8) (listed':=#[yT,yT,yT,yT,yT,nF,yT,yT,yT,nF,nF,nF,nF]) rfl rfl ?_ J0H))
   ·refine J02 (ok:=okS) (vs:=[]) F S110.at' (([]:List ByteArray)) ET_44 rfl rfl rfl rfl rfl rfl rfl rfl rfl (by simp) fun b111 _ w111 F S111=>?_
    refine ⟨Sd.of (S110.trans S111) [] rfl,?_⟩
    exact G102 _ _ ⟨b28,A31,N31,C31,b111,F.cut rfl,(S110.trans S111).pick [1,2,3,4,0,5] rfl⟩
   refine Jf (v:=.slice x_Wa x_Wn x_Wc) F rfl rfl (JZ S110.at' 0 J0b rfl rfl (F.g rfl) rfl rfl (fun _=>rfl) rfl) rfl fun _ F=>?_
   refine ⟨Sd.of S110 [] rfl,?_⟩
   exact G104 _ _ ⟨b28,A31,N31,C31,F.cut rfl,S110.pick [0,1,2,3,4] rfl⟩
  refine JR S23.at' (fun lZ aZ wZ=>∃ (b28 b44:Nat),Fr 31 [(18,.slice (aO b44) 0 0),(16,.slice x_Ra x_Rn x_Rc),(13,.slice (aO b28) 0 0),(20,pP b1 7),(2,pT b3),(1,pT b1)] aZ∧Mv lZ w23 (lZ++[qS (aO b44) 0 0 ([]:List ByteArray),qS (aO b28) 0 0 ([]:List ByteArray)]) wZ) #[yT,yT,yT,yT,nF,yT,yT,yT,nF,nF,nF,nF,nF] 6 ?_ (fun G114=>?_)
  ·rintro a114 w114 ⟨b28,b44,F,S114⟩
   have S114:Mv _ _ [bx _ [_,_,_,_,_,_,_,_,_,_] _,_,_,bx _ [_,_,_,_,_,_,_,_,_,_] _,_,_] _:=S114
   obtain ⟨Q55,Q105,Q155⟩:=At.ownInv S114.at' ET_55.hk 1 rfl
   obtain ⟨Q56,Q106,Q156⟩:=At.ownInv S114.at' ET_54.hk 2 rfl
   refine J0G (rs:=[4,8]) rfl zK (by simp) (Jz (i:=4) (listed':=#[yT,yT,yT,yT,yT,yT,yT,yT,nF,nF,nF,nF,nF]) rfl rfl ?_ (Jz (i:=8) (listed':=#[yT,yT,yT,yT,nF,yT,yT,yT,yT,nF,nF,nF,nF]) rfl rfl ?_ J0H))
   ·refine Jv (news:=x.touch.reads) F S114.at' 5 ET_44 rfl rfl rfl rfl rfl rfl (F.g rfl) (F.g rfl) ((Rd.mq V_v_x_touch_reads (J0X S1 S3 S5 S9 T13 S14 S18 S21 S23 S114))).1 (by ((repeat (first|rw [List.length_append]|rw [List.length_cons]|rw [List.length_nil]|rw [List.length_take]|rw [List.length_drop])) <;> omega)) fun A115 N115 C115 _ w115 F S115 l115=>?_
    refine ⟨Sd.of (S114.trans S115) [] rfl,?_⟩
    exact G102 _ _ ⟨b28,A115,N115,C115,b44,F.cut rfl,(S114.trans S115).pick [1,2,3,4,5,0] rfl⟩
   refine Jf (v:=.slice x_Wa x_Wn x_Wc) F rfl rfl (JZ S114.at' 0 J0b rfl rfl (F.g rfl) rfl rfl (fun _=>rfl) rfl) rfl fun _ F=>?_
   refine ⟨Sd.of S114 [] rfl,?_⟩
   exact G107 _ _ ⟨b28,b44,F.cut rfl,S114.pick [0,1,2,3,4,5] rfl⟩
  refine JR S23.at' (fun lZ aZ wZ=>∃ (b28:Nat),Fr 31 [(21,.slice x_Wa x_Wn x_Wc),(16,.slice x_Ra x_Rn x_Rc),(13,.slice (aO b28) 0 0),(2,pT b3),(1,pT b1)] aZ∧Mv lZ w23 (lZ++[qS (aO b28) 0 0 ([]:List ByteArray)]) wZ) #[yT,yT,yT,yT,nF,nF,yT,yT,yT,nF,nF,nF,nF] 6 ?_ (fun G118=>?_)
  ·rintro a118 w118 ⟨b28,F,S118⟩
   have S118:Mv _ _ [bx _ [_,_,_,_,_,_,_,_,_,_] _,_,_,bx _ [_,_,_,_,_,_,_,_,_,_] _,_] _:=S118
   obtain ⟨Q57,Q107,Q157⟩:=At.ownInv S118.at' ET_55.hk 1 rfl
   obtain ⟨Q58,Q108,Q158⟩:=At.ownInv S118.at' ET_54.hk 2 rfl
   refine J0G (rs:=[4,5]) rfl zK (by simp) (Jz (i:=4) (listed':=#[yT,yT,yT,yT,yT,nF,yT,yT,yT,nF,nF,nF,nF]) rfl rfl ?_ (Jz (i:=5) (listed':=#[yT,yT,yT,yT,nF,yT,yT,yT,yT,nF,nF,nF,nF]) rfl rfl ?_ J0H))
   ·refine Jv (news:=x.touch.reads) F S118.at' 4 ET_44 rfl rfl rfl rfl rfl rfl (F.g rfl) (F.g rfl) ((Rd.mq V_v_x_touch_reads (J0X S1 S3 S5 S9 T13 S14 S18 S21 S23 S118))).1 (by ((repeat (first|rw [List.length_append]|rw [List.length_cons]|rw [List.length_nil]|rw [List.length_take]|rw [List.length_drop])) <;> omega)) fun A119 N119 C119 _ w119 F S119 l119=>?_
    refine ⟨Sd.of (S118.trans S119) [] rfl,?_⟩
    exact G104 _ _ ⟨b28,A119,N119,C119,F.cut rfl,(S118.trans S119).pick [1,2,3,4,0] rfl⟩
   refine J02 (ok:=okS) (vs:=[]) F S118.at' (([]:List ByteArray)) ET_44 rfl rfl rfl rfl rfl rfl rfl rfl rfl (by simp) fun b121 _ w121 F S121=>?_
   refine ⟨Sd.of (S118.trans S121) [] rfl,?_⟩
   exact G107 _ _ ⟨b28,b121,F.cut rfl,(S118.trans S121).pick [1,2,3,4,0,5] rfl⟩
  refine JR S23.at' (fun lZ aZ wZ=>∃ (b28 b56:Nat),Fr 31 [(21,.slice x_Wa x_Wn x_Wc),(18,.slice (aO b56) 0 0),(13,.slice (aO b28) 0 0),(15,pP b1 6),(2,pT b3),(1,pT b1)] aZ∧Mv lZ w23 (lZ++[qS (aO b56) 0 0 ([]:List ByteArray),qS (aO b28) 0 0 ([]:List ByteArray)]) wZ) #[yT,yT,yT,nF,nF,yT,yT,yT,yT,nF,nF,nF,nF] 6 ?_ (fun G123=>?_)
  ·rintro a123 w123 ⟨b28,b56,F,S123⟩
   have S123:Mv _ _ [bx _ [_,_,_,_,_,_,_,_,_,_] _,_,_,bx _ [_,_,_,_,_,_,_,_,_,_] _,_,_] _:=S123
   obtain ⟨Q59,Q109,Q159⟩:=At.ownInv S123.at' ET_55.hk 1 rfl
   obtain ⟨Q60,Q110,Q160⟩:=At.ownInv S123.at' ET_54.hk 2 rfl
   refine J0W (i:=3) (listed':=#[yT,yT,yT,yT,nF,yT,yT,yT,yT,nF,nF,nF,nF]) rfl zK rfl rfl ?_
   refine Jf (v:=.slice x_Ra x_Rn x_Rc) F rfl rfl (JZ S123.at' 0 J0b rfl rfl (F.g rfl) rfl rfl (fun _=>rfl) rfl) rfl fun _ F=>?_
   refine ⟨Sd.of S123 [] rfl,?_⟩
   exact G107 _ _ ⟨b28,b56,F.cut rfl,S123.pick [0,1,2,3,4,5] rfl⟩
  refine JR S23.at' (fun lZ aZ wZ=>∃ (b68:Nat),Fr 31 [(21,.slice x_Wa x_Wn x_Wc),(18,.slice (aO b68) 0 0),(16,.slice x_Ra x_Rn x_Rc),(2,pT b3),(1,pT b1)] aZ∧Mv lZ w23 (lZ++[qS (aO b68) 0 0 ([]:List ByteArray)]) wZ) #[nF,yT,yT,yT,nF,yT,yT,yT,yT,nF,nF,nF,nF] 6 ?_ (fun G125=>?_)
  ·rintro a125 w125 ⟨b68,F,S125⟩
   have S125:Mv _ _ [bx _ [_,_,_,_,_,_,_,_,_,_] _,_,_,bx _ [_,_,_,_,_,_,_,_,_,_] _,_] _:=S125
   obtain ⟨Q61,Q111,Q161⟩:=At.ownInv S125.at' ET_55.hk 1 rfl
   obtain ⟨Q62,Q112,Q162⟩:=At.ownInv S125.at' ET_54.hk 2 rfl
   refine J0W (i:=0) (listed':=#[yT,yT,yT,yT,nF,yT,yT,yT,yT,nF,nF,nF,nF]) rfl zK rfl rfl ?_
   refine J02 (ok:=okS) (vs:=[]) F S125.at' (([]:List ByteArray)) ET_44 rfl rfl rfl rfl rfl rfl rfl rfl rfl (by simp) fun b126 _ w126 F S126=>?_
   refine ⟨Sd.of (S125.trans S126) [] rfl,?_⟩
   exact G107 _ _ ⟨b126,b68,F.cut rfl,(S125.trans S126).pick [1,2,3,4,5,0] rfl⟩
  refine JR S23.at' (fun lZ aZ wZ=>∃ (b28:Nat),Fr 31 [(16,.slice x_Ra x_Rn x_Rc),(13,.slice (aO b28) 0 0),(20,pP b1 7),(2,pT b3),(1,pT b1)] aZ∧Mv lZ w23 (lZ++[qS (aO b28) 0 0 ([]:List ByteArray)]) wZ) #[yT,yT,yT,yT,nF,nF,yT,yT,nF,nF,nF,nF,nF] 7 ?_ (fun G128=>?_)
  ·rintro a128 w128 ⟨b28,F,S128⟩
   have S128:Mv _ _ [bx _ [_,_,_,_,_,_,_,_,_,_] _,_,_,bx _ [_,_,_,_,_,_,_,_,_,_] _,_] _:=S128
   obtain ⟨Q63,Q113,Q163⟩:=At.ownInv S128.at' ET_55.hk 1 rfl
   obtain ⟨Q64,Q114,Q164⟩:=At.ownInv S128.at' ET_54.hk 2 rfl
   refine J0G (rs:=[4,5,8]) rfl zK (by simp) (Jz (i:=4) (listed':=#[yT,yT,yT,yT,yT,nF,yT,yT,nF,nF,nF,nF,nF]) rfl rfl ?_ (Jz (i:=5) (listed':=#[yT,yT,yT,yT,nF,yT,yT,yT,nF,nF,nF,nF,nF]) rfl rfl ?_ (Jz (i:=8) (listed':=#[yT,yT,yT,yT,nF,nF,yT,yT,yT,nF,nF,nF,nF]) rfl rfl ?_ J0H)))
   ·refine Jv (news:=x.touch.reads) F S128.at' 4 ET_44 rfl rfl rfl rfl rfl rfl (F.g rfl) (F.g rfl) ((Rd.mq V_v_x_touch_reads (J0X S1 S3 S5 S9 T13 S14 S18 S21 S23 S128))).1 (by ((repeat (first|rw [List.length_append]|rw [List.length_cons]|rw [List.length_nil]|rw [List.length_take]|rw [List.length_drop])) <;> omega)) fun A129 N129 C129 _ w129 F S129 l129=>?_
    refine ⟨Sd.of (S128.trans S129) [] rfl,?_⟩
    exact G110 _ _ ⟨b28,A129,N129,C129,F.cut rfl,(S128.trans S129).pick [1,2,3,4,0] rfl⟩
   ·refine J02 (ok:=okS) (vs:=[]) F S128.at' (([]:List ByteArray)) ET_44 rfl rfl rfl rfl rfl rfl rfl rfl rfl (by simp) fun b131 _ w131 F S131=>?_
    refine ⟨Sd.of (S128.trans S131) [] rfl,?_⟩
    exact G114 _ _ ⟨b28,b131,F.cut rfl,(S128.trans S131).pick [1,2,3,4,0,5] rfl⟩
   refine Jf (v:=.slice x_Wa x_Wn x_Wc) F rfl rfl (JZ S128.at' 0 J0b rfl rfl (F.g rfl) rfl rfl (fun _=>rfl) rfl) rfl fun _ F=>?_
   refine ⟨Sd.of S128 [] rfl,?_⟩
   exact G118 _ _ ⟨b28,F.cut rfl,S128.pick [0,1,2,3,4] rfl⟩
  refine JR S23.at' (fun lZ aZ wZ=>∃ (b28 b56:Nat),Fr 31 [(18,.slice (aO b56) 0 0),(13,.slice (aO b28) 0 0),(20,pP b1 7),(15,pP b1 6),(2,pT b3),(1,pT b1)] aZ∧Mv lZ w23 (lZ++[qS (aO b56) 0 0 ([]:List ByteArray),qS (aO b28) 0 0 ([]:List ByteArray)]) wZ) #[yT,yT,yT,nF,nF,yT,yT,yT,nF,nF,nF,nF,nF] 7 ?_ (fun G134=>?_)
  ·rintro a134 w134 ⟨b28,b56,F,S134⟩
   have S134:Mv _ _ [bx _ [_,_,_,_,_,_,_,_,_,_] _,_,_,bx _ [_,_,_,_,_,_,_,_,_,_] _,_,_] _:=S134
   obtain ⟨Q65,Q115,Q165⟩:=At.ownInv S134.at' ET_55.hk 1 rfl
   obtain ⟨Q66,Q116,Q166⟩:=At.ownInv S134.at' ET_54.hk 2 rfl
   refine J0G (rs:=[3,8]) rfl zK (by simp) (Jz (i:=3) (listed':=#[yT,yT,yT,yT,nF,yT,yT,yT,nF,nF,nF,nF,nF]) rfl rfl ?_ (Jz (i:=8) (listed':=#[yT,yT,yT,nF,nF,yT,yT,yT,yT,nF,nF,nF,nF]) rfl rfl ?_ J0H))
   ·refine Jf (v:=.slice x_Ra x_Rn x_Rc) F rfl rfl (JZ S134.at' 0 J0b rfl rfl (F.g rfl) rfl rfl (fun _=>rfl) rfl) rfl fun _ F=>?_
    refine ⟨Sd.of S134 [] rfl,?_⟩
    exact G114 _ _ ⟨b28,b56,F.cut rfl,S134.pick [0,1,2,3,4,5] rfl⟩
   refine Jf (v:=.slice x_Wa x_Wn x_Wc) F rfl rfl (JZ S134.at' 0 J0b rfl rfl (F.g rfl) rfl rfl (fun _=>rfl) rfl) rfl fun _ F=>?_
   refine ⟨Sd.of S134 [] rfl,?_⟩
   exact G123 _ _ ⟨b28,b56,F.cut rfl,S134.pick [0,1,2,3,4,5] rfl⟩
  refine JR S23.at' (fun lZ aZ wZ=>∃ (b28:Nat),Fr 31 [(21,.slice x_Wa x_Wn x_Wc),(13,.slice (aO b28) 0 0),(15,pP b1 6),(2,pT b3),(1,pT b1)] aZ∧Mv lZ w23 (lZ++[qS (aO b28) 0 0 ([]:List ByteArray)]) wZ) #[yT,yT,yT,nF,nF,nF,yT,yT,yT,nF,nF,nF,nF] 7 ?_ (fun G137=>?_)
  ·rintro a137 w137 ⟨b28,F,S137⟩
   have S137:Mv _ _ [bx _ [_,_,_,_,_,_,_,_,_,_] _,_,_,bx _ [_,_,_,_,_,_,_,_,_,_] _,_] _:=S137
   obtain ⟨Q67,Q117,Q167⟩:=At.ownInv S137.at' ET_55.hk 1 rfl
   obtain ⟨Q68,Q118,Q168⟩:=At.ownInv S137.at' ET_54.hk 2 rfl
   refine J0G (rs:=[3,5]) rfl zK (by simp) (Jz (i:=3) (listed':=#[yT,yT,yT,yT,nF,nF,yT,yT,yT,nF,nF,nF,nF]) rfl rfl ?_ (Jz (i:=5) (listed':=#[yT,yT,yT,nF,nF,yT,yT,yT,yT,nF,nF,nF,nF]) rfl rfl ?_ J0H))
   ·refine Jf (v:=.slice x_Ra x_Rn x_Rc) F rfl rfl (JZ S137.at' 0 J0b rfl rfl (F.g rfl) rfl rfl (fun _=>rfl) rfl) rfl fun _ F=>?_
    refine ⟨Sd.of S137 [] rfl,?_⟩
    exact G118 _ _ ⟨b28,F.cut rfl,S137.pick [0,1,2,3,4] rfl⟩
   refine J02 (ok:=okS) (vs:=[]) F S137.at' (([]:List ByteArray)) ET_44 rfl rfl rfl rfl rfl rfl rfl rfl rfl (by simp) fun b139 _ w139 F S139=>?_
   refine ⟨Sd.of (S137.trans S139) [] rfl,?_⟩
   exact G123 _ _ ⟨b28,b139,F.cut rfl,(S137.trans S139).pick [1,2,3,4,0,5] rfl⟩
  refine JR S23.at' (fun lZ aZ wZ=>∃ (b68:Nat),Fr 31 [(18,.slice (aO b68) 0 0),(16,.slice x_Ra x_Rn x_Rc),(20,pP b1 7),(2,pT b3),(1,pT b1)] aZ∧Mv lZ w23 (lZ++[qS (aO b68) 0 0 ([]:List ByteArray)]) wZ) #[nF,yT,yT,yT,nF,yT,yT,yT,nF,nF,nF,nF,nF] 7 ?_ (fun G141=>?_)
  ·rintro a141 w141 ⟨b68,F,S141⟩
   have S141:Mv _ _ [bx _ [_,_,_,_,_,_,_,_,_,_] _,_,_,bx _ [_,_,_,_,_,_,_,_,_,_] _,_] _:=S141
   obtain ⟨Q69,Q119,Q169⟩:=At.ownInv S141.at' ET_55.hk 1 rfl
   obtain ⟨Q70,Q120,Q170⟩:=At.ownInv S141.at' ET_54.hk 2 rfl
   refine J0G (rs:=[0,8]) rfl zK (by simp) (Jz (i:=0) (listed':=#[yT,yT,yT,yT,nF,yT,yT,yT,nF,nF,nF,nF,nF]) rfl rfl ?_ (Jz (i:=8) (listed':=#[nF,yT,yT,yT,nF,yT,yT,yT,yT,nF,nF,nF,nF]) rfl rfl ?_ J0H))
   ·refine J02 (ok:=okS) (vs:=[]) F S141.at' (([]:List ByteArray)) ET_44 rfl rfl rfl rfl rfl rfl rfl rfl rfl (by simp) fun b142 _ w142 F S142=>?_
    refine ⟨Sd.of (S141.trans S142) [] rfl,?_⟩
    exact G114 _ _ ⟨b142,b68,F.cut rfl,(S141.trans S142).pick [1,2,3,4,5,0] rfl⟩
   refine Jf (v:=.slice x_Wa x_Wn x_Wc) F rfl rfl (JZ S141.at' 0 J0b rfl rfl (F.g rfl) rfl rfl (fun _=>rfl) rfl) rfl fun _ F=>?_
   refine ⟨Sd.of S141 [] rfl,?_⟩
   exact G125 _ _ ⟨b68,F.cut rfl,S141.pick [0,1,2,3,4] rfl⟩
  refine JR S23.at' (fun lZ aZ wZ=>Fr 31 [(21,.slice x_Wa x_Wn x_Wc),(16,.slice x_Ra x_Rn x_Rc),(2,pT b3),(1,pT b1)] aZ∧Mv lZ w23 lZ wZ) #[nF,yT,yT,yT,nF,nF,yT,yT,yT,nF,nF,nF,nF] 7 ?_ (fun G145=>?_)
  ·rintro a145 w145 ⟨F,S145⟩
   obtain ⟨Q71,Q121,Q171⟩:=At.ownInv S145.at' ET_55.hk 1 rfl
   obtain ⟨Q72,Q122,Q172⟩:=At.ownInv S145.at' ET_54.hk 2 rfl
   refine J0G (rs:=[0,5]) rfl zK (by simp) (Jz (i:=0) (listed':=#[yT,yT,yT,yT,nF,nF,yT,yT,yT,nF,nF,nF,nF]) rfl rfl ?_ (Jz (i:=5) (listed':=#[nF,yT,yT,yT,nF,yT,yT,yT,yT,nF,nF,nF,nF]) rfl rfl ?_ J0H))
   ·refine J02 (ok:=okS) (vs:=[]) F S145.at' (([]:List ByteArray)) ET_44 rfl rfl rfl rfl rfl rfl rfl rfl rfl (by simp) fun b146 _ w146 F S146=>?_
    refine ⟨Sd.of (S145.trans S146) [] rfl,?_⟩
    exact G118 _ _ ⟨b146,F.cut rfl,(S145.trans S146).pick [1,2,3,4,0] rfl⟩
   refine J02 (ok:=okS) (vs:=[]) F S145.at' (([]:List ByteArray)) ET_44 rfl rfl rfl rfl rfl rfl rfl rfl rfl (by simp) fun b148 _ w148 F S148=>?_
   refine ⟨Sd.of (S145.trans S148) [] rfl,?_⟩
   exact G125 _ _ ⟨b148,F.cut rfl,(S145.trans S148).pick [1,2,3,4,0] rfl⟩
  refine JR S23.at' (fun lZ aZ wZ=>∃ (b80:Nat),Fr 31 [(21,.slice x_Wa x_Wn x_Wc),(18,.slice (aO b80) 0 0),(15,pP b1 6),(2,pT b3),(1,pT b1)] aZ∧Mv lZ w23 (lZ++[qS (aO b80) 0 0 ([]:List ByteArray)]) wZ) #[nF,yT,yT,nF,nF,yT,yT,yT,yT,nF,nF,nF,nF] 7 ?_ (fun G150=>?_)
  ·rintro a150 w150 ⟨b80,F,S150⟩
   have S150:Mv _ _ [bx _ [_,_,_,_,_,_,_,_,_,_] _,_,_,bx _ [_,_,_,_,_,_,_,_,_,_] _,_] _:=S150
   obtain ⟨Q73,Q123,Q173⟩:=At.ownInv S150.at' ET_55.hk 1 rfl
   obtain ⟨Q74,Q124,Q174⟩:=At.ownInv S150.at' ET_54.hk 2 rfl
   refine J0G (rs:=[0,3]) rfl zK (by simp) (Jz (i:=0) (listed':=#[yT,yT,yT,nF,nF,yT,yT,yT,yT,nF,nF,nF,nF]) rfl rfl ?_ (Jz (i:=3) (listed':=#[nF,yT,yT,yT,nF,yT,yT,yT,yT,nF,nF,nF,nF]) rfl rfl ?_ J0H))
   ·refine J02 (ok:=okS) (vs:=[]) F S150.at' (([]:List ByteArray)) ET_44 rfl rfl rfl rfl rfl rfl rfl rfl rfl (by simp) fun b151 _ w151 F S151=>?_
    refine ⟨Sd.of (S150.trans S151) [] rfl,?_⟩
    exact G123 _ _ ⟨b151,b80,F.cut rfl,(S150.trans S151).pick [1,2,3,4,5,0] rfl⟩
   refine Jf (v:=.slice x_Ra x_Rn x_Rc) F rfl rfl (JZ S150.at' 0 J0b rfl rfl (F.g rfl) rfl rfl (fun _=>rfl) rfl) rfl fun _ F=>?_
   refine ⟨Sd.of S150 [] rfl,?_⟩
   exact G125 _ _ ⟨b80,F.cut rfl,S150.pick [0,1,2,3,4] rfl⟩
  refine JR S23.at' (fun lZ aZ wZ=>∃ (b28:Nat),Fr 31 [(13,.slice (aO b28) 0 0),(20,pP b1 7),(15,pP b1 6),(2,pT b3),(1,pT b1)] aZ∧Mv lZ w23 (lZ++[qS (aO b28) 0 0 ([]:List ByteArray)]) wZ) #[yT,yT,yT,nF,nF,nF,yT,yT,nF,nF,nF,nF,nF] 8 ?_ (fun G154=>?_)
  ·rintro a154 w154 ⟨b28,F,S154⟩
   have S154:Mv _ _ [bx _ [_,_,_,_,_,_,_,_,_,_] _,_,_,bx _ [_,_,_,_,_,_,_,_,_,_] _,_] _:=S154
   obtain ⟨Q75,Q125,Q175⟩:=At.ownInv S154.at' ET_55.hk 1 rfl
   obtain ⟨Q76,Q126,Q176⟩:=At.ownInv S154.at' ET_54.hk 2 rfl
   refine J0G (rs:=[3,5,8]) rfl zK (by simp) (Jz (i:=3) (listed':=#[yT,yT,yT,yT,nF,nF,yT,yT,nF,nF,nF,nF,nF]) rfl rfl ?_ (Jz (i:=5) (listed':=#[yT,yT,yT,nF,nF,yT,yT,yT,nF,nF,nF,nF,nF]) rfl rfl ?_ (Jz (i:=8) (listed':=#[yT,yT,yT,nF,nF,nF,yT,yT,yT,nF,nF,nF,nF]) rfl rfl ?_ J0H)))
   ·refine Jf (v:=.slice x_Ra x_Rn x_Rc) F rfl rfl (JZ S154.at' 0 J0b rfl rfl (F.g rfl) rfl rfl (fun _=>rfl) rfl) rfl fun _ F=>?_
    refine ⟨Sd.of S154 [] rfl,?_⟩
    exact G128 _ _ ⟨b28,F.cut rfl,S154.pick [0,1,2,3,4] rfl⟩
   ·refine J02 (ok:=okS) (vs:=[]) F S154.at' (([]:List ByteArray)) ET_44 rfl rfl rfl rfl rfl rfl rfl rfl rfl (by simp) fun b156 _ w156 F S156=>?_
    refine ⟨Sd.of (S154.trans S156) [] rfl,?_⟩
    exact G134 _ _ ⟨b28,b156,F.cut rfl,(S154.trans S156).pick [1,2,3,4,0,5] rfl⟩
   refine Jf (v:=.slice x_Wa x_Wn x_Wc) F rfl rfl (JZ S154.at' 0 J0b rfl rfl (F.g rfl) rfl rfl (fun _=>rfl) rfl) rfl fun _ F=>?_
   refine ⟨Sd.of S154 [] rfl,?_⟩
   exact G137 _ _ ⟨b28,F.cut rfl,S154.pick [0,1,2,3,4] rfl⟩
  refine JR S23.at' (fun lZ aZ wZ=>Fr 31 [(16,.slice x_Ra x_Rn x_Rc),(20,pP b1 7),(2,pT b3),(1,pT b1)] aZ∧Mv lZ w23 lZ wZ) #[nF,yT,yT,yT,nF,nF,yT,yT,nF,nF,nF,nF,nF] 8 ?_ (fun G159=>?_)
  ·rintro a159 w159 ⟨F,S159⟩
   obtain ⟨Q77,Q127,Q177⟩:=At.ownInv S159.at' ET_55.hk 1 rfl
   obtain ⟨Q78,Q128,Q178⟩:=At.ownInv S159.at' ET_54.hk 2 rfl
   refine J0G (rs:=[0,5,8]) rfl zK (by simp) (Jz (i:=0) (listed':=#[yT,yT,yT,yT,nF,nF,yT,yT,nF,nF,nF,nF,nF]) rfl rfl ?_ (Jz (i:=5) (listed':=#[nF,yT,yT,yT,nF,yT,yT,yT,nF,nF,nF,nF,nF]) rfl rfl ?_ (Jz (i:=8) (listed':=#[nF,yT,yT,yT,nF,nF,yT,yT,yT,nF,nF,nF,nF]) rfl rfl ?_ J0H)))
   ·refine J02 (ok:=okS) (vs:=[]) F S159.at' (([]:List ByteArray)) ET_44 rfl rfl rfl rfl rfl rfl rfl rfl rfl (by simp) fun b160 _ w160 F S160=>?_
    refine ⟨Sd.of (S159.trans S160) [] rfl,?_⟩
    exact G128 _ _ ⟨b160,F.cut rfl,(S159.trans S160).pick [1,2,3,4,0] rfl⟩
   ·refine J02 (ok:=okS) (vs:=[]) F S159.at' (([]:List ByteArray)) ET_44 rfl rfl rfl rfl rfl rfl rfl rfl rfl (by simp) fun b162 _ w162 F S162=>?_
    refine ⟨Sd.of (S159.trans S162) [] rfl,?_⟩
    exact G141 _ _ ⟨b162,F.cut rfl,(S159.trans S162).pick [1,2,3,4,0] rfl⟩
   refine Jf (v:=.slice x_Wa x_Wn x_Wc) F rfl rfl (JZ S159.at' 0 J0b rfl rfl (F.g rfl) rfl rfl (fun _=>rfl) rfl) rfl fun _ F=>?_
   refine ⟨Sd.of S159 [] rfl,?_⟩
   exact G145 _ _ ⟨F.cut rfl,S159.pick [0,1,2,3] rfl⟩
  refine JR S23.at' (fun lZ aZ wZ=>∃ (b80:Nat),Fr 31 [(18,.slice (aO b80) 0 0),(20,pP b1 7),(15,pP b1 6),(2,pT b3),(1,pT b1)] aZ∧Mv lZ w23 (lZ++[qS (aO b80) 0 0 ([]:List ByteArray)]) wZ) #[nF,yT,yT,nF,nF,yT,yT,yT,nF,nF,nF,nF,nF] 8 ?_ (fun G165=>?_)
  ·rintro a165 w165 ⟨b80,F,S165⟩
   have S165:Mv _ _ [bx _ [_,_,_,_,_,_,_,_,_,_] _,_,_,bx _ [_,_,_,_,_,_,_,_,_,_] _,_] _:=S165
   obtain ⟨Q79,Q129,Q179⟩:=At.ownInv S165.at' ET_55.hk 1 rfl
   obtain ⟨Q80,Q130,Q180⟩:=At.ownInv S165.at' ET_54.hk 2 rfl
   refine J0G (rs:=[0,3,8]) rfl zK (by simp) (Jz (i:=0) (listed':=#[yT,yT,yT,nF,nF,yT,yT,yT,nF,nF,nF,nF,nF]) rfl rfl ?_ (Jz (i:=3) (listed':=#[nF,yT,yT,yT,nF,yT,yT,yT,nF,nF,nF,nF,nF]) rfl rfl ?_ (Jz (i:=8) (listed':=#[nF,yT,yT,nF,nF,yT,yT,yT,yT,nF,nF,nF,nF]) rfl rfl ?_ J0H)))
   ·refine J02 (ok:=okS) (vs:=[]) F S165.at' (([]:List ByteArray)) ET_44 rfl rfl rfl rfl rfl rfl rfl rfl rfl (by simp) fun b166 _ w166 F S166=>?_
    refine ⟨Sd.of (S165.trans S166) [] rfl,?_⟩
    exact G134 _ _ ⟨b166,b80,F.cut rfl,(S165.trans S166).pick [1,2,3,4,5,0] rfl⟩
   ·refine Jf (v:=.slice x_Ra x_Rn x_Rc) F rfl rfl (JZ S165.at' 0 J0b rfl rfl (F.g rfl) rfl rfl (fun _=>rfl) rfl) rfl fun _ F=>?_
    refine ⟨Sd.of S165 [] rfl,?_⟩
    exact G141 _ _ ⟨b80,F.cut rfl,S165.pick [0,1,2,3,4] rfl⟩
   refine Jf (v:=.slice x_Wa x_Wn x_Wc) F rfl rfl (JZ S165.at' 0 J0b rfl rfl (F.g rfl) rfl rfl (fun _=>rfl) rfl) rfl fun _ F=>?_
   refine ⟨Sd.of S165 [] rfl,?_⟩
   exact G150 _ _ ⟨b80,F.cut rfl,S165.pick [0,1,2,3,4] rfl⟩
  refine JR S23.at' (fun lZ aZ wZ=>Fr 31 [(21,.slice x_Wa x_Wn x_Wc),(15,pP b1 6),(2,pT b3),(1,pT b1)] aZ∧Mv lZ w23 lZ wZ) #[nF,yT,yT,nF,nF,nF,yT,yT,yT,nF,nF,nF,nF] 8 ?_ (fun G170=>?_)
  ·rintro a170 w170 ⟨F,S170⟩
   obtain ⟨Q81,Q131,Q181⟩:=At.ownInv S170.at' ET_55.hk 1 rfl
   obtain ⟨Q82,Q132,Q182⟩:=At.ownInv S170.at' ET_54.hk 2 rfl
   refine J0G (rs:=[0,3,5]) rfl zK (by simp) (Jz (i:=0) (listed':=#[yT,yT,yT,nF,nF,nF,yT,yT,yT,nF,nF,nF,nF]) rfl rfl ?_ (Jz (i:=3) (listed':=#[nF,yT,yT,yT,nF,nF,yT,yT,yT,nF,nF,nF,nF]) rfl rfl ?_ (Jz (i:=5) (listed':=#[nF,yT,yT,nF,nF,yT,yT,yT,yT,nF,nF,nF,nF]) rfl rfl ?_ J0H)))
   ·refine J02 (ok:=okS) (vs:=[]) F S170.at' (([]:List ByteArray)) ET_44 rfl rfl rfl rfl rfl rfl rfl rfl rfl (by simp) fun b171 _ w171 F S171=>?_
    refine ⟨Sd.of (S170.trans S171) [] rfl,?_⟩
    exact G137 _ _ ⟨b171,F.cut rfl,(S170.trans S171).pick [1,2,3,4,0] rfl⟩
   ·refine Jf (v:=.slice x_Ra x_Rn x_Rc) F rfl rfl (JZ S170.at' 0 J0b rfl rfl (F.g rfl) rfl rfl (fun _=>rfl) rfl) rfl fun _ F=>?_
    refine ⟨Sd.of S170 [] rfl,?_⟩
    exact G145 _ _ ⟨F.cut rfl,S170.pick [0,1,2,3] rfl⟩
   refine J02 (ok:=okS) (vs:=[]) F S170.at' (([]:List ByteArray)) ET_44 rfl rfl rfl rfl rfl rfl rfl rfl rfl (by simp) fun b174 _ w174 F S174=>?_
   refine ⟨Sd.of (S170.trans S174) [] rfl,?_⟩
   exact G150 _ _ ⟨b174,F.cut rfl,(S170.trans S174).pick [1,2,3,4,0] rfl⟩
  refine JR S23.at' (fun lZ aZ wZ=>Fr 31 [(20,pP b1 7),(15,pP b1 6),(2,pT b3),(1,pT b1)] aZ∧Mv lZ w23 lZ wZ) #[nF,yT,yT,nF,nF,nF,yT,yT,nF,nF,nF,nF,nF] 9 ?_ (fun G176=>?_)
  ·rintro a176 w176 ⟨F,S176⟩
   obtain ⟨Q83,Q133,Q183⟩:=At.ownInv S176.at' ET_55.hk 1 rfl
   obtain ⟨Q84,Q134,Q184⟩:=At.ownInv S176.at' ET_54.hk 2 rfl
   refine J0G (rs:=[0,3,5,8]) rfl zK (by simp) (Jz (i:=0) (listed':=#[yT,yT,yT,nF,nF,nF,yT,yT,nF,nF,nF,nF,nF]) rfl rfl ?_ (Jz (i:=3) (listed':=#[nF,yT,yT,yT,nF,nF,yT,yT,nF,nF,nF,nF,nF]) rfl rfl ?_ (Jz (i:=5) (listed':=#[nF,yT,yT,nF,nF,yT,yT,yT,nF,nF,nF,nF,nF]) rfl rfl ?_ (Jz (i:=8) (listed':=#[nF,yT,yT,nF,nF,nF,yT,yT,yT,nF,nF,nF,nF]) rfl rfl ?_ J0H))))
   ·refine J02 (ok:=okS) (vs:=[]) F S176.at' (([]:List ByteArray)) ET_44 rfl rfl rfl rfl rfl rfl rfl rfl rfl (by simp) fun b177 _ w177 F S177=>?_
    refine ⟨Sd.of (S176.trans S177) [] rfl,?_⟩
    exact G154 _ _ ⟨b177,F.cut rfl,(S176.trans S177).pick [1,2,3,4,0] rfl⟩
   ·refine Jf (v:=.slice x_Ra x_Rn x_Rc) F rfl rfl (JZ S176.at' 0 J0b rfl rfl (F.g rfl) rfl rfl (fun _=>rfl) rfl) rfl fun _ F=>?_
    refine ⟨Sd.of S176 [] rfl,?_⟩
    exact G159 _ _ ⟨F.cut rfl,S176.pick [0,1,2,3] rfl⟩
   ·refine J02 (ok:=okS) (vs:=[]) F S176.at' (([]:List ByteArray)) ET_44 rfl rfl rfl rfl rfl rfl rfl rfl rfl (by simp) fun b180 _ w180 F S180=>?_
    refine ⟨Sd.of (S176.trans S180) [] rfl,?_⟩
    exact G165 _ _ ⟨b180,F.cut rfl,(S176.trans S180).pick [1,2,3,4,0] rfl⟩
   refine Jf (v:=.slice x_Wa x_Wn x_Wc) F rfl rfl (JZ S176.at' 0 J0b rfl rfl (F.g rfl) rfl rfl (fun _=>rfl) rfl) rfl fun _ F=>?_
   refine ⟨Sd.of S176 [] rfl,?_⟩
   exact G170 _ _ ⟨F.cut rfl,S176.pick [0,1,2,3] rfl⟩
  refine J0o F rfl (i:=1) (listed':=#[nF,yT,nF,nF,nF,nF,nF,nF,nF,nF,nF,nF,nF]) rfl zK zK zK (fun _ _ _ h=>h) (Sd.of (Mv.refl S23.at') [] rfl) rfl rfl rfl rfl (fun _ hz=>(J13 FIc.h rfl (F.g rfl) rfl)) fun _ F=>?_
  refine J0o F rfl (i:=2) (listed':=#[nF,yT,yT,nF,nF,nF,nF,nF,nF,nF,nF,nF,nF]) rfl zK zK zK (fun _ _ _ h=>h) (Sd.of (Mv.refl S23.at') [] rfl) rfl rfl rfl rfl (fun _ hz=>(J13 FIc.h rfl (F.g rfl) rfl)) fun _ F=>?_
  refine J0o F rfl (i:=6) (listed':=#[nF,yT,yT,nF,nF,nF,yT,nF,nF,nF,nF,nF,nF]) rfl zK zK zK (fun _ _ _ h=>h) (Sd.of (Mv.refl S23.at') [] rfl) rfl rfl rfl rfl (fun _ hz=>(J13 FIc.h rfl (F.g rfl) rfl)) fun _ F=>?_
  refine J0o F rfl (i:=7) (listed':=#[nF,yT,yT,nF,nF,nF,yT,yT,nF,nF,nF,nF,nF]) rfl zK zK zK (fun _ _ _ h=>h) (Sd.of (Mv.refl S23.at') [] rfl) rfl rfl rfl rfl (fun _ hz=>(J13 FIc.h rfl (F.g rfl) rfl)) fun _ F=>?_
  exact G176 _ _ ⟨F.cut rfl,(Mv.refl S23.at').pick [0,1,2,3] rfl⟩
 rintro a187 w187 ⟨b28,A31,N31,C31,b33,A36,N36,C36,F,S187⟩
 have S187:Mv _ _ [bx _ [_,_,_,_,_,_,_,_,_,_] _,_,_,bx _ [_,_,_,_,_,_,_,_,_,_] _,_,_] _:=S187
 obtain ⟨Q85,Q135,Q185⟩:=At.ownInv S187.at' ET_44.hk 4 rfl
 obtain ⟨Q86,Q136,Q186⟩:=At.ownInv S187.at' ET_44.hk 5 rfl
 refine zr fun _ F=>?_
 refine zbs (ok:=okI) F S187.at' (([]:List Int)) ET_47 (by simp) fun b188 w188 S188 _ F=>?_
 refine zl F S188.at' 1 fun _ F=>?_
 refine J0 (Jv (news:=x.marks) F S188.at' 0 ET_47 rfl rfl rfl rfl rfl rfl (F.g rfl) (F.g rfl) ((Rd.mq V_v_x_marks (J0X S1 S3 S5 S9 T13 S14 S18 S21 S187 S188))).1 (by ((repeat (first|rw [List.length_append]|rw [List.length_cons]|rw [List.length_nil]|rw [List.length_take]|rw [List.length_drop])) <;> omega)) fun A192 N192 C192 _ w192 F S192 l192=>?_)
 refine zr fun _ F=>?_
 refine zst F S192.at' 1 fun w195 S195 _ F=>?_
 have T196:Mv _ _ [bx _ [_,_,_,_,_,_,_,_,_,_] _,_,_,_,bx _ [_,_,_,_,_,_,_,_,_,_] _,_,_] _:=S195
 refine zw F T196.at' 0 fun _ F=>?_
 refine zst F T196.at' 4 fun w198 S198 _ F=>?_
 refine zdc F S198.at' 0 ?_
 exact ⟨A9,N9,C9,A18,N18,C18,A31,N31,C31,A36,N36,C36,A192,N192,C192,rfl,(Mv.cast (Mv.pick (JE S1 S3 S5 S9 T13 S14 S18 S21 S187 S188 S192 (T196.trans S198)) [4,3,5,6,2] rfl) (lc (zOw yCb) (lc (zOw yCb) (lc (zOw yCb) (lc (zOw yCb) (lc (zOw yCb) rfl))))))⟩
theorem Jdm {x:TxD} {Q43:Option Addr} {Q45 Q44:Nat} {Q40:Option Addr} {Q42 Q41:Nat} {x_Ra:Option Addr} {x_Rn x_Rc:Nat} {x_Wa:Option Addr} {x_Wn x_Wc:Nat} {Q46:Option Addr} {Q48 Q47:Nat} (Q3:J1 x.id) (Q1:J1 x.age) (Q4:J1 x.proc) (Q2:J1 x.began) (Q36:Rd 6 J16 okK H w (.slice Q43 Q45 Q44) x.calls) (Q35:Rd 3 J0x okR H w (.slice Q40 Q42 Q41) x.answers) (Q38:Rd 1 J3 okS H w (.slice x_Ra x_Rn x_Rc) x.touch.reads) (Q39:Rd 1 J3 okS H w (.slice x_Wa x_Wn x_Wc) x.touch.writes) (Q37:Rd 1 J0w okI H w (.slice Q46 Q48 Q47) x.marks) (Q5:J1 x.state) (p0:x.calls.length≤6000000000) (p1:x.answers.length≤6000000000) (p2:x.touch.reads.length≤6000000000) (p3:x.touch.writes.length≤6000000000) (p4:x.marks.length≤6000000000) :
 Calls prog 196 #[.agg #[iV x.id,iV x.age,iV x.proc,iV x.began,.slice Q43 Q45 Q44,.slice Q40 Q42 Q41,.slice x_Ra x_Rn x_Rc,.slice x_Wa x_Wn x_Wc,.slice Q46 Q48 Q47,iV x.state]] w fun e w'=>∃ (Q27:Option Addr)(Q29 Q28:Nat)(Q24:Option Addr)(Q26 Q25:Nat)(Q18:Option Addr)(Q20 Q19:Nat)(Q21:Option Addr)(Q23 Q22:Nat)(Q30:Option Addr)(Q34 Q32:Nat),e=.returned (.tuple #[.agg #[iV (txM x).id,iV (txM x).age,iV (txM x).proc,iV (txM x).began,.slice Q27 Q29 Q28,.slice Q24 Q26 Q25,.slice Q18 Q20 Q19,.slice Q21 Q23 Q22,.slice Q30 Q34 Q32,iV (txM x).state],iV ((txN x:Nat):Int)])∧Mv [] w [qK Q27 Q29 Q28 (txM x).calls,qR Q24 Q26 Q25 (txM x).answers,qS Q18 Q20 Q19 (txM x).touch.reads,qS Q21 Q23 Q22 (txM x).touch.writes,qI Q30 Q34 Q32 (txM x).marks] w'∧J1 (txM x).id∧J1 (txM x).age∧J1 (txM x).proc∧J1 (txM x).began∧J1 (txM x).state:=by
 have V_v_x_calls:=Rd.start Q36 zN
 obtain ⟨Q55,Q50,Q75,Q80⟩:=Rd.inv Q36
 have V_v_x_answers:=Rd.start Q35 zN
 obtain ⟨Q54,Q49,Q74,Q79⟩:=Rd.inv Q35
 have V_v_x_touch_reads:=Rd.start Q38 zN
 obtain ⟨Q57,Q52,Q77,Q82⟩:=Rd.inv Q38
 have V_v_x_touch_writes:=Rd.start Q39 zN
 obtain ⟨Q58,Q53,Q78,Q83⟩:=Rd.inv Q39
 have V_v_x_marks:=Rd.start Q37 zN
 obtain ⟨Q56,Q51,Q76,Q81⟩:=Rd.inv Q37
 refine ze fun _ F=>?_
 refine zbx F (At.nil w) fun b1 w1 S1 _ F=>?_
 refine zal F S1.at' J1t fun b3 w3 S3 _ F=>?_
 refine zw F S3.at' 1 fun _ F=>?_
 refine zz F (J8c (x:=x) yf yf yf yf (Rd.mq V_v_x_calls (S1.trans S3)) (Rd.mq V_v_x_answers (S1.trans S3)) (Rd.mq V_v_x_touch_reads (S1.trans S3)) (Rd.mq V_v_x_touch_writes (S1.trans S3)) (Rd.mq V_v_x_marks (S1.trans S3)) yf yb yb yb yb yb) ?_
 rintro _ w7 ⟨Q15,Q0,Q16,Q12,Q14,Q13,Q6,Q8,Q7,Q9,Q11,Q10,Q31,Q17,Q33,rfl,m7⟩
 refine zt fun _ F=>?_
 have S7:Mv _ _ [_,_,_,_,_,bx _ [_,_,_,_,_,_,_,_,_,_] _,bx _ [_,_,_,_,_,_,_,_,_,_] _] _:=At.frame S3.at' [] rfl m7
 obtain ⟨Q59,Q64,Q69⟩:=At.ownInv S7.at' ET_54.hk 0 rfl
 obtain ⟨Q60,Q65,Q70⟩:=At.ownInv S7.at' ET_55.hk 1 rfl
 obtain ⟨Q61,Q66,Q71⟩:=At.ownInv S7.at' ET_44.hk 2 rfl
 obtain ⟨Q62,Q67,Q72⟩:=At.ownInv S7.at' ET_44.hk 3 rfl
 obtain ⟨Q63,Q68,Q73⟩:=At.ownInv S7.at' ET_47.hk 4 rfl
 refine zst F S7.at' 6 fun w9 S9 _ F=>?_
 have T10:Mv _ _ [bx _ [_,_,_,_,_,_,_,_,_,_] _,_,_,_,_,_,bx _ [_,_,_,_,_,_,_,_,_,_] _] _:=S9
 refine zl F T10.at' 0 fun _ F=>?_
 refine zc F (x.state≠1) fun _ F=>?_
 rcases Decidable.em (x.state≠1) with h15|h15
 ·rw [decide_eq_true h15] at F
  refine zr fun _ F=>?_
  refine zw F T10.at' 0 fun _ F=>?_
  refine zst F T10.at' 6 fun w22 S22 _ F=>?_
  refine zde F S22.at' 0 ?_
  exact ⟨Q15,Q0,Q16,Q12,Q14,Q13,Q6,Q8,Q7,Q9,Q11,Q10,Q31,Q17,Q33,(zV1 (zVt (lc (zVa (lc (zVi yh) (lc (zVi yh) (lc (zVi yh) (lc (zVi yh) (lc rfl (lc rfl (lc rfl (lc rfl (lc rfl (lc (zVi yh) rfl))))))))))) (lc (zVi yh) rfl)))),(Mv.cast (Mv.pick (tc5 S1 S3 S7 T10 S22) [2,3,4,5,6] rfl) (lc (zOw yh) (lc (zOw yh) (lc (zOw yh) (lc (zOw yh) (lc (zOw yh) rfl)))))),by rw [(J1o x).1];exact Q3,by rw [(J1o x).2.1];exact Q1,by rw [(J1o x).2.2.1];exact Q4,by rw [(J1o x).2.2.2.1];exact Q2,by rw [(J1o x).2.2.2.2];exact Q5⟩
 rw [decide_eq_false h15] at F
 refine zr fun _ F=>?_
 refine zl F T10.at' 0 fun _ F=>?_
 refine zc F (Q17 ≥ 4) fun _ F=>?_
 refine zi F (fun h29=>?_) fun h29=>?_
 ·refine zr fun _ F=>?_
  refine zw F T10.at' 0 fun _ F=>?_
  refine zst F T10.at' 6 fun w31 S31 _ F=>?_
  refine zde F S31.at' 0 ?_
  exact ⟨Q15,Q0,Q16,Q12,Q14,Q13,Q6,Q8,Q7,Q9,Q11,Q10,Q31,Q17,Q33,(zV1 (zVt (lc (zVa (lc (zVi yh) (lc (zVi yh) (lc (zVi yh) (lc (zVi yh) (lc rfl (lc rfl (lc rfl (lc rfl (lc rfl (lc (zVi yh) rfl))))))))))) (lc (zVi yh) rfl)))),(Mv.cast (Mv.pick (tc5 S1 S3 S7 T10 S31) [2,3,4,5,6] rfl) (lc (zOw yh) (lc (zOw yh) (lc (zOw yh) (lc (zOw yh) (lc (zOw yh) rfl)))))),by rw [(J1o x).1];exact Q3,by rw [(J1o x).2.1];exact Q1,by rw [(J1o x).2.2.1];exact Q4,by rw [(J1o x).2.2.2.1];exact Q2,by rw [(J1o x).2.2.2.2];exact Q5⟩
 refine zr fun _ F=>?_
 refine zl F T10.at' 0 fun _ F=>?_
 refine zl F T10.at' 0 fun _ F=>?_
 refine zbs (ok:=okI) F T10.at' ([((Q0:Nat):Int)]) ET_47 (fun x hx=>(List.mem_singleton.1 hx) ▸ ⟨zO,zO⟩) fun b38 w38 S38 _ F=>?_
 refine J0 (Jv (news:=[((Q0:Nat):Int)]) F S38.at' 6 ET_47 rfl rfl rfl rfl rfl rfl (F.g rfl) (F.g rfl) ((At.rd S38.at' ET_47.hk 0 rfl)).1 (by ((repeat (first|rw [List.length_append]|rw [List.length_cons]|rw [List.length_nil]|rw [List.length_take]|rw [List.length_drop])) <;> omega)) fun A40 N40 C40 _ w40 F S40 l40=>?_)
 have S42:=At.drop S40.at' 1
 refine zr fun _ F=>?_
 refine zst F S42.at' 1 fun w44 S44 _ F=>?_
 have T45:Mv _ _ [bx _ [_,_,_,_,_,_,_,_,_,_] _,_,_,_,_,_,bx _ [_,_,_,_,_,_,_,_,_,_] _] _:=S44
 refine J1K [] [0,1,2,3,4,5] T45.at' [0] zK fun w47 S47 hS=>?_
 refine zg fun _ F=>?_
 refine Jr F rfl rfl (fun _=>(J4f underlying47 rfl (F.g rfl))) fun _ F=>?_
 refine J2 rfl rfl (J0C S47.at' 6 J2P rfl rfl rfl rfl rfl (F.g rfl) (F.g rfl) rfl rfl rfl rfl rfl fun w52 S52=>?_)
 refine nS (Sd.of S52 [1] rfl) fun hS=>?_
 refine zg fun _ F=>?_
 refine zde F S52.at' 0 ?_
 exact ⟨Q15,Q0,Q16,Q12,Q14,Q13,Q6,Q8,Q7,Q9,Q11,Q10,A40,N40,C40,(zV1 (zVt (lc (zVa (lc (zVi yh) (lc (zVi yh) (lc (zVi yh) (lc (zVi yh) (lc rfl (lc rfl (lc rfl (lc rfl (lc rfl (lc (zVi yh) rfl))))))))))) (lc (zVi yh) rfl)))),(Mv.cast (Mv.pick (J0X S1 S3 S7 T10 S38 S40 S42 T45 S47 S52) [3,4,5,6,2] rfl) (lc (zOw yh) (lc (zOw yh) (lc (zOw yh) (lc (zOw yh) (lc (zOw yh) rfl)))))),by rw [(J1o x).1];exact Q3,by rw [(J1o x).2.1];exact Q1,by rw [(J1o x).2.2.1];exact Q4,by rw [(J1o x).2.2.2.1];exact Q2,by rw [(J1o x).2.2.2.2];exact Q5⟩
end Go.Proofs.YtipdbeklopjbmaaGreatDoor
