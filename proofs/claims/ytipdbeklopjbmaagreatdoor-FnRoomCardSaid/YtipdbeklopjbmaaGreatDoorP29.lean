/-
  Texts laid together: GenRt, GenRu.
-/
import Derived.Test.YtipdbeklopjbmaaGreatDoorP27
import Derived.Test.YtipdbeklopjbmaaGreatDoorMT
set_option linter.unusedVariables false
set_option linter.unusedSimpArgs false
namespace Go.Proofs.YtipdbeklopjbmaaGreatDoor
open Go.ChangeShapes Go.WideShapes Go.ChangeAt Go.RowKit Go.Proofs.Tryz
section
variable {w:World} {H:Nat→Prop}
set_option maxRecDepth 100000
set_option maxHeartbeats 1000000
theorem J8w {s:List CellD} {s_a:Option Addr} {s_n s_c:Nat} {x:TxD} {Q12:Option Addr} {Q14 Q13:Nat} {Q9:Option Addr} {Q11 Q10:Nat} {x_Ra:Option Addr} {x_Rn x_Rc:Nat} {x_Wa:Option Addr} {x_Wn x_Wc:Nat} {Q15:Option Addr} {Q17 Q16:Nat} {c:CallD} (v_s:Rd 2 J6 okC H w (.slice s_a s_n s_c) s) (Q31:J1 x.id) (Q29:J1 x.age) (Q32:J1 x.proc) (Q30:J1 x.began) (Q35:Rd 6 J16 okK H w (.slice Q12 Q14 Q13) x.calls) (Q34:Rd 3 J0x okR H w (.slice Q9 Q11 Q10) x.answers) (Q37:Rd 1 J3 okS H w (.slice x_Ra x_Rn x_Rc) x.touch.reads) (Q38:Rd 1 J3 okS H w (.slice x_Wa x_Wn x_Wc) x.touch.writes) (Q36:Rd 1 J0w okI H w (.slice Q15 Q17 Q16) x.marks) (Q33:J1 x.state) (Q25:J1 c.kind) (Q26:okS c.name) (Q28:okS c.to_) (h_c_a:J1 c.a) (Q24:J1 c.b) (Q27:okS c.text) (tab0:Tb 0 H w) (tab1:Tb 1 H w) (tab2:Tb 2 H w) (p0:J0t s) (p1:s.length≤1048576) (p2:x.calls.length≤1000) (p3:x.touch.reads.length≤4000000000) (p4:x.touch.writes.length≤4000000000) (p5:x.answers.length≤1000) (p6:x.marks.length≤1000) :
 Calls prog 195 #[.slice s_a s_n s_c,.agg #[iV x.id,iV x.age,iV x.proc,iV x.began,.slice Q12 Q14 Q13,.slice Q9 Q11 Q10,.slice x_Ra x_Rn x_Rc,.slice x_Wa x_Wn x_Wc,.slice Q15 Q17 Q16,iV x.state],.agg #[iV c.kind,.string c.name,.string c.to_,iV c.a,iV c.b,.string c.text]] w fun e w'=>∃ (d:TxD)(a:AnsD)(Q3:Option Addr)(Q5 Q4:Nat)(Q0:Option Addr)(Q2 Q1:Nat)(Q18:Option Addr)(Q20 Q19:Nat)(Q21:Option Addr)(Q23 Q22:Nat)(Q6:Option Addr)(Q8 Q7:Nat),e=.returned (.tuple #[.agg #[iV d.id,iV d.age,iV d.proc,iV d.began,.slice Q3 Q5 Q4,.slice Q0 Q2 Q1,.slice Q18 Q20 Q19,.slice Q21 Q23 Q22,.slice Q6 Q8 Q7,iV d.state],.agg #[iV a.code,iV a.n,.string a.text]])∧Mv [] w [qK Q3 Q5 Q4 d.calls,qR Q0 Q2 Q1 d.answers,qI Q6 Q8 Q7 d.marks] w'∧Rd 1 J3 okS (V (HP H []) w [qK Q3 Q5 Q4 d.calls,qR Q0 Q2 Q1 d.answers,qI Q6 Q8 Q7 d.marks]) w' (.slice Q18 Q20 Q19) d.touch.reads∧Rd 1 J3 okS (V (HP H []) w [qK Q3 Q5 Q4 d.calls,qR Q0 Q2 Q1 d.answers,qI Q6 Q8 Q7 d.marks]) w' (.slice Q21 Q23 Q22) d.touch.writes∧okS a.text∧J1 d.id∧J1 d.age∧J1 d.proc∧J1 d.began∧J1 d.state∧d.calls.length≤x.calls.length+1∧d.answers.length≤x.answers.length+1∧d.touch.reads.length≤x.touch.reads.length+362000330∧d.touch.writes.length≤x.touch.writes.length+362000330∧d.marks.length≤x.marks.length∧J1 a.code∧J1 a.n:=by
 have hT:=J3F tab0 tab1 tab2
 refine (JgU (H:=H) (H2:=H) (t:=⟨Q12,Q14,Q13,Q9,Q11,Q10,x_Ra,x_Rn,x_Rc,x_Wa,x_Wn,x_Wc,Q15,Q17,Q16⟩) hT v_s ⟨Q35,Q34,Q37,Q38,Q36⟩ ⟨Q31,Q29,Q32,Q30,Q33⟩ ⟨Q25,Q26,Q28,h_c_a,Q24,Q27⟩ p0 p1 p2 p3 p4 p5 p6).mono ?_
 rintro e w' ⟨d,t,a,rfl,m,k1,k2,ho,ha,b1,b2,b3,b4,b5⟩
 exact ⟨d,a,t.ca,t.cn,t.cc,t.aa,t.an,t.ac,t.ra,t.rn,t.rc,t.wa,t.wn,t.wc,t.ma,t.mn,t.mc,rfl,m,k1.mono fun b hb=>⟨hb.1.imp .inl id,hb.2⟩,k2.mono fun b hb=>⟨hb.1.imp .inl id,hb.2⟩,ha.2.2,ho.1,ho.2.1,ho.2.2.1,ho.2.2.2.1,ho.2.2.2.2,b1,b2,b3,b4,b5,ha.1,ha.2.1⟩
end
section
variable {w:World} {H:Nat→Prop}
set_option maxRecDepth 100000
set_option maxHeartbeats 1000000
theorem JdJ {c:CurD} {Q1:Option Addr} {Q0 Q2:Nat} {c_b:Nat} {s:List CellD} {s_a:Option Addr} {s_n s_c:Nat} {id:Int} (Q50:RdA 1 J7 okB H w (.slice Q1 Q0 Q2) c.code) (Q88:J1 (c.pos:Int)) (Q87:J1 c.h) (v_s:Rd 2 J6 okC H w (.slice s_a s_n s_c) s) (h_id:J1 id) (tab0:Tb 0 H w) (tab1:Tb 1 H w) (tab2:Tb 2 H w) (p0:c.pos≤Q0) (p1:J0t s) (p2:s.length≤1048576) (hA:At w [bC c_b Q1 Q0 Q2 c.pos c.h]) (hD:∀ b,H b→¬ fps [bC c_b Q1 Q0 Q2 c.pos c.h] b) :
 Calls prog 165 #[pT c_b,.slice s_a s_n s_c,iV id] w fun e w'=>∃ (i2:Nat)(h2:Int)(d:TxD)(Q37:Option Addr)(Q39 Q38:Nat)(Q34:Option Addr)(Q36 Q35:Nat)(Q44:Option Addr)(Q46 Q45:Nat)(Q47:Option Addr)(Q49 Q48:Nat)(Q40:Option Addr)(Q42 Q41:Nat),e=.returned (.agg #[iV d.id,iV d.age,iV d.proc,iV d.began,.slice Q37 Q39 Q38,.slice Q34 Q36 Q35,.slice Q44 Q46 Q45,.slice Q47 Q49 Q48,.slice Q40 Q42 Q41,iV d.state])∧Mv [bC c_b Q1 Q0 Q2 c.pos c.h] w [qK Q37 Q39 Q38 d.calls,qR Q34 Q36 Q35 d.answers,qI Q40 Q42 Q41 d.marks,bC c_b Q1 Q0 Q2 i2 h2] w'∧Rd 1 J3 okS (V (HP H [bC c_b Q1 Q0 Q2 c.pos c.h]) w [qK Q37 Q39 Q38 d.calls,qR Q34 Q36 Q35 d.answers,qI Q40 Q42 Q41 d.marks,bC c_b Q1 Q0 Q2 i2 h2]) w' (.slice Q44 Q46 Q45) d.touch.reads∧Rd 1 J3 okS (V (HP H [bC c_b Q1 Q0 Q2 c.pos c.h]) w [qK Q37 Q39 Q38 d.calls,qR Q34 Q36 Q35 d.answers,qI Q40 Q42 Q41 d.marks,bC c_b Q1 Q0 Q2 i2 h2]) w' (.slice Q47 Q49 Q48) d.touch.writes∧i2≤Q0∧J1 h2∧J1 d.id∧J1 d.age∧J1 d.proc∧J1 d.began∧J1 d.state∧d.calls.length≤5∧d.answers.length≤5∧d.touch.reads.length≤1810001650∧d.touch.writes.length≤1810001650∧d.marks.length≤5:=by
 have Q18:RdA 1 J7 okB (V (HP H [bC c_b Q1 Q0 Q2 c.pos c.h]) w [bC c_b Q1 Q0 Q2 c.pos c.h]) w (.slice Q1 Q0 Q2) c.code:=RdA.startP Q50 hD
 obtain ⟨Q107,Q106,Q159,Q160⟩:=RdA.inv Q50
 have Q43:Rd 2 J6 okC (V (HP H [bC c_b Q1 Q0 Q2 c.pos c.h]) w [bC c_b Q1 Q0 Q2 c.pos c.h]) w (.slice s_a s_n s_c) s:=Rd.startP v_s hD
 obtain ⟨ln_s,le_s,mx_s,ni_s⟩:=Rd.inv v_s
 have V_tab0:Tb 0 (V (HP H [bC c_b Q1 Q0 Q2 c.pos c.h]) w [bC c_b Q1 Q0 Q2 c.pos c.h]) w:=Tb.startP tab0 hD
 have V_tab1:Tb 1 (V (HP H [bC c_b Q1 Q0 Q2 c.pos c.h]) w [bC c_b Q1 Q0 Q2 c.pos c.h]) w:=Tb.startP tab1 hD
 have V_tab2:Tb 2 (V (HP H [bC c_b Q1 Q0 Q2 c.pos c.h]) w [bC c_b Q1 Q0 Q2 c.pos c.h]) w:=Tb.startP tab2 hD
 refine ze fun _ F=>?_
 refine zal F hA J1t fun b1 w1 S1 _ F=>?_
 refine zz F (JY (c:=c) (n:=2) (RdA.mv (Nat.succ_pos _) Q18 S1) (by unfold J1;(try dsimp only);omega) yd yg yb (At.pick (is:=[1]) S1.at' rfl) (J9 (is:=[1]))) ?_
 rintro _ w6 ⟨i2_6,h2_6,r_6,rfl,m6,q6_0,q6_1,q6_2,q6_3⟩
 refine zt fun _ F=>?_
 have S6:Mv _ _ [bx _ [_,_,_] _,bx _ [_,_,_,_,_,_,_,_,_,_] _] _:=At.frame S1.at' [1] rfl m6
 refine zq F ((1+r_6:Nat):Int) fun _ F=>?_
 refine zz F (JdH (H:=V (HP H [bC c_b Q1 Q0 Q2 c.pos c.h]) w [bC c_b Q1 Q0 Q2 i2_6 h2_6,bx b1 [iV 0,iV 0,iV 0,iV 0,sN,sN,sN,sN,sN,iV 0] 58]) (id:=id) (age:=id) (proc:=((1+r_6:Nat):Int)) h_id h_id yg) ?_
 rintro _ w9 ⟨Q76,Q80,Q78,Q70,Q74,Q72,Q58,Q62,Q60,Q64,Q68,Q66,Q82,Q86,Q84,rfl,m9,v9_0,v9_1⟩
 refine zt fun _ F=>?_
 have S9:Mv _ _ [_,_,_,bx _ [_,_,_] _,bx _ [_,_,_,_,_,_,_,_,_,_] _] _:=At.frame S6.at' [] rfl m9
 obtain ⟨Q122,Q139,Q156⟩:=At.ownInv S9.at' ET_54.hk 0 rfl
 obtain ⟨Q123,Q140,Q157⟩:=At.ownInv S9.at' ET_55.hk 1 rfl
 obtain ⟨Q124,Q141,Q158⟩:=At.ownInv S9.at' ET_47.hk 2 rfl
 have V9_0:=Rd.gotR S6.at' S9 [] (S1.trans S6) v9_0
 obtain ⟨ln9_0,le9_0,mx9_0,ni9_0⟩:=Rd.inv V9_0
 have V9_1:=Rd.gotR S6.at' S9 [] (S1.trans S6) v9_1
 obtain ⟨ln9_1,le9_1,mx9_1,ni9_1⟩:=Rd.inv V9_1
 refine zal F S9.at' J1t fun b11 w11 S11 _ F=>?_
 refine zst F S11.at' 0 fun w13 S13 _ F=>?_
 have T14:Mv _ _ [bx _ [_,_,_,_,_,_,_,_,_,_] _,_,_,_,bx _ [_,_,_] _,bx _ [_,_,_,_,_,_,_,_,_,_] _] _:=S13
 refine JH T14.at' (fun lZ (k:Nat) aZ wZ=>∃ (pp:Nat)(hh i1 i2 i3 i4 i5:Int)(TC:List CallD)(TA:List AnsD)(TR TW:List ByteArray)(TM:List Int)(ca:Option Addr)(cn cc:Nat)(aa:Option Addr)(an ac:Nat)(ra:Option Addr)(rn rc:Nat)(wa:Option Addr)(wn wc:Nat)(ma:Option Addr)(mn mc:Nat),(fun l2=>Fr 37 [(8,nV k),(7,pT b11),(6,pT b1),(0,pT c_b),(1,.slice s_a s_n s_c)] aZ∧Mv lZ w13 l2 wZ∧Rd 1 J3 okS (V (HP H [bC c_b Q1 Q0 Q2 c.pos c.h]) w l2) wZ (.slice ra rn rc) TR∧Rd 1 J3 okS (V (HP H [bC c_b Q1 Q0 Q2 c.pos c.h]) w l2) wZ (.slice wa wn wc) TW∧(pp≤Q0)∧(J1 hh)∧(J1 i1)∧(J1 i2)∧(J1 i3)∧(J1 i4)∧(J1 i5)∧(TC.length≤k)∧(TA.length≤k)∧(TR.length≤362000330 * k)∧(TW.length≤362000330 * k)∧(TM.length≤k)∧(k≤5)) (((((lZ.set 0 (bx b11 [iV i1,iV i2,iV i3,iV i4,.slice ca cn cc,.slice aa an ac,.slice ra rn rc,.slice wa wn wc,.slice ma mn mc,iV i5] 58)).set 1 (qK ca cn cc TC)).set 2 (qR aa an ac TA)).set 3 (qI ma mn mc TM)).set 4 (bC c_b Q1 Q0 Q2 pp hh))) (fun (k:Nat)=>5 - k) (0) ?_ ?_
 ·exact ⟨i2_6,h2_6,id,id,((1+r_6:Nat):Int),0,1,[],[],[],[],[],Q76,Q80,Q78,Q70,Q74,Q72,Q58,Q62,Q60,Q64,Q68,Q66,Q82,Q86,Q84,F.cut rfl,(Mv.refl T14.at'),(Rd.mq V9_0 (S11.trans T14)),(Rd.mq V9_1 (S11.trans T14)),zO,by assumption,yn,yn,yn,yn,yn,Nat.zero_le _,Nat.zero_le _,Nat.zero_le _,Nat.zero_le _,Nat.zero_le _,zO⟩
 rintro k a16 w16 ⟨pp,hh,i1,i2,i3,i4,i5,TC,TA,TR,TW,TM,ca,cn,cc,aa,an,ac,ra,rn,rc,wa,wn,wc,ma,mn,mc,F,S16,W16_0,W16_1,hk_0,hk_1,hk_2,hk_3,hk_4,hk_5,hk_6,hk_7,hk_8,hk_9,hk_10,hk_11,hk_12⟩
 have S16:Mv _ _ [bx _ [_,_,_,_,_,_,_,_,_,_] _,_,_,_,bx _ [_,_,_] _,bx _ [_,_,_,_,_,_,_,_,_,_] _] _:=S16
 obtain ⟨lv16_0,lw16_0,lx16_0,ly16_0⟩:=Rd.inv W16_0
 obtain ⟨lv16_1,lw16_1,lx16_1,ly16_1⟩:=Rd.inv W16_1
 refine zr fun _ F=>?_
 refine zz F (JY (c:=(⟨c.code,pp,hh⟩:CurD)) (n:=5) (RdA.mv (Nat.succ_pos _) Q18 (tc6 S1 S6 S9 S11 T14 S16)) (by unfold J1;(try dsimp only);omega) yd yg yb (At.pick (is:=[4]) S16.at' rfl) (J9 (is:=[4]))) ?_
 rintro _ w19 ⟨i2_19,h2_19,r_19,rfl,m19,q19_0,q19_1,q19_2,q19_3⟩
 refine zt fun _ F=>?_
 have S19:Mv _ _ [bx _ [_,_,_] _,bx _ [_,_,_,_,_,_,_,_,_,_] _,_,_,_,bx _ [_,_,_,_,_,_,_,_,_,_] _] _:=At.frame S16.at' [4] rfl m19
 refine zc F (k < r_19) fun _ F=>?_
 refine zi F (fun h22=>?_) fun h22=>?_
 ·refine zr fun _ F=>?_
  refine J2Q (fun lZ aZ wZ=>∃ (i2_28:Nat)(h2_28:Int)(d_28:CallD)(d_30:TxD)(a_30:AnsD)(Q6:Option Addr)(Q8 Q7:Nat)(Q3:Option Addr)(Q5 Q4:Nat)(Q12:Option Addr)(Q14 Q13:Nat)(Q15:Option Addr)(Q17 Q16:Nat)(Q9:Option Addr)(Q11 Q10:Nat),(fun l2=>Fr 37 [(0,pT c_b),(1,.slice s_a s_n s_c),(6,pT b1),(7,pT b11),(8,nV k)] aZ∧Mv lZ w19 l2 wZ∧Rd 1 J3 okS (V (HP H [bC c_b Q1 Q0 Q2 c.pos c.h]) w l2) wZ (.slice Q12 Q14 Q13) d_30.touch.reads∧Rd 1 J3 okS (V (HP H [bC c_b Q1 Q0 Q2 c.pos c.h]) w l2) wZ (.slice Q15 Q17 Q16) d_30.touch.writes∧(i2_28≤Q0)∧(J1 h2_28)∧(J1 d_28.kind)∧(J1 d_28.a)∧(J1 d_28.b)∧(J1 d_30.id)∧(J1 d_30.age)∧(J1 d_30.proc)∧(J1 d_30.began)∧(J1 d_30.state)∧(d_30.calls.length≤(⟨i1,i2,i3,i4,TC,TA,(⟨TR,TW⟩:TouchD),TM,i5⟩:TxD).calls.length+1)∧(d_30.answers.length≤(⟨i1,i2,i3,i4,TC,TA,(⟨TR,TW⟩:TouchD),TM,i5⟩:TxD).answers.length+1)∧(d_30.touch.reads.length≤(⟨i1,i2,i3,i4,TC,TA,(⟨TR,TW⟩:TouchD),TM,i5⟩:TxD).touch.reads.length+362000330)∧(d_30.touch.writes.length≤(⟨i1,i2,i3,i4,TC,TA,(⟨TR,TW⟩:TouchD),TM,i5⟩:TxD).touch.writes.length+362000330)∧(d_30.marks.length≤(⟨i1,i2,i3,i4,TC,TA,(⟨TR,TW⟩:TouchD),TM,i5⟩:TxD).marks.length)∧(J1 a_30.code)∧(J1 a_30.n)) ((((sel lZ [0,1,5]).set 0 (bC c_b Q1 Q0 Q2 i2_28 h2_28)).set 1 (bx b11 [iV d_30.id,iV d_30.age,iV d_30.proc,iV d_30.began,.slice Q6 Q8 Q7,.slice Q3 Q5 Q4,.slice Q12 Q14 Q13,.slice Q15 Q17 Q16,.slice Q9 Q11 Q10,iV d_30.state] 58))++[qK Q6 Q8 Q7 d_30.calls,qR Q3 Q5 Q4 d_30.answers,qI Q9 Q11 Q10 d_30.marks])) [1] (.b2 [0,2] 1 (.l [3,4,5,6,7,8]) 3 (.l [1,4,5,6,7,8])) S19.at' [] zK (fun w24 S24 hS=>en2 ?_) ?_
  ·refine zg fun _ F=>?_
   refine J03 ?_ ?_
   ·refine Jh rfl (Jf (v:=.agg #[iV i1,iV i2,iV i3,iV i4,.slice ca cn cc,.slice aa an ac,.slice ra rn rc,.slice wa wn wc,.slice ma mn mc,iV i5]) F rfl rfl (JZ S24.at' 1 J2P rfl rfl (F.g rfl) rfl rfl (fun h=>nomatch h) rfl) rfl fun _ F=>?_)
    refine nS0 (enL ?_)
    refine J2 rfl rfl (zz1 F (J66 (c:=(⟨c.code,i2_19,h2_19⟩:CurD)) (RdA.mv (Nat.succ_pos _) Q18 (tc8 S1 S6 S9 S11 T14 S16 S19 S24)) (by unfold J1;(try dsimp only);omega) yd (Tb.mv V_tab0 (tc8 S1 S6 S9 S11 T14 S16 S19 S24)) (Tb.mv V_tab1 (tc8 S1 S6 S9 S11 T14 S16 S19 S24)) (Tb.mv V_tab2 (tc8 S1 S6 S9 S11 T14 S16 S19 S24)) yb (At.pick (is:=[0]) S24.at' rfl) (J9 (is:=[0]))) ?_)
    rintro _ w28 ⟨i2_28,h2_28,d_28,rfl,m28,Q51,Q55,Q53,q28_0,q28_1,q28_2,q28_3,q28_4⟩
    refine ⟨_,rfl,fun _ F=>?_⟩
    have S28:Mv _ _ [bx _ [_,_,_] _,bx _ [_,_,_,_,_,_,_,_,_,_] _,_,_,_,bx _ [_,_,_,_,_,_,_,_,_,_] _] _:=At.frame S24.at' [0] rfl m28
    refine nS (Sd.of S28 [] rfl) fun hS=>?_
    have Z31:Rd 6 J16 okK (V (HP H [bC c_b Q1 Q0 Q2 c.pos c.h]) w [bC c_b Q1 Q0 Q2 i2_28 h2_28,bx b11 [iV i1,iV i2,iV i3,iV i4,.slice ca cn cc,.slice aa an ac,.slice ra rn rc,.slice wa wn wc,.slice ma mn mc,iV i5] 58,qR aa an ac TA,qI ma mn mc TM,bx b1 [iV 0,iV 0,iV 0,iV 0,sN,sN,sN,sN,sN,iV 0] 58]) w28 (.slice ca cn cc) TC:=At.freezeP S28.at' ET_54.hk 2 rfl (J23 (tc9 S1 S6 S9 S11 T14 S16 S19 S24 S28))
    have S31:=At.drop S28.at' 2
    have Z32:Rd 3 J0x okR (V (HP H [bC c_b Q1 Q0 Q2 c.pos c.h]) w [bC c_b Q1 Q0 Q2 i2_28 h2_28,bx b11 [iV i1,iV i2,iV i3,iV i4,.slice ca cn cc,.slice aa an ac,.slice ra rn rc,.slice wa wn wc,.slice ma mn mc,iV i5] 58,qI ma mn mc TM,bx b1 [iV 0,iV 0,iV 0,iV 0,sN,sN,sN,sN,sN,iV 0] 58]) w28 (.slice aa an ac) TA:=At.freezeP S31.at' ET_55.hk 2 rfl (J23 (J0X S1 S6 S9 S11 T14 S16 S19 S24 S28 S31))
    have S32:=At.drop S31.at' 2
    have Z33:Rd 1 J0w okI (V (HP H [bC c_b Q1 Q0 Q2 c.pos c.h]) w [bC c_b Q1 Q0 Q2 i2_28 h2_28,bx b11 [iV i1,iV i2,iV i3,iV i4,.slice ca cn cc,.slice aa an ac,.slice ra rn rc,.slice wa wn wc,.slice ma mn mc,iV i5] 58,bx b1 [iV 0,iV 0,iV 0,iV 0,sN,sN,sN,sN,sN,iV 0] 58]) w28 (.slice ma mn mc) TM:=At.freezeP S32.at' ET_47.hk 2 rfl (J23 (J2C S1 S6 S9 S11 T14 S16 S19 S24 S28 S31 S32))
    have S33:=At.drop S32.at' 2
    refine J2 rfl rfl (zz1 F (J8w (s:=s) (x:=(⟨i1,i2,i3,i4,TC,TA,(⟨TR,TW⟩:TouchD),TM,i5⟩:TxD)) (c:=d_28) (Rd.mq Q43 (JE S1 S6 S9 S11 T14 S16 S19 S24 S28 S31 S32 S33)) yf yf yf yf (Rd.mq Z31 (S32.trans S33)) (Rd.mq Z32 S33) (Rd.mq W16_0 (tc6 S19 S24 S28 S31 S32 S33)) (Rd.mq W16_1 (tc6 S19 S24 S28 S31 S32 S33)) Z33 yf yf Q51 Q55 yf yf Q53 (Tb.mv V_tab0 (JE S1 S6 S9 S11 T14 S16 S19 S24 S28 S31 S32 S33)) (Tb.mv V_tab1 (JE S1 S6 S9 S11 T14 S16 S19 S24 S28 S31 S32 S33)) (Tb.mv V_tab2 (JE S1 S6 S9 S11 T14 S16 S19 S24 S28 S31 S32 S33)) yb yb yb yb yb yb yb) ?_)
    rintro _ w30 ⟨d_30,a_30,Q6,Q8,Q7,Q3,Q5,Q4,Q12,Q14,Q13,Q15,Q17,Q16,Q9,Q11,Q10,rfl,m30,v30_0,v30_1,Q161,q30_0,q30_1,q30_2,q30_3,q30_4,q30_5,q30_6,q30_7,q30_8,q30_9,q30_10,q30_11⟩
    refine ⟨_,rfl,fun _ F=>?_⟩
    have S30:Mv _ _ [_,_,_,bx _ [_,_,_] _,bx _ [_,_,_,_,_,_,_,_,_,_] _,bx _ [_,_,_,_,_,_,_,_,_,_] _] _:=At.frame S33.at' [] rfl m30
    obtain ⟨Q108,Q125,Q142⟩:=At.ownInv S30.at' ET_54.hk 0 rfl
    obtain ⟨Q109,Q126,Q143⟩:=At.ownInv S30.at' ET_55.hk 1 rfl
    obtain ⟨Q110,Q127,Q144⟩:=At.ownInv S30.at' ET_47.hk 2 rfl
    have V30_0:=Rd.gotR S33.at' S30 [] (JE S1 S6 S9 S11 T14 S16 S19 S24 S28 S31 S32 S33) v30_0
    obtain ⟨ln30_0,le30_0,mx30_0,ni30_0⟩:=Rd.inv V30_0
    have V30_1:=Rd.gotR S33.at' S30 [] (JE S1 S6 S9 S11 T14 S16 S19 S24 S28 S31 S32 S33) v30_1
    obtain ⟨ln30_1,le30_1,mx30_1,ni30_1⟩:=Rd.inv V30_1
    refine nS (Sd.of (tc5 S28 S31 S32 S33 S30) [] rfl) fun hS=>?_
    refine zg fun _ F=>?_
    refine J2 rfl rfl (J0C S30.at' 4 J2P rfl rfl rfl rfl rfl (F.g rfl) (F.g rfl) rfl rfl rfl rfl rfl fun w38 S38=>?_)
    refine nS (Sd.of (tc6 S28 S31 S32 S33 S30 S38) [] rfl) fun hS=>?_
    refine zg fun _ F=>?_
    exact ⟨i2_28,h2_28,d_28,d_30,a_30,Q6,Q8,Q7,Q3,Q5,Q4,Q12,Q14,Q13,Q15,Q17,Q16,Q9,Q11,Q10,F.cut rfl,((tc7 S24 S28 S31 S32 S33 S30 S38).pick [4,0,5,1,2,3] rfl),(Rd.mq (Rd.mq V30_0 S38) (Mv.pick (Mv.refl S38.at') [4,0,5,1,2,3] rfl)),(Rd.mq (Rd.mq V30_1 S38) (Mv.pick (Mv.refl S38.at') [4,0,5,1,2,3] rfl)),q28_0,q28_1,q28_2,q28_3,q28_4,q30_0,q30_1,q30_2,q30_3,q30_4,q30_5,q30_6,q30_7,q30_8,q30_9,q30_10,q30_11⟩
   refine Jh rfl (zz1 F (J66 (c:=(⟨c.code,i2_19,h2_19⟩:CurD)) (RdA.mv (Nat.succ_pos _) Q18 (tc8 S1 S6 S9 S11 T14 S16 S19 S24)) (by unfold J1;(try dsimp only);omega) yd (Tb.mv V_tab0 (tc8 S1 S6 S9 S11 T14 S16 S19 S24)) (Tb.mv V_tab1 (tc8 S1 S6 S9 S11 T14 S16 S19 S24)) (Tb.mv V_tab2 (tc8 S1 S6 S9 S11 T14 S16 S19 S24)) yb (At.pick (is:=[0]) S24.at' rfl) (J9 (is:=[0]))) ?_)
   rintro _ w39 ⟨i2_39,h2_39,d_39,rfl,m39,Q52,Q56,Q54,q39_0,q39_1,q39_2,q39_3,q39_4⟩
   refine ⟨_,rfl,fun _ F=>?_⟩
   have S39:Mv _ _ [bx _ [_,_,_] _,bx _ [_,_,_,_,_,_,_,_,_,_] _,_,_,_,bx _ [_,_,_,_,_,_,_,_,_,_] _] _:=At.frame S24.at' [0] rfl m39
   refine nS (Sd.of S39 [] rfl) fun hS=>enL ?_
   refine J2 rfl rfl (Jf (v:=.agg #[iV i1,iV i2,iV i3,iV i4,.slice ca cn cc,.slice aa an ac,.slice ra rn rc,.slice wa wn wc,.slice ma mn mc,iV i5]) F rfl rfl (JZ S39.at' 1 J2P rfl rfl (F.g rfl) rfl rfl (fun h=>nomatch h) rfl) rfl fun _ F=>?_)
   refine nS0 ?_
   have Z43:Rd 6 J16 okK (V (HP H [bC c_b Q1 Q0 Q2 c.pos c.h]) w [bC c_b Q1 Q0 Q2 i2_39 h2_39,bx b11 [iV i1,iV i2,iV i3,iV i4,.slice ca cn cc,.slice aa an ac,.slice ra rn rc,.slice wa wn wc,.slice ma mn mc,iV i5] 58,qR aa an ac TA,qI ma mn mc TM,bx b1 [iV 0,iV 0,iV 0,iV 0,sN,sN,sN,sN,sN,iV 0] 58]) w39 (.slice ca cn cc) TC:=At.freezeP S39.at' ET_54.hk 2 rfl (J23 (tc9 S1 S6 S9 S11 T14 S16 S19 S24 S39))
   have S43:=At.drop S39.at' 2
   have Z44:Rd 3 J0x okR (V (HP H [bC c_b Q1 Q0 Q2 c.pos c.h]) w [bC c_b Q1 Q0 Q2 i2_39 h2_39,bx b11 [iV i1,iV i2,iV i3,iV i4,.slice ca cn cc,.slice aa an ac,.slice ra rn rc,.slice wa wn wc,.slice ma mn mc,iV i5] 58,qI ma mn mc TM,bx b1 [iV 0,iV 0,iV 0,iV 0,sN,sN,sN,sN,sN,iV 0] 58]) w39 (.slice aa an ac) TA:=At.freezeP S43.at' ET_55.hk 2 rfl (J23 (J0X S1 S6 S9 S11 T14 S16 S19 S24 S39 S43))
   have S44:=At.drop S43.at' 2
   have Z45:Rd 1 J0w okI (V (HP H [bC c_b Q1 Q0 Q2 c.pos c.h]) w [bC c_b Q1 Q0 Q2 i2_39 h2_39,bx b11 [iV i1,iV i2,iV i3,iV i4,.slice ca cn cc,.slice aa an ac,.slice ra rn rc,.slice wa wn wc,.slice ma mn mc,iV i5] 58,bx b1 [iV 0,iV 0,iV 0,iV 0,sN,sN,sN,sN,sN,iV 0] 58]) w39 (.slice ma mn mc) TM:=At.freezeP S44.at' ET_47.hk 2 rfl (J23 (J2C S1 S6 S9 S11 T14 S16 S19 S24 S39 S43 S44))
   have S45:=At.drop S44.at' 2
   refine J2 rfl rfl (zz1 F (J8w (s:=s) (x:=(⟨i1,i2,i3,i4,TC,TA,(⟨TR,TW⟩:TouchD),TM,i5⟩:TxD)) (c:=d_39) (Rd.mq Q43 (JE S1 S6 S9 S11 T14 S16 S19 S24 S39 S43 S44 S45)) yf yf yf yf (Rd.mq Z43 (S44.trans S45)) (Rd.mq Z44 S45) (Rd.mq W16_0 (tc6 S19 S24 S39 S43 S44 S45)) (Rd.mq W16_1 (tc6 S19 S24 S39 S43 S44 S45)) Z45 yf yf Q52 Q56 yf yf Q54 (Tb.mv V_tab0 (JE S1 S6 S9 S11 T14 S16 S19 S24 S39 S43 S44 S45)) (Tb.mv V_tab1 (JE S1 S6 S9 S11 T14 S16 S19 S24 S39 S43 S44 S45)) (Tb.mv V_tab2 (JE S1 S6 S9 S11 T14 S16 S19 S24 S39 S43 S44 S45)) yb yb yb yb yb yb yb) ?_)
   rintro _ w42 ⟨d_42,a_42,Q75,Q79,Q77,Q69,Q73,Q71,Q57,Q61,Q59,Q63,Q67,Q65,Q81,Q85,Q83,rfl,m42,v42_0,v42_1,Q162,q42_0,q42_1,q42_2,q42_3,q42_4,q42_5,q42_6,q42_7,q42_8,q42_9,q42_10,q42_11⟩
   refine ⟨_,rfl,fun _ F=>?_⟩
   have S42:Mv _ _ [_,_,_,bx _ [_,_,_] _,bx _ [_,_,_,_,_,_,_,_,_,_] _,bx _ [_,_,_,_,_,_,_,_,_,_] _] _:=At.frame S45.at' [] rfl m42
   obtain ⟨Q111,Q128,Q145⟩:=At.ownInv S42.at' ET_54.hk 0 rfl
   obtain ⟨Q112,Q129,Q146⟩:=At.ownInv S42.at' ET_55.hk 1 rfl
   obtain ⟨Q113,Q130,Q147⟩:=At.ownInv S42.at' ET_47.hk 2 rfl
   have V42_0:=Rd.gotR S45.at' S42 [] (JE S1 S6 S9 S11 T14 S16 S19 S24 S39 S43 S44 S45) v42_0
   obtain ⟨ln42_0,le42_0,mx42_0,ni42_0⟩:=Rd.inv V42_0
   have V42_1:=Rd.gotR S45.at' S42 [] (JE S1 S6 S9 S11 T14 S16 S19 S24 S39 S43 S44 S45) v42_1
   obtain ⟨ln42_1,le42_1,mx42_1,ni42_1⟩:=Rd.inv V42_1
   refine nS (Sd.of (tc5 S39 S43 S44 S45 S42) [] rfl) fun hS=>?_
   refine zg fun _ F=>?_
   refine J2 rfl rfl (J0C S42.at' 4 J2P rfl rfl rfl rfl rfl (F.g rfl) (F.g rfl) rfl rfl rfl rfl rfl fun w50 S50=>?_)
   refine nS (Sd.of (tc6 S39 S43 S44 S45 S42 S50) [] rfl) fun hS=>?_
   refine zg fun _ F=>?_
   exact ⟨i2_39,h2_39,d_39,d_42,a_42,Q75,Q79,Q77,Q69,Q73,Q71,Q57,Q61,Q59,Q63,Q67,Q65,Q81,Q85,Q83,F.cut rfl,((tc7 S24 S39 S43 S44 S45 S42 S50).pick [4,0,5,1,2,3] rfl),(Rd.mq (Rd.mq V42_0 S50) (Mv.pick (Mv.refl S50.at') [4,0,5,1,2,3] rfl)),(Rd.mq (Rd.mq V42_1 S50) (Mv.pick (Mv.refl S50.at') [4,0,5,1,2,3] rfl)),q39_0,q39_1,q39_2,q39_3,q39_4,q42_0,q42_1,q42_2,q42_3,q42_4,q42_5,q42_6,q42_7,q42_8,q42_9,q42_10,q42_11⟩
  rintro a51 w51 ⟨i2_28,h2_28,d_28,d_30,a_30,Q6,Q8,Q7,Q3,Q5,Q4,Q12,Q14,Q13,Q15,Q17,Q16,Q9,Q11,Q10,F,S51,V51_0,V51_1,Q89,Q90,Q98,Q99,Q100,Q101,Q102,Q103,Q104,Q105,Q91,Q92,Q93,Q94,Q95,Q96,Q97⟩
  have S51:Mv _ _ [bx _ [_,_,_] _,bx _ [_,_,_,_,_,_,_,_,_,_] _,bx _ [_,_,_,_,_,_,_,_,_,_] _,_,_,_] _:=S51
  obtain ⟨ln51_0,le51_0,mx51_0,ni51_0⟩:=Rd.inv V51_0
  obtain ⟨ln51_1,le51_1,mx51_1,ni51_1⟩:=Rd.inv V51_1
  obtain ⟨Q114,Q131,Q148⟩:=At.ownInv S51.at' ET_54.hk 3 rfl
  obtain ⟨Q115,Q132,Q149⟩:=At.ownInv S51.at' ET_55.hk 4 rfl
  obtain ⟨Q116,Q133,Q150⟩:=At.ownInv S51.at' ET_47.hk 5 rfl
  refine zr fun _ F=>?_
  refine zz F (J1y (c:=(⟨c.code,i2_28,h2_28⟩:CurD)) (n:=5) (RdA.mv (Nat.succ_pos _) Q18 (tc8 S1 S6 S9 S11 T14 S16 S19 S51)) (by unfold J1;(try dsimp only);omega) yd yg yb (At.pick (is:=[0]) S51.at' rfl) (J9 (is:=[0]))) ?_
  rintro _ w53 ⟨i2_53,h2_53,r_53,rfl,m53,q53_0,q53_1⟩
  refine zt fun _ F=>?_
  have S53:Mv _ _ [bx _ [_,_,_] _,bx _ [_,_,_,_,_,_,_,_,_,_] _,bx _ [_,_,_,_,_,_,_,_,_,_] _,_,_,_] _:=At.frame S51.at' [0] rfl m53
  refine zib F (fun h55=>?_) fun h55=>?_
  ·refine zr fun _ F=>?_
   refine zw F S53.at' 1 fun _ F=>?_
   refine zz F (Jdm (H:=fun _=>True) (x:=d_30) yf yf yf yf (At.rd S53.at' ET_54.hk 3 rfl) (At.rd S53.at' ET_55.hk 4 rfl) (Rd.top (Rd.mq V51_0 S53)) (Rd.top (Rd.mq V51_1 S53)) (At.rd S53.at' ET_47.hk 5 rfl) yf (by dsimp only at *;omega) (by dsimp only at *;omega) (by dsimp only at *;omega) (by dsimp only at *;omega) (by dsimp only at *;omega)) ?_
   rintro _ w57 ⟨Q25,Q27,Q26,Q22,Q24,Q23,Q31,Q33,Q32,Q19,Q21,Q20,Q28,Q30,Q29,rfl,m57,q57_0,q57_1,q57_2,q57_3,q57_4⟩
   refine zt fun _ F=>?_
   have S57:Mv _ _ [_,_,_,_,_,bx _ [_,_,_] _,bx _ [_,_,_,_,_,_,_,_,_,_] _,bx _ [_,_,_,_,_,_,_,_,_,_] _,_,_,_] _:=At.frame S53.at' [] rfl m57
   obtain ⟨Q117,Q134,Q151⟩:=At.ownInv S57.at' ET_54.hk 0 rfl
   obtain ⟨Q118,Q135,Q152⟩:=At.ownInv S57.at' ET_55.hk 1 rfl
   obtain ⟨Q119,Q136,Q153⟩:=At.ownInv S57.at' ET_44.hk 2 rfl
   obtain ⟨Q120,Q137,Q154⟩:=At.ownInv S57.at' ET_44.hk 3 rfl
   obtain ⟨Q121,Q138,Q155⟩:=At.ownInv S57.at' ET_47.hk 4 rfl
   refine zst F S57.at' 6 fun w62 S62 _ F=>?_
   have T63:Mv _ _ [bx _ [_,_,_,_,_,_,_,_,_,_] _,_,_,_,_,_,bx _ [_,_,_] _,bx _ [_,_,_,_,_,_,_,_,_,_] _,_,_,_] _:=S62
   refine zq F ((k+1:Nat):Int) fun _ F=>?_
   have Z67:Rd 1 J3 okS (V (HP H [bC c_b Q1 Q0 Q2 c.pos c.h]) w [bx b11 [iV (txM d_30).id,iV (txM d_30).age,iV (txM d_30).proc,iV (txM d_30).began,.slice Q25 Q27 Q26,.slice Q22 Q24 Q23,.slice Q31 Q33 Q32,.slice Q19 Q21 Q20,.slice Q28 Q30 Q29,iV (txM d_30).state] 58,qK Q25 Q27 Q26 (txM d_30).calls,qR Q22 Q24 Q23 (txM d_30).answers,qS Q19 Q21 Q20 (txM d_30).touch.writes,qI Q28 Q30 Q29 (txM d_30).marks,bC c_b Q1 Q0 Q2 i2_53 h2_53,bx b1 [iV 0,iV 0,iV 0,iV 0,sN,sN,sN,sN,sN,iV 0] 58,qK Q6 Q8 Q7 d_30.calls,qR Q3 Q5 Q4 d_30.answers,qI Q9 Q11 Q10 d_30.marks]) w62 (.slice Q31 Q33 Q32) (txM d_30).touch.reads:=At.freezeP T63.at' ET_44.hk 3 rfl (J23 (J2C S1 S6 S9 S11 T14 S16 S19 S51 S53 S57 T63))
   have S67:=At.drop T63.at' 3
   have Z68:Rd 1 J3 okS (V (HP H [bC c_b Q1 Q0 Q2 c.pos c.h]) w [bx b11 [iV (txM d_30).id,iV (txM d_30).age,iV (txM d_30).proc,iV (txM d_30).began,.slice Q25 Q27 Q26,.slice Q22 Q24 Q23,.slice Q31 Q33 Q32,.slice Q19 Q21 Q20,.slice Q28 Q30 Q29,iV (txM d_30).state] 58,qK Q25 Q27 Q26 (txM d_30).calls,qR Q22 Q24 Q23 (txM d_30).answers,qI Q28 Q30 Q29 (txM d_30).marks,bC c_b Q1 Q0 Q2 i2_53 h2_53,bx b1 [iV 0,iV 0,iV 0,iV 0,sN,sN,sN,sN,sN,iV 0] 58,qK Q6 Q8 Q7 d_30.calls,qR Q3 Q5 Q4 d_30.answers,qI Q9 Q11 Q10 d_30.marks]) w62 (.slice Q19 Q21 Q20) (txM d_30).touch.writes:=At.freezeP S67.at' ET_44.hk 3 rfl (J23 (JE S1 S6 S9 S11 T14 S16 S19 S51 S53 S57 T63 S67))
   have S68:=At.drop S67.at' 3
   exact ⟨k+1,zD,i2_53,h2_53,(txM d_30).id,(txM d_30).age,(txM d_30).proc,(txM d_30).began,(txM d_30).state,(txM d_30).calls,(txM d_30).answers,(txM d_30).touch.reads,(txM d_30).touch.writes,(txM d_30).marks,Q25,Q27,Q26,Q22,Q24,Q23,Q31,Q33,Q32,Q19,Q21,Q20,Q28,Q30,Q29,F.cut rfl,((tc8 S16 S19 S51 S53 S57 T63 S67 S68).pick [0,1,2,3,4,5] rfl),(Rd.mq (Rd.mq Z67 S68) (Mv.pick (Mv.refl S68.at') [0,1,2,3,4,5] rfl)),(Rd.mq Z68 (Mv.pick (Mv.refl S68.at') [0,1,2,3,4,5] rfl)),zO,by assumption,yn,yn,yn,yn,yn,by (try dsimp only at *);first|omega|(rw [(JC _).1];omega)|(rw [(JC _).2.1];omega)|(rw [(JC _).2.2.1];omega)|(rw [(JC _).2.2.2.1];omega)|exact Nat.le_trans (JC _).2.2.2.2 zO,by (try dsimp only at *);first|omega|(rw [(JC _).1];omega)|(rw [(JC _).2.1];omega)|(rw [(JC _).2.2.1];omega)|(rw [(JC _).2.2.2.1];omega)|exact Nat.le_trans (JC _).2.2.2.2 zO,by (try dsimp only at *);first|omega|(rw [(JC _).1];omega)|(rw [(JC _).2.1];omega)|(rw [(JC _).2.2.1];omega)|(rw [(JC _).2.2.2.1];omega)|exact Nat.le_trans (JC _).2.2.2.2 zO,by (try dsimp only at *);first|omega|(rw [(JC _).1];omega)|(rw [(JC _).2.1];omega)|(rw [(JC _).2.2.1];omega)|(rw [(JC _).2.2.2.1];omega)|exact Nat.le_trans (JC _).2.2.2.2 zO,by (try dsimp only at *);first|omega|(rw [(JC _).1];omega)|(rw [(JC _).2.1];omega)|(rw [(JC _).2.2.1];omega)|(rw [(JC _).2.2.2.1];omega)|exact Nat.le_trans (JC _).2.2.2.2 zO,zO⟩
  refine zr fun _ F=>?_
  refine zq F ((k+1:Nat):Int) fun _ F=>?_
  exact ⟨k+1,zD,i2_53,h2_53,d_30.id,d_30.age,d_30.proc,d_30.began,d_30.state,d_30.calls,d_30.answers,d_30.touch.reads,d_30.touch.writes,d_30.marks,Q6,Q8,Q7,Q3,Q5,Q4,Q12,Q14,Q13,Q15,Q17,Q16,Q9,Q11,Q10,F.cut rfl,((tc4 S16 S19 S51 S53).pick [1,3,4,5,0,2] rfl),(Rd.mq (Rd.mq V51_0 S53) (Mv.pick (Mv.refl S53.at') [1,3,4,5,0,2] rfl)),(Rd.mq (Rd.mq V51_1 S53) (Mv.pick (Mv.refl S53.at') [1,3,4,5,0,2] rfl)),zO,by assumption,yn,yn,yn,yn,yn,by (try dsimp only at *);first|omega|(rw [(JC _).1];omega)|(rw [(JC _).2.1];omega)|(rw [(JC _).2.2.1];omega)|(rw [(JC _).2.2.2.1];omega)|exact Nat.le_trans (JC _).2.2.2.2 zO,by (try dsimp only at *);first|omega|(rw [(JC _).1];omega)|(rw [(JC _).2.1];omega)|(rw [(JC _).2.2.1];omega)|(rw [(JC _).2.2.2.1];omega)|exact Nat.le_trans (JC _).2.2.2.2 zO,by (try dsimp only at *);first|omega|(rw [(JC _).1];omega)|(rw [(JC _).2.1];omega)|(rw [(JC _).2.2.1];omega)|(rw [(JC _).2.2.2.1];omega)|exact Nat.le_trans (JC _).2.2.2.2 zO,by (try dsimp only at *);first|omega|(rw [(JC _).1];omega)|(rw [(JC _).2.1];omega)|(rw [(JC _).2.2.1];omega)|(rw [(JC _).2.2.2.1];omega)|exact Nat.le_trans (JC _).2.2.2.2 zO,by (try dsimp only at *);first|omega|(rw [(JC _).1];omega)|(rw [(JC _).2.1];omega)|(rw [(JC _).2.2.1];omega)|(rw [(JC _).2.2.2.1];omega)|exact Nat.le_trans (JC _).2.2.2.2 zO,zO⟩
 refine zr fun _ F=>?_
 refine zw F S19.at' 1 fun _ F=>?_
 refine zst F S19.at' 5 fun w73 S73 _ F=>?_
 refine zdc F S73.at' 0 ?_
 exact ⟨i2_19,h2_19,(⟨i1,i2,i3,i4,TC,TA,(⟨TR,TW⟩:TouchD),TM,i5⟩:TxD),ca,cn,cc,aa,an,ac,ra,rn,rc,wa,wn,wc,ma,mn,mc,rfl,(Mv.pick (tc8 S1 S6 S9 S11 T14 S16 S19 S73) [3,4,5,1] rfl),(Rd.mq (Rd.mq W16_0 (S19.trans S73)) (Mv.pick (Mv.refl S73.at') [3,4,5,1] rfl)),(Rd.mq (Rd.mq W16_1 (S19.trans S73)) (Mv.pick (Mv.refl S73.at') [3,4,5,1] rfl)),yk,yk,yn,yn,yn,yn,yn,by (try dsimp only at *);omega,by (try dsimp only at *);omega,by (try dsimp only at *);omega,by (try dsimp only at *);omega,by (try dsimp only at *);omega⟩
end
end Go.Proofs.YtipdbeklopjbmaaGreatDoor
