/-
  Texts laid together: GenRv, GenCa, GenCb, Law, Law3, LawNd, Law2.
-/
import Derived.Test.YtipdbeklopjbmaaGreatDoorP29
import Derived.Test.YtipdbeklopjbmaaGreatDoorP28
import Derived.Stop.LaidErr
import Derived.LaidMore
import Derived.LaidHandle
import Derived.MakeChecks
import Derived.OpenShut
import Derived.Test.YtipdbeklopjbmaaGreatDoorTie
import Derived.Test.YtipdbeklopjbmaaGreatDoorCards
import Derived.Lay
set_option linter.unusedVariables false
set_option linter.unusedSimpArgs false
namespace Go.Proofs.YtipdbeklopjbmaaGreatDoor
open Go.ChangeShapes Go.WideShapes Go.ChangeAt Go.RowKit Go.Proofs.Tryz
section
variable {w:World} {H:Nat→Prop}
set_option maxRecDepth 100000
set_option maxHeartbeats 1000000
theorem Jdr {c:CurD} {Q1:Option Addr} {Q0 Q2:Nat} {c_b:Nat} {s:List CellD} {s_a:Option Addr} {s_n s_c:Nat} (Q34:RdA 1 J7 okB H w (.slice Q1 Q0 Q2) c.code) (Q43:J1 (c.pos:Int)) (Q42:J1 c.h) (v_s:Rd 2 J6 okC H w (.slice s_a s_n s_c) s) (tab0:Tb 0 H w) (tab1:Tb 1 H w) (tab2:Tb 2 H w) (p0:c.pos≤Q0) (p1:J0t s) (p2:s.length≤1048576) (hA:At w [bC c_b Q1 Q0 Q2 c.pos c.h]) (hD:∀ b,H b→¬ fps [bC c_b Q1 Q0 Q2 c.pos c.h] b) :
 Calls prog 126 #[pT c_b,.slice s_a s_n s_c] w fun e w'=>∃ (i2:Nat)(h2:Int)(d:TxD)(Q22:Option Addr)(Q24 Q23:Nat)(Q19:Option Addr)(Q21 Q20:Nat)(Q28:Option Addr)(Q30 Q29:Nat)(Q31:Option Addr)(Q33 Q32:Nat)(Q25:Option Addr)(Q27 Q26:Nat),e=.returned (.agg #[iV d.id,iV d.age,iV d.proc,iV d.began,.slice Q22 Q24 Q23,.slice Q19 Q21 Q20,.slice Q28 Q30 Q29,.slice Q31 Q33 Q32,.slice Q25 Q27 Q26,iV d.state])∧Mv [bC c_b Q1 Q0 Q2 c.pos c.h] w [qK Q22 Q24 Q23 d.calls,qR Q19 Q21 Q20 d.answers,qI Q25 Q27 Q26 d.marks,bC c_b Q1 Q0 Q2 i2 h2] w'∧Rd 1 J3 okS (V (HP H [bC c_b Q1 Q0 Q2 c.pos c.h]) w [qK Q22 Q24 Q23 d.calls,qR Q19 Q21 Q20 d.answers,qI Q25 Q27 Q26 d.marks,bC c_b Q1 Q0 Q2 i2 h2]) w' (.slice Q28 Q30 Q29) d.touch.reads∧Rd 1 J3 okS (V (HP H [bC c_b Q1 Q0 Q2 c.pos c.h]) w [qK Q22 Q24 Q23 d.calls,qR Q19 Q21 Q20 d.answers,qI Q25 Q27 Q26 d.marks,bC c_b Q1 Q0 Q2 i2 h2]) w' (.slice Q31 Q33 Q32) d.touch.writes∧i2≤Q0∧J1 h2∧J1 d.id∧J1 d.age∧J1 d.proc∧J1 d.began∧J1 d.state∧d.calls.length≤30:=by
 have Q9:RdA 1 J7 okB (V (HP H [bC c_b Q1 Q0 Q2 c.pos c.h]) w [bC c_b Q1 Q0 Q2 c.pos c.h]) w (.slice Q1 Q0 Q2) c.code:=RdA.startP Q34 hD
 obtain ⟨Q49,Q48,Q62,Q63⟩:=RdA.inv Q34
 have Q35:Rd 2 J6 okC (V (HP H [bC c_b Q1 Q0 Q2 c.pos c.h]) w [bC c_b Q1 Q0 Q2 c.pos c.h]) w (.slice s_a s_n s_c) s:=Rd.startP v_s hD
 obtain ⟨ln_s,le_s,mx_s,ni_s⟩:=Rd.inv v_s
 have V_tab0:Tb 0 (V (HP H [bC c_b Q1 Q0 Q2 c.pos c.h]) w [bC c_b Q1 Q0 Q2 c.pos c.h]) w:=Tb.startP tab0 hD
 have V_tab1:Tb 1 (V (HP H [bC c_b Q1 Q0 Q2 c.pos c.h]) w [bC c_b Q1 Q0 Q2 c.pos c.h]) w:=Tb.startP tab1 hD
 have V_tab2:Tb 2 (V (HP H [bC c_b Q1 Q0 Q2 c.pos c.h]) w [bC c_b Q1 Q0 Q2 c.pos c.h]) w:=Tb.startP tab2 hD
 refine ze fun _ F=>?_
 refine zal F hA J1t fun b1 w1 S1 _ F=>?_
 refine zz F (JY (c:=c) (n:=3) (RdA.mv (Nat.succ_pos _) Q9 S1) (by unfold J1;(try dsimp only);omega) yd yg yb (At.pick (is:=[1]) S1.at' rfl) (J9 (is:=[1]))) ?_
 rintro _ w6 ⟨i2_6,h2_6,r_6,rfl,m6,q6_0,q6_1,q6_2,q6_3⟩
 refine zt fun _ F=>?_
 have S6:Mv _ _ [bx _ [_,_,_] _,bx _ [_,_,_,_,_,_,_,_,_,_] _] _:=At.frame S1.at' [1] rfl m6
 refine zq F ((1+r_6:Nat):Int) fun _ F=>?_
 refine zz F (JdJ (c:=(⟨c.code,i2_6,h2_6⟩:CurD)) (s:=s) (id:=((1+r_6:Nat):Int)) (RdA.mv (Nat.succ_pos _) Q9 (S1.trans S6)) (by unfold J1;(try dsimp only);omega) yd (Rd.mq Q35 (S1.trans S6)) yg (Tb.mv V_tab0 (S1.trans S6)) (Tb.mv V_tab1 (S1.trans S6)) (Tb.mv V_tab2 (S1.trans S6)) yb yb yb (At.pick (is:=[0]) S6.at' rfl) (J9 (is:=[0]))) ?_
 rintro _ w9 ⟨i2_9,h2_9,d_9,Q16,Q18,Q17,Q7,Q3,Q8,Q10,Q12,Q11,Q13,Q15,Q14,Q4,Q6,Q5,rfl,m9,v9_0,v9_1,q9_0,q9_1,q9_2,q9_3,q9_4,q9_5,q9_6,q9_7,q9_8,q9_9,q9_10,q9_11⟩
 refine zt fun _ F=>?_
 have S9:Mv _ _ [_,_,_,bx _ [_,_,_] _,bx _ [_,_,_,_,_,_,_,_,_,_] _] _:=At.frame S6.at' [0] rfl m9
 obtain ⟨Q51,Q55,Q59⟩:=At.ownInv S9.at' ET_54.hk 0 rfl
 obtain ⟨Q52,Q56,Q60⟩:=At.ownInv S9.at' ET_55.hk 1 rfl
 obtain ⟨Q53,Q57,Q61⟩:=At.ownInv S9.at' ET_47.hk 2 rfl
 have V9_0:=Rd.gotR S6.at' S9 [0] (S1.trans S6) v9_0
 obtain ⟨ln9_0,le9_0,mx9_0,ni9_0⟩:=Rd.inv V9_0
 have V9_1:=Rd.gotR S6.at' S9 [0] (S1.trans S6) v9_1
 obtain ⟨ln9_1,le9_1,mx9_1,ni9_1⟩:=Rd.inv V9_1
 refine zal F S9.at' J1t fun b11 w11 S11 _ F=>?_
 refine zst F S11.at' 0 fun w13 S13 _ F=>?_
 have T14:Mv _ _ [bx _ [_,_,_,_,_,_,_,_,_,_] _,_,_,_,bx _ [_,_,_] _,bx _ [_,_,_,_,_,_,_,_,_,_] _] _:=S13
 refine zz F (JY (c:=(⟨c.code,i2_9,h2_9⟩:CurD)) (n:=12) (RdA.mv (Nat.succ_pos _) Q9 (tc5 S1 S6 S9 S11 T14)) (by unfold J1;(try dsimp only);omega) yd yg yb (At.pick (is:=[4]) T14.at' rfl) (J9 (is:=[4]))) ?_
 rintro _ w16 ⟨i2_16,h2_16,r_16,rfl,m16,q16_0,q16_1,q16_2,q16_3⟩
 refine zt fun _ F=>?_
 have S16:Mv _ _ [bx _ [_,_,_] _,bx _ [_,_,_,_,_,_,_,_,_,_] _,_,_,_,bx _ [_,_,_,_,_,_,_,_,_,_] _] _:=At.frame T14.at' [4] rfl m16
 refine zc F (r_16=0) fun _ F=>?_
 refine zi F (fun h20=>?_) fun h20=>?_
 ·refine zr fun _ F=>?_
  refine zz F (JY (c:=(⟨c.code,i2_16,h2_16⟩:CurD)) (n:=5) (RdA.mv (Nat.succ_pos _) Q9 (tc6 S1 S6 S9 S11 T14 S16)) (by unfold J1;(try dsimp only);omega) yd yg yb (At.pick (is:=[0]) S16.at' rfl) (J9 (is:=[0]))) ?_
  rintro _ w22 ⟨i2_22,h2_22,r_22,rfl,m22,q22_0,q22_1,q22_2,q22_3⟩
  refine zt fun _ F=>?_
  have S22:Mv _ _ [bx _ [_,_,_] _,bx _ [_,_,_,_,_,_,_,_,_,_] _,_,_,_,bx _ [_,_,_,_,_,_,_,_,_,_] _] _:=At.frame S16.at' [0] rfl m22
  refine zst F S22.at' 1 fun w25 S25 _ F=>?_
  refine zw F S25.at' 0 fun _ F=>?_
  refine zst F S25.at' 5 fun w27 S27 _ F=>?_
  have T28:Mv _ _ [bx _ [_,_,_,_,_,_,_,_,_,_] _,bx _ [_,_,_,_,_,_,_,_,_,_] _,bx _ [_,_,_] _,_,_,_] _:=S27
  refine zdc F T28.at' 0 ?_
  exact ⟨i2_22,h2_22,(⟨d_9.id,d_9.age,d_9.proc,d_9.began,d_9.calls,d_9.answers,d_9.touch,d_9.marks,((r_22:Nat):Int)⟩:TxD),Q16,Q18,Q17,Q7,Q3,Q8,Q10,Q12,Q11,Q13,Q15,Q14,Q4,Q6,Q5,rfl,(Mv.pick (tc9 S1 S6 S9 S11 T14 S16 S22 S25 T28) [3,4,5,2] rfl),(Rd.mq (Rd.mq V9_0 (tc6 S11 T14 S16 S22 S25 T28)) (Mv.pick (Mv.refl T28.at') [3,4,5,2] rfl)),(Rd.mq (Rd.mq V9_1 (tc6 S11 T14 S16 S22 S25 T28)) (Mv.pick (Mv.refl T28.at') [3,4,5,2] rfl)),yk,yk,yn,yn,yn,yn,yn,by (try dsimp only at *);omega⟩
 refine zr fun _ F=>?_
 refine zc F (r_16=1) fun _ F=>?_
 refine zi F (fun h31=>?_) fun h31=>?_
 ·refine zr fun _ F=>?_
  refine JH S16.at' (fun lZ (k:Nat) aZ wZ=>∃ (pp:Nat)(hh:Int)(TC:List CallD)(ca:Option Addr)(cn cc:Nat),Fr 60 [(5,pT b11),(4,pT b1),(0,pT c_b)] aZ∧Mv lZ w16 (((lZ.set 0 (bC c_b Q1 Q0 Q2 pp hh)).set 1 (bx b11 [iV d_9.id,iV d_9.age,iV d_9.proc,iV d_9.began,.slice ca cn cc,.slice Q7 Q3 Q8,.slice Q10 Q12 Q11,.slice Q13 Q15 Q14,.slice Q4 Q6 Q5,iV d_9.state] 58)).set 2 (qK ca cn cc TC)) wZ∧(pp≤Q0)∧(J1 hh)∧(TC.length≤20)∧(k≤TC.length)∧(k≤13)∧(cn=TC.length)) (fun (k:Nat)=>14 - k) (0) ?_ ?_
  ·exact ⟨i2_16,h2_16,d_9.calls,Q16,Q18,Q17,F.cut rfl,(Mv.refl S16.at'),zO,by assumption,zO,zO,zO,yq⟩
  rintro k a32 w32 ⟨pp,hh,TC,ca,cn,cc,F,S32,hk_0,hk_1,hk_2,hk_3,hk_4,hk_5⟩
  have S32:Mv _ _ [bx _ [_,_,_] _,bx _ [_,_,_,_,_,_,_,_,_,_] _,_,_,_,bx _ [_,_,_,_,_,_,_,_,_,_] _] _:=S32
  refine zr fun _ F=>?_
  refine J1K [] [0,1,2,3,4,5,6] S32.at' [1] zK fun w34 S34 hS=>?_
  refine zg fun _ F=>?_
  refine Jr F rfl rfl (fun _=>(J4f underlying54 rfl (F.g rfl))) fun _ F=>?_
  refine zg fun _ F=>?_
  refine J2 rfl rfl (zz1 F (JY (c:=(⟨c.code,pp,hh⟩:CurD)) (n:=2) (RdA.mv (Nat.succ_pos _) Q9 (tc8 S1 S6 S9 S11 T14 S16 S32 S34)) (by unfold J1;(try dsimp only);omega) yd yg yb (At.pick (is:=[0]) S34.at' rfl) (J9 (is:=[0]))) ?_)
  rintro _ w39 ⟨i2_39,h2_39,r_39,rfl,m39,q39_0,q39_1,q39_2,q39_3⟩
  refine ⟨_,rfl,fun _ F=>?_⟩
  have S39:Mv _ _ [bx _ [_,_,_] _,bx _ [_,_,_,_,_,_,_,_,_,_] _,_,_,_,bx _ [_,_,_,_,_,_,_,_,_,_] _] _:=At.frame S34.at' [0] rfl m39
  refine nS (Sd.of S39 [1] rfl) fun hS=>?_
  refine Jr F rfl rfl (fun _=>(J4e (z:=((11+r_39:Nat):Int)) rfl rfl (F.g rfl) yBp ⟨yBb,yBb⟩)) fun _ F=>?_
  refine Jr F rfl rfl (fun _=>(J3H (b:=decide (cn < 11+r_39)) (.inr (.inr (.inl rfl))) rfl (F.g rfl) (F.g rfl) (J1V zO))) fun _ F=>?_
  refine zg fun _ F=>?_
  refine zi F (fun h43=>?_) fun h43=>?_
  ·refine zr fun _ F=>?_
   refine zl F S39.at' 1 fun _ F=>?_
   refine zv (v:=.agg #[iV 5,.string bE_,.string bE_,iV 0,iV 0,.string bE_]) F (J06 J7c rfl (lc (pr2 rfl) rfl) rfl) fun _ F=>?_
   refine zbs (ok:=okK) F S39.at' ([(⟨5,bE_,bE_,0,0,bE_⟩:CallD)]) ET_54 (fun x hx=>(List.mem_singleton.1 hx) ▸ ⟨(show J1 5 from by first|assumption|exact ⟨zO,zO⟩),(by unfold okS;decide),(by unfold okS;decide),(show J1 0 from by first|assumption|exact ⟨zO,zO⟩),(show J1 0 from by first|assumption|exact ⟨zO,zO⟩),(by unfold okS;decide)⟩) fun b47 w47 S47 _ F=>?_
   refine J0 (Jv (news:=[(⟨5,bE_,bE_,0,0,bE_⟩:CallD)]) F S47.at' 3 ET_54 rfl rfl rfl rfl rfl rfl (F.g rfl) (F.g rfl) ((At.rd S47.at' ET_54.hk 0 rfl)).1 yp fun A49 N49 C49 _ w49 F S49 l49=>?_)
   have S51:=At.drop S49.at' 1
   refine zr fun _ F=>?_
   refine zst F S51.at' 2 fun w53 S53 _ F=>?_
   have T54:Mv _ _ [bx _ [_,_,_,_,_,_,_,_,_,_] _,_,bx _ [_,_,_] _,_,_,bx _ [_,_,_,_,_,_,_,_,_,_] _] _:=S53
   exact ⟨k+1,zD,i2_39,h2_39,TC++([(⟨5,bE_,bE_,0,0,bE_⟩:CallD)]),A49,N49,C49,F.cut rfl,((tc7 S32 S34 S39 S47 S49 S51 T54).pick [2,0,1,3,4,5] rfl),zO,by assumption,by simp;omega,by simp;omega,zO,by assumption⟩
  refine zr fun _ F=>?_
  refine zw F S39.at' 1 fun _ F=>?_
  refine zst F S39.at' 5 fun w56 S56 _ F=>?_
  have T57:Mv _ _ [bx _ [_,_,_,_,_,_,_,_,_,_] _,bx _ [_,_,_] _,bx _ [_,_,_,_,_,_,_,_,_,_] _,_,_,_] _:=S56
  refine zdc F T57.at' 0 ?_
  exact ⟨i2_39,h2_39,(⟨d_9.id,d_9.age,d_9.proc,d_9.began,TC,d_9.answers,d_9.touch,d_9.marks,d_9.state⟩:TxD),ca,cn,cc,Q7,Q3,Q8,Q10,Q12,Q11,Q13,Q15,Q14,Q4,Q6,Q5,rfl,(Mv.pick (J0X S1 S6 S9 S11 T14 S16 S32 S34 S39 T57) [3,4,5,1] rfl),(Rd.mq (Rd.mq V9_0 (tc7 S11 T14 S16 S32 S34 S39 T57)) (Mv.pick (Mv.refl T57.at') [3,4,5,1] rfl)),(Rd.mq (Rd.mq V9_1 (tc7 S11 T14 S16 S32 S34 S39 T57)) (Mv.pick (Mv.refl T57.at') [3,4,5,1] rfl)),yk,yk,yn,yn,yn,yn,yn,by (try dsimp only at *);omega⟩
 refine zr fun _ F=>?_
 refine zc F (r_16=2) fun _ F=>?_
 refine zi F (fun h60=>?_) fun h60=>?_
 ·refine zr fun _ F=>?_
  refine zz F (J88 (c:=(⟨c.code,i2_16,h2_16⟩:CurD)) (RdA.mv (Nat.succ_pos _) Q9 (tc6 S1 S6 S9 S11 T14 S16)) (by unfold J1;(try dsimp only);omega) yd yb (At.pick (is:=[0]) S16.at' rfl) (J9 (is:=[0]))) ?_
  rintro _ w62 ⟨i2_62,h2_62,d_62,Q36,Q38,Q37,Q39,Q41,Q40,rfl,m62,v62_0,v62_1,q62_0,q62_1,q62_2⟩
  refine zt fun _ F=>?_
  have S62:Mv _ _ [bx _ [_,_,_] _,bx _ [_,_,_,_,_,_,_,_,_,_] _,_,_,_,bx _ [_,_,_,_,_,_,_,_,_,_] _] _:=At.frame S16.at' [0] rfl m62
  have V62_0:=Rd.gotR S16.at' S62 [0] (tc6 S1 S6 S9 S11 T14 S16) v62_0
  obtain ⟨ln62_0,le62_0,mx62_0,ni62_0⟩:=Rd.inv V62_0
  have V62_1:=Rd.gotR S16.at' S62 [0] (tc6 S1 S6 S9 S11 T14 S16) v62_1
  obtain ⟨ln62_1,le62_1,mx62_1,ni62_1⟩:=Rd.inv V62_1
  refine zst F S62.at' 1 fun w65 S65 _ F=>?_
  refine zw F S65.at' 0 fun _ F=>?_
  refine zst F S65.at' 5 fun w67 S67 _ F=>?_
  have T68:Mv _ _ [bx _ [_,_,_,_,_,_,_,_,_,_] _,bx _ [_,_,_,_,_,_,_,_,_,_] _,bx _ [_,_,_] _,_,_,_] _:=S67
  refine zdc F T68.at' 0 ?_
  exact ⟨i2_62,h2_62,(⟨d_9.id,d_9.age,d_9.proc,d_9.began,d_9.calls,d_9.answers,d_62,d_9.marks,d_9.state⟩:TxD),Q16,Q18,Q17,Q7,Q3,Q8,Q36,Q38,Q37,Q39,Q41,Q40,Q4,Q6,Q5,rfl,(Mv.pick (tc9 S1 S6 S9 S11 T14 S16 S62 S65 T68) [3,4,5,2] rfl),(Rd.mq (Rd.mq V62_0 (S65.trans T68)) (Mv.pick (Mv.refl T68.at') [3,4,5,2] rfl)),(Rd.mq (Rd.mq V62_1 (S65.trans T68)) (Mv.pick (Mv.refl T68.at') [3,4,5,2] rfl)),yk,yk,yn,yn,yn,yn,yn,by (try dsimp only at *);omega⟩
 refine zr fun _ F=>?_
 refine zc F (r_16=3) fun _ F=>?_
 refine zi F (fun h71=>?_) fun h71=>?_
 ·refine J2Q (fun lZ aZ wZ=>∃ (i2_77:Nat)(h2_77:Int)(r_77 b80:Nat)(A82:Option Addr)(N82 C82:Nat),Fr 60 [(4,pT b1),(5,pT b11)] aZ∧Mv lZ w16 ((((sel lZ [0,1,2,3,5]).set 0 (bC c_b Q1 Q0 Q2 i2_77 h2_77)).set 1 (bx b11 [iV d_9.id,iV d_9.age,iV d_9.proc,iV d_9.began,.slice Q16 Q18 Q17,.slice Q7 Q3 Q8,.slice Q10 Q12 Q11,.slice Q13 Q15 Q14,.slice A82 N82 C82,iV d_9.state] 58))++[qI A82 N82 C82 (d_9.marks++([(((r_77:Nat):Int) - 5)]))]) wZ∧(i2_77≤Q0)∧(J1 h2_77)∧(((0:Int) < 20→(r_77:Int) < 20))∧((20≤(0:Int)→r_77=0))) [1] (.b2 [0,2] 1 (.l [3,4,5,6,7,8]) 3 (.b2 [4] 1 (.l [5,6,7,8]) 5 (.l [1,6,7,8]))) S16.at' [] zK (fun w73 S73 hS=>en2 ?_) ?_
  ·refine zg fun _ F=>?_
   refine J03 ?_ ?_
   ·refine Jh rfl (Jf (v:=.slice Q4 Q6 Q5) F rfl rfl (JZ S73.at' 1 J3G rfl rfl (F.g rfl) rfl rfl (fun _=>rfl) rfl) rfl fun _ F=>?_)
    refine nS0 (enL ?_)
    refine J2 rfl rfl (zz1 F (JY (c:=(⟨c.code,i2_16,h2_16⟩:CurD)) (n:=20) (RdA.mv (Nat.succ_pos _) Q9 (tc7 S1 S6 S9 S11 T14 S16 S73)) (by unfold J1;(try dsimp only);omega) yd yg yb (At.pick (is:=[0]) S73.at' rfl) (J9 (is:=[0]))) ?_)
    rintro _ w77 ⟨i2_77,h2_77,r_77,rfl,m77,q77_0,q77_1,q77_2,q77_3⟩
    refine ⟨_,rfl,fun _ F=>?_⟩
    have S77:Mv _ _ [bx _ [_,_,_] _,bx _ [_,_,_,_,_,_,_,_,_,_] _,_,_,_,bx _ [_,_,_,_,_,_,_,_,_,_] _] _:=At.frame S73.at' [0] rfl m77
    refine nS (Sd.of S77 [] rfl) fun hS=>?_
    refine Jr F rfl rfl (fun _=>(J7I (z:=(((r_77:Nat):Int) - 5)) rfl (F.g rfl) rfl yBp ⟨yBb,yBb⟩)) fun _ F=>?_
    refine J2 rfl rfl (zb1 (ok:=okI) F S77.at' ([(((r_77:Nat):Int) - 5)]) ET_47 (fun x hx=>(List.mem_singleton.1 hx) ▸ ⟨zO,zO⟩) fun b80 w80 _ S80 F=>?_)
    refine nS (Sd.of (S77.trans S80) [] rfl) fun hS=>?_
    refine J2 rfl rfl (Jv (news:=[(((r_77:Nat):Int) - 5)]) F S80.at' 5 ET_47 rfl rfl rfl rfl rfl rfl (F.g rfl) (F.g rfl) ((At.rd S80.at' ET_47.hk 0 rfl)).1 yp fun A82 N82 C82 _ w82 F S82 l82=>?_)
    have S84:=At.drop S82.at' 1
    refine nS (Sd.of (tc4 S77 S80 S82 S84) [] rfl) fun hS=>?_
    refine zg fun _ F=>?_
    refine J2 rfl rfl (J0C S84.at' 2 J3G rfl rfl rfl rfl rfl (F.g rfl) (F.g rfl) rfl rfl rfl rfl rfl fun w86 S86=>?_)
    refine nS (Sd.of (tc5 S77 S80 S82 S84 S86) [] rfl) fun hS=>?_
    refine zg fun _ F=>?_
    exact ⟨i2_77,h2_77,r_77,b80,A82,N82,C82,F.cut rfl,((tc6 S73 S77 S80 S82 S84 S86).pick [2,0,3,4,5,1] rfl),q77_0,q77_1,q77_2,q77_3⟩
   refine Jh rfl (zz1 F (JY (c:=(⟨c.code,i2_16,h2_16⟩:CurD)) (n:=20) (RdA.mv (Nat.succ_pos _) Q9 (tc7 S1 S6 S9 S11 T14 S16 S73)) (by unfold J1;(try dsimp only);omega) yd yg yb (At.pick (is:=[0]) S73.at' rfl) (J9 (is:=[0]))) ?_)
   rintro _ w87 ⟨i2_87,h2_87,r_87,rfl,m87,q87_0,q87_1,q87_2,q87_3⟩
   refine ⟨_,rfl,fun _ F=>?_⟩
   have S87:Mv _ _ [bx _ [_,_,_] _,bx _ [_,_,_,_,_,_,_,_,_,_] _,_,_,_,bx _ [_,_,_,_,_,_,_,_,_,_] _] _:=At.frame S73.at' [0] rfl m87
   refine nS (Sd.of S87 [] rfl) fun hS=>en2 ?_
   refine Jr F rfl rfl (fun _=>(J7I (z:=(((r_87:Nat):Int) - 5)) rfl (F.g rfl) rfl yBp ⟨yBb,yBb⟩)) fun _ F=>?_
   refine J03 ?_ ?_
   ·refine Jh rfl (Jf (v:=.slice Q4 Q6 Q5) F rfl rfl (JZ S87.at' 1 J3G rfl rfl (F.g rfl) rfl rfl (fun _=>rfl) rfl) rfl fun _ F=>?_)
    refine nS0 (enL ?_)
    refine J2 rfl rfl (zb1 (ok:=okI) F S87.at' ([(((r_87:Nat):Int) - 5)]) ET_47 (fun x hx=>(List.mem_singleton.1 hx) ▸ ⟨zO,zO⟩) fun b91 w91 _ S91 F=>?_)
    refine nS (Sd.of (S87.trans S91) [] rfl) fun hS=>?_
    refine J2 rfl rfl (Jv (news:=[(((r_87:Nat):Int) - 5)]) F S91.at' 5 ET_47 rfl rfl rfl rfl rfl rfl (F.g rfl) (F.g rfl) ((At.rd S91.at' ET_47.hk 0 rfl)).1 yp fun A93 N93 C93 _ w93 F S93 l93=>?_)
    have S95:=At.drop S93.at' 1
    refine nS (Sd.of (tc4 S87 S91 S93 S95) [] rfl) fun hS=>?_
    refine zg fun _ F=>?_
    refine J2 rfl rfl (J0C S95.at' 2 J3G rfl rfl rfl rfl rfl (F.g rfl) (F.g rfl) rfl rfl rfl rfl rfl fun w97 S97=>?_)
    refine nS (Sd.of (tc5 S87 S91 S93 S95 S97) [] rfl) fun hS=>?_
    refine zg fun _ F=>?_
    exact ⟨i2_87,h2_87,r_87,b91,A93,N93,C93,F.cut rfl,((tc6 S73 S87 S91 S93 S95 S97).pick [2,0,3,4,5,1] rfl),q87_0,q87_1,q87_2,q87_3⟩
   refine Jh rfl (zb1 (ok:=okI) F S87.at' ([(((r_87:Nat):Int) - 5)]) ET_47 (fun x hx=>(List.mem_singleton.1 hx) ▸ ⟨zO,zO⟩) fun b98 w98 _ S98 F=>?_)
   refine nS (Sd.of (S87.trans S98) [] rfl) fun hS=>enL ?_
   refine J2 rfl rfl (Jf (v:=.slice Q4 Q6 Q5) F rfl rfl (JZ S98.at' 2 J3G rfl rfl (F.g rfl) rfl rfl (fun _=>rfl) rfl) rfl fun _ F=>?_)
   refine nS0 ?_
   refine J2 rfl rfl (Jv (news:=[(((r_87:Nat):Int) - 5)]) F S98.at' 5 ET_47 rfl rfl rfl rfl rfl rfl (F.g rfl) (F.g rfl) ((At.rd S98.at' ET_47.hk 0 rfl)).1 yp fun A101 N101 C101 _ w101 F S101 l101=>?_)
   have S103:=At.drop S101.at' 1
   refine nS (Sd.of (tc4 S87 S98 S101 S103) [] rfl) fun hS=>?_
   refine zg fun _ F=>?_
   refine J2 rfl rfl (J0C S103.at' 2 J3G rfl rfl rfl rfl rfl (F.g rfl) (F.g rfl) rfl rfl rfl rfl rfl fun w105 S105=>?_)
   refine nS (Sd.of (tc5 S87 S98 S101 S103 S105) [] rfl) fun hS=>?_
   refine zg fun _ F=>?_
   exact ⟨i2_87,h2_87,r_87,b98,A101,N101,C101,F.cut rfl,((tc6 S73 S87 S98 S101 S103 S105).pick [2,0,3,4,5,1] rfl),q87_0,q87_1,q87_2,q87_3⟩
  rintro a106 w106 ⟨i2_77,h2_77,r_77,b80,A82,N82,C82,F,S106,Q44,Q45,Q46,Q47⟩
  have S106:Mv _ _ [bx _ [_,_,_] _,bx _ [_,_,_,_,_,_,_,_,_,_] _,_,_,bx _ [_,_,_,_,_,_,_,_,_,_] _,_] _:=S106
  obtain ⟨Q50,Q54,Q58⟩:=At.ownInv S106.at' ET_47.hk 5 rfl
  refine zr fun _ F=>?_
  refine zw F S106.at' 1 fun _ F=>?_
  refine zst F S106.at' 4 fun w108 S108 _ F=>?_
  refine zdc F S108.at' 0 ?_
  exact ⟨i2_77,h2_77,(⟨d_9.id,d_9.age,d_9.proc,d_9.began,d_9.calls,d_9.answers,d_9.touch,d_9.marks++([(((r_77:Nat):Int) - 5)]),d_9.state⟩:TxD),Q16,Q18,Q17,Q7,Q3,Q8,Q10,Q12,Q11,Q13,Q15,Q14,A82,N82,C82,rfl,(Mv.pick (tc8 S1 S6 S9 S11 T14 S16 S106 S108) [3,4,5,1] rfl),(Rd.mq (Rd.mq V9_0 (tc5 S11 T14 S16 S106 S108)) (Mv.pick (Mv.refl S108.at') [3,4,5,1] rfl)),(Rd.mq (Rd.mq V9_1 (tc5 S11 T14 S16 S106 S108)) (Mv.pick (Mv.refl S108.at') [3,4,5,1] rfl)),yk,yk,yn,yn,yn,yn,yn,by (try dsimp only at *);omega⟩
 refine zr fun _ F=>?_
 refine zc F (r_16=4) fun _ F=>?_
 refine zi F (fun h111=>?_) fun h111=>?_
 ·refine zr fun _ F=>?_
  refine zl F S16.at' 1 fun _ F=>?_
  refine zc F (Q3 > 0) fun _ F=>?_
  refine zi F (fun h116=>?_) fun h116=>?_
  ·refine zr fun _ F=>?_
   refine zl F S16.at' 1 fun _ F=>?_
   obtain ⟨B119,x1,ad119,hx1,okx1,cl119⟩:=At.ownAt S16.at' ET_55.hk 3 rfl 0  yq
   refine zv F (JB (i:=0) ET_55 rfl ((F.ev 56 rfl).trans (by rw [ad119])) rfl zO yq) fun _ F=>?_
   refine J0 (Jev (off:=1) S16.at' 3 0 x1 (⟨x1.code,7,x1.text⟩:AnsD) ET_55.hk ET_55.h1 J3b rfl ad119 rfl rfl rfl rfl (F.g rfl) rfl rfl yq hx1 rfl (by decide) (⟨okx1.1,(show J1 7 from by first|assumption|exact ⟨zO,zO⟩),okx1.2.2⟩) fun w122 S122=>?_)
   obtain ⟨x2,hx2,ex2⟩:∃ zZ,nth (d_9.answers.set 0 (⟨x1.code,7,x1.text⟩:AnsD)) 0=some zZ∧zZ=(⟨x1.code,7,x1.text⟩:AnsD):=⟨_,JdX hx1,rfl⟩
   have okx2:okR x2:=by rw [ex2];exact ⟨okx1.1,(show J1 7 from by first|assumption|exact ⟨zO,zO⟩),okx1.2.2⟩
   refine zr fun _ F=>?_
   refine zw F S122.at' 2 fun _ F=>?_
   refine zst F S122.at' 5 fun w124 S124 _ F=>?_
   refine zdc F S124.at' 0 ?_
   exact ⟨i2_16,h2_16,(⟨d_9.id,d_9.age,d_9.proc,d_9.began,d_9.calls,d_9.answers.set 0 (⟨x1.code,7,x1.text⟩:AnsD),d_9.touch,d_9.marks,d_9.state⟩:TxD),Q16,Q18,Q17,Q7,Q3,Q8,Q10,Q12,Q11,Q13,Q15,Q14,Q4,Q6,Q5,rfl,(Mv.pick (tc8 S1 S6 S9 S11 T14 S16 S122 S124) [4,1,5,2] rfl),(Rd.mq (Rd.mq V9_0 (tc5 S11 T14 S16 S122 S124)) (Mv.pick (Mv.refl S124.at') [4,1,5,2] rfl)),(Rd.mq (Rd.mq V9_1 (tc5 S11 T14 S16 S122 S124)) (Mv.pick (Mv.refl S124.at') [4,1,5,2] rfl)),yk,yk,yn,yn,yn,yn,yn,by (try dsimp only at *);omega⟩
  refine zr fun _ F=>?_
  refine zw F S16.at' 1 fun _ F=>?_
  refine zst F S16.at' 5 fun w126 S126 _ F=>?_
  refine zdc F S126.at' 0 ?_
  exact ⟨i2_16,h2_16,d_9,Q16,Q18,Q17,Q7,Q3,Q8,Q10,Q12,Q11,Q13,Q15,Q14,Q4,Q6,Q5,rfl,(Mv.pick (tc7 S1 S6 S9 S11 T14 S16 S126) [3,4,5,1] rfl),(Rd.mq (Rd.mq V9_0 (tc4 S11 T14 S16 S126)) (Mv.pick (Mv.refl S126.at') [3,4,5,1] rfl)),(Rd.mq (Rd.mq V9_1 (tc4 S11 T14 S16 S126)) (Mv.pick (Mv.refl S126.at') [3,4,5,1] rfl)),yk,yk,yn,yn,yn,yn,yn,by (try dsimp only at *);omega⟩
 refine zr fun _ F=>?_
 refine zw F S16.at' 1 fun _ F=>?_
 refine zst F S16.at' 5 fun w128 S128 _ F=>?_
 refine zdc F S128.at' 0 ?_
 exact ⟨i2_16,h2_16,d_9,Q16,Q18,Q17,Q7,Q3,Q8,Q10,Q12,Q11,Q13,Q15,Q14,Q4,Q6,Q5,rfl,(Mv.pick (tc7 S1 S6 S9 S11 T14 S16 S128) [3,4,5,1] rfl),(Rd.mq (Rd.mq V9_0 (tc4 S11 T14 S16 S128)) (Mv.pick (Mv.refl S128.at') [3,4,5,1] rfl)),(Rd.mq (Rd.mq V9_1 (tc4 S11 T14 S16 S128)) (Mv.pick (Mv.refl S128.at') [3,4,5,1] rfl)),yk,yk,yn,yn,yn,yn,yn,by (try dsimp only at *);omega⟩
theorem Jd3 {code:List Nat} {Q20:Option Addr} {Q1 Q21:Nat} (Q37:RdA 1 J7 okB H w (.slice Q20 Q1 Q21) code) (tab0:Tb 0 H w) (tab1:Tb 1 H w) (tab2:Tb 2 H w) (p0:Q1≤1048576) :
 Calls prog 77 #[.slice Q20 Q1 Q21] w fun e w'=>∃ (s:List CellD)(d:TxD)(r0_a:Option Addr)(r0_n r0_c:Nat)(Q14:Option Addr)(Q16 Q15:Nat)(Q11:Option Addr)(Q13 Q12:Nat)(Q31:Option Addr)(Q33 Q32:Nat)(Q34:Option Addr)(Q36 Q35:Nat)(Q17:Option Addr)(Q19 Q18:Nat),e=.returned (.tuple #[.slice r0_a r0_n r0_c,.agg #[iV d.id,iV d.age,iV d.proc,iV d.began,.slice Q14 Q16 Q15,.slice Q11 Q13 Q12,.slice Q31 Q33 Q32,.slice Q34 Q36 Q35,.slice Q17 Q19 Q18,iV d.state]])∧Mv [] w [qK Q14 Q16 Q15 d.calls,qR Q11 Q13 Q12 d.answers,qI Q17 Q19 Q18 d.marks] w'∧Rd 2 J6 okC (V (HP H []) w [qK Q14 Q16 Q15 d.calls,qR Q11 Q13 Q12 d.answers,qI Q17 Q19 Q18 d.marks]) w' (.slice r0_a r0_n r0_c) s∧Rd 1 J3 okS (V (HP H []) w [qK Q14 Q16 Q15 d.calls,qR Q11 Q13 Q12 d.answers,qI Q17 Q19 Q18 d.marks]) w' (.slice Q31 Q33 Q32) d.touch.reads∧Rd 1 J3 okS (V (HP H []) w [qK Q14 Q16 Q15 d.calls,qR Q11 Q13 Q12 d.answers,qI Q17 Q19 Q18 d.marks]) w' (.slice Q34 Q36 Q35) d.touch.writes∧J0t s∧s.length≤50003∧J1 d.id∧J1 d.age∧J1 d.proc∧J1 d.began∧J1 d.state∧d.calls.length≤30:=by
 have Q0:RdA 1 J7 okB (V (HP H []) w []) w (.slice Q20 Q1 Q21) code:=RdA.startP Q37 (fun _ _=>JF _)
 obtain ⟨Q42,Q41,Q55,Q56⟩:=RdA.inv Q37
 have V_tab0:Tb 0 (V (HP H []) w []) w:=Tb.startP tab0 (fun _ _=>JF _)
 have V_tab1:Tb 1 (V (HP H []) w []) w:=Tb.startP tab1 (fun _ _=>JF _)
 have V_tab2:Tb 2 (V (HP H []) w []) w:=Tb.startP tab2 (fun _ _=>JF _)
 refine ze fun _ F=>?_
 refine zal F (At.nil w) J1t fun b2 w2 S2 _ F=>?_
 refine zz F (J4X (code:=code) (RdA.mv (Nat.succ_pos _) Q0 S2) yb) ?_
 rintro _ w5 ⟨h2_5,r0_b_5,rfl,m5,q5_0⟩
 refine zt fun _ F=>?_
 have S5:Mv _ _ [bx _ [_,_,_] _,bx _ [_,_,_,_,_,_,_,_,_,_] _] _:=At.frame S2.at' [] rfl m5
 refine zz F (JcM (c:=(⟨code,0,h2_5⟩:CurD)) (most:=6) (RdA.mv (Nat.succ_pos _) Q0 (S2.trans S5)) (by unfold J1;(try dsimp only);omega) yd yg (Tb.mv V_tab0 (S2.trans S5)) (Tb.mv V_tab1 (S2.trans S5)) (Tb.mv V_tab2 (S2.trans S5)) yb yb (At.pick (is:=[0]) S5.at' rfl) (J9 (is:=[0]))) ?_
 rintro _ w9 ⟨i2_9,h2_9,s_9,Q38,Q40,Q39,rfl,m9,v9_0,q9_0,q9_1,q9_2,q9_3⟩
 refine zt fun _ F=>?_
 have S9:Mv _ _ [bx _ [_,_,_] _,bx _ [_,_,_,_,_,_,_,_,_,_] _] _:=At.frame S5.at' [0] rfl m9
 have V9_0:=Rd.gotR S5.at' S9 [0] (S2.trans S5) v9_0
 obtain ⟨ln9_0,le9_0,mx9_0,ni9_0⟩:=Rd.inv V9_0
 refine zz F (Jdr (c:=(⟨code,i2_9,h2_9⟩:CurD)) (s:=s_9) (RdA.mv (Nat.succ_pos _) Q0 (tc3 S2 S5 S9)) (by unfold J1;(try dsimp only);omega) yd V9_0 (Tb.mv V_tab0 (tc3 S2 S5 S9)) (Tb.mv V_tab1 (tc3 S2 S5 S9)) (Tb.mv V_tab2 (tc3 S2 S5 S9)) yb yb yb (At.pick (is:=[0]) S9.at' rfl) (J9 (is:=[0]))) ?_
 rintro _ w14 ⟨i2_14,h2_14,d_14,Q5,Q7,Q6,Q2,Q4,Q3,Q22,Q24,Q23,Q25,Q27,Q26,Q8,Q10,Q9,rfl,m14,v14_0,v14_1,q14_0,q14_1,q14_2,q14_3,q14_4,q14_5,q14_6,q14_7⟩
 refine zt fun _ F=>?_
 have S14:Mv _ _ [_,_,_,bx _ [_,_,_] _,bx _ [_,_,_,_,_,_,_,_,_,_] _] _:=At.frame S9.at' [0] rfl m14
 obtain ⟨Q43,Q47,Q51⟩:=At.ownInv S14.at' ET_54.hk 0 rfl
 obtain ⟨Q44,Q48,Q52⟩:=At.ownInv S14.at' ET_55.hk 1 rfl
 obtain ⟨Q45,Q49,Q53⟩:=At.ownInv S14.at' ET_47.hk 2 rfl
 have V14_0:=Rd.gotR S9.at' S14 [0] (tc3 S2 S5 S9) v14_0
 obtain ⟨ln14_0,le14_0,mx14_0,ni14_0⟩:=Rd.inv V14_0
 have V14_1:=Rd.gotR S9.at' S14 [0] (tc3 S2 S5 S9) v14_1
 obtain ⟨ln14_1,le14_1,mx14_1,ni14_1⟩:=Rd.inv V14_1
 refine zal F S14.at' J1t fun b16 w16 S16 _ F=>?_
 refine zst F S16.at' 0 fun w18 S18 _ F=>?_
 have T19:Mv _ _ [bx _ [_,_,_,_,_,_,_,_,_,_] _,_,_,_,bx _ [_,_,_] _,bx _ [_,_,_,_,_,_,_,_,_,_] _] _:=S18
 refine zz F (J1y (c:=(⟨code,i2_14,h2_14⟩:CurD)) (n:=6) (RdA.mv (Nat.succ_pos _) Q0 (tc6 S2 S5 S9 S14 S16 T19)) (by unfold J1;(try dsimp only);omega) yd yg yb (At.pick (is:=[4]) T19.at' rfl) (J9 (is:=[4]))) ?_
 rintro _ w21 ⟨i2_21,h2_21,r_21,rfl,m21,q21_0,q21_1⟩
 refine zt fun _ F=>?_
 have S21:Mv _ _ [bx _ [_,_,_] _,bx _ [_,_,_,_,_,_,_,_,_,_] _,_,_,_,bx _ [_,_,_,_,_,_,_,_,_,_] _] _:=At.frame T19.at' [4] rfl m21
 refine zib F (fun h23=>?_) fun h23=>?_
 ·refine zr fun _ F=>?_
  refine zz F (Jd2 (c:=(⟨code,i2_21,h2_21⟩:CurD)) (s:=s_9) (RdA.mv (Nat.succ_pos _) Q0 (tc7 S2 S5 S9 S14 S16 T19 S21)) (by unfold J1;(try dsimp only);omega) yd (Rd.mq V9_0 (tc4 S14 S16 T19 S21)) yb yb yb (At.pick (is:=[0]) S21.at' rfl) (J9 (is:=[0]))) ?_
  rintro _ w26 ⟨i2_26,h2_26,d_26,Q28,Q30,Q29,rfl,m26,q26_0,q26_1,q26_2,q26_3⟩
  refine zt fun _ F=>?_
  have S26:Mv _ _ [_,bx _ [_,_,_] _,bx _ [_,_,_,_,_,_,_,_,_,_] _,_,_,_,bx _ [_,_,_,_,_,_,_,_,_,_] _] _:=At.frame S21.at' [0] rfl m26
  obtain ⟨Q46,Q50,Q54⟩:=At.ownInv S26.at' ET_28.hk 0 rfl
  refine J1K [] [0,1,2,3] S26.at' [2] zK fun w30 S30 hS=>?_
  refine zg fun _ F=>?_
  refine J2 rfl rfl (J0C S30.at' 6 J2P rfl rfl rfl rfl rfl (F.g rfl) (F.g rfl) rfl rfl rfl rfl rfl fun w34 S34=>?_)
  refine nS (Sd.of S34 [3] rfl) fun hS=>?_
  refine zg fun _ F=>?_
  have Z35:Rd 2 J6 okC (V (HP H []) w [bx b2 [iV d_14.id,iV d_14.age,iV d_14.proc,iV d_14.began,.slice Q5 Q7 Q6,.slice Q2 Q4 Q3,.slice Q22 Q24 Q23,.slice Q25 Q27 Q26,.slice Q8 Q10 Q9,iV d_14.state] 58,bC r0_b_5 Q20 Q1 Q21 i2_26 h2_26,bx b16 [iV d_14.id,iV d_14.age,iV d_14.proc,iV d_14.began,.slice Q5 Q7 Q6,.slice Q2 Q4 Q3,.slice Q22 Q24 Q23,.slice Q25 Q27 Q26,.slice Q8 Q10 Q9,iV d_14.state] 58,qK Q5 Q7 Q6 d_14.calls,qR Q2 Q4 Q3 d_14.answers,qI Q8 Q10 Q9 d_14.marks]) w34 (.slice Q28 Q30 Q29) d_26:=At.freezeP S34.at' ET_28.hk 1 rfl (J23 (J0X S2 S5 S9 S14 S16 T19 S21 S26 S30 S34))
  have S35:=At.drop S34.at' 1
  refine Jg F (JU rfl (zta F) (zca F S34.at' 0)) ?_
  exact ⟨d_26,d_14,Q28,Q30,Q29,Q5,Q7,Q6,Q2,Q4,Q3,Q22,Q24,Q23,Q25,Q27,Q26,Q8,Q10,Q9,rfl,(Mv.pick (J2C S2 S5 S9 S14 S16 T19 S21 S26 S30 S34 S35) [3,4,5] rfl),(Rd.mq Z35 (Mv.pick (Mv.refl S35.at') [3,4,5] rfl)),(Rd.mq (Rd.mq V14_0 (tc7 S16 T19 S21 S26 S30 S34 S35)) (Mv.pick (Mv.refl S35.at') [3,4,5] rfl)),(Rd.mq (Rd.mq V14_1 (tc7 S16 T19 S21 S26 S30 S34 S35)) (Mv.pick (Mv.refl S35.at') [3,4,5] rfl)),yk,yk,yk,yk,yk,yk,yk,yk⟩
 refine zr fun _ F=>?_
 refine J1K [] [0,1,2,3] S21.at' [1] zK fun w37 S37 hS=>?_
 refine zg fun _ F=>?_
 refine J2 rfl rfl (J0C S37.at' 5 J2P rfl rfl rfl rfl rfl (F.g rfl) (F.g rfl) rfl rfl rfl rfl rfl fun w41 S41=>?_)
 refine nS (Sd.of S41 [2] rfl) fun hS=>?_
 refine zg fun _ F=>?_
 refine Jg F (JU rfl (zta F) (zca F S41.at' 0)) ?_
 exact ⟨s_9,d_14,Q38,Q40,Q39,Q5,Q7,Q6,Q2,Q4,Q3,Q22,Q24,Q23,Q25,Q27,Q26,Q8,Q10,Q9,rfl,(Mv.pick (tc9 S2 S5 S9 S14 S16 T19 S21 S37 S41) [3,4,5] rfl),(Rd.mq (Rd.mq V9_0 (tc6 S14 S16 T19 S21 S37 S41)) (Mv.pick (Mv.refl S41.at') [3,4,5] rfl)),(Rd.mq (Rd.mq V14_0 (tc5 S16 T19 S21 S37 S41)) (Mv.pick (Mv.refl S41.at') [3,4,5] rfl)),(Rd.mq (Rd.mq V14_1 (tc5 S16 T19 S21 S37 S41)) (Mv.pick (Mv.refl S41.at') [3,4,5] rfl)),yk,yk,yk,yk,yk,yk,yk,yk⟩
theorem Jcn {code:List Nat} {Q10:Option Addr} {Q9 Q11:Nat} (Q18:RdA 1 J7 okB H w (.slice Q10 Q9 Q11) code) (tab0:Tb 0 H w) (tab1:Tb 1 H w) (tab2:Tb 2 H w) (p0:Q9≤1048576) :
 Calls prog 24 #[.slice Q10 Q9 Q11] w fun e w'=>∃ (s:List CellD)(d:TxD)(r0_a:Option Addr)(r0_n r0_c:Nat)(Q3:Option Addr)(Q5 Q4:Nat)(Q0:Option Addr)(Q2 Q1:Nat)(Q12:Option Addr)(Q14 Q13:Nat)(Q15:Option Addr)(Q17 Q16:Nat)(Q6:Option Addr)(Q8 Q7:Nat),e=.returned (.tuple #[.slice r0_a r0_n r0_c,.agg #[iV d.id,iV d.age,iV d.proc,iV d.began,.slice Q3 Q5 Q4,.slice Q0 Q2 Q1,.slice Q12 Q14 Q13,.slice Q15 Q17 Q16,.slice Q6 Q8 Q7,iV d.state]])∧Mv [] w [qK Q3 Q5 Q4 d.calls,qR Q0 Q2 Q1 d.answers,qI Q6 Q8 Q7 d.marks] w'∧Rd 2 J6 okC (V (HP H []) w [qK Q3 Q5 Q4 d.calls,qR Q0 Q2 Q1 d.answers,qI Q6 Q8 Q7 d.marks]) w' (.slice r0_a r0_n r0_c) s∧Rd 1 J3 okS (V (HP H []) w [qK Q3 Q5 Q4 d.calls,qR Q0 Q2 Q1 d.answers,qI Q6 Q8 Q7 d.marks]) w' (.slice Q12 Q14 Q13) d.touch.reads∧Rd 1 J3 okS (V (HP H []) w [qK Q3 Q5 Q4 d.calls,qR Q0 Q2 Q1 d.answers,qI Q6 Q8 Q7 d.marks]) w' (.slice Q15 Q17 Q16) d.touch.writes∧J0t s∧s.length≤50003∧J1 d.id∧J1 d.age∧J1 d.proc∧J1 d.began∧J1 d.state∧d.calls.length≤30:=by
 have Q19:RdA 1 J7 okB (V (HP H []) w []) w (.slice Q10 Q9 Q11) code:=RdA.startP Q18 (fun _ _=>JF _)
 obtain ⟨Q39,Q38,Q49,Q50⟩:=RdA.inv Q18
 have V_tab0:Tb 0 (V (HP H []) w []) w:=Tb.startP tab0 (fun _ _=>JF _)
 have V_tab1:Tb 1 (V (HP H []) w []) w:=Tb.startP tab1 (fun _ _=>JF _)
 have V_tab2:Tb 2 (V (HP H []) w []) w:=Tb.startP tab2 (fun _ _=>JF _)
 refine ze fun _ F=>?_
 refine zal F (At.nil w) J1t fun b2 w2 S2 _ F=>?_
 refine zz F (Jd3 (code:=code) (RdA.mv (Nat.succ_pos _) Q19 S2) (Tb.mv V_tab0 S2) (Tb.mv V_tab1 S2) (Tb.mv V_tab2 S2) yb) ?_
 rintro _ w5 ⟨s_5,d_5,Q20,Q22,Q21,Q32,Q34,Q33,Q29,Q31,Q30,Q23,Q25,Q24,Q26,Q28,Q27,Q35,Q37,Q36,rfl,m5,v5_0,v5_1,v5_2,q5_0,q5_1,q5_2,q5_3,q5_4,q5_5,q5_6,q5_7⟩
 refine zt fun _ F=>?_
 have S5:Mv _ _ [_,_,_,bx _ [_,_,_,_,_,_,_,_,_,_] _] _:=At.frame S2.at' [] rfl m5
 obtain ⟨Q40,Q43,Q46⟩:=At.ownInv S5.at' ET_54.hk 0 rfl
 obtain ⟨Q41,Q44,Q47⟩:=At.ownInv S5.at' ET_55.hk 1 rfl
 obtain ⟨Q42,Q45,Q48⟩:=At.ownInv S5.at' ET_47.hk 2 rfl
 have V5_0:=Rd.gotR S2.at' S5 [] S2 v5_0
 obtain ⟨ln5_0,le5_0,mx5_0,ni5_0⟩:=Rd.inv V5_0
 have V5_1:=Rd.gotR S2.at' S5 [] S2 v5_1
 obtain ⟨ln5_1,le5_1,mx5_1,ni5_1⟩:=Rd.inv V5_1
 have V5_2:=Rd.gotR S2.at' S5 [] S2 v5_2
 obtain ⟨ln5_2,le5_2,mx5_2,ni5_2⟩:=Rd.inv V5_2
 refine zst F S5.at' 3 fun w10 S10 _ F=>?_
 refine Jg F (JU rfl (zta F) (zca F S10.at' 0)) ?_
 exact ⟨s_5,d_5,Q20,Q22,Q21,Q32,Q34,Q33,Q29,Q31,Q30,Q23,Q25,Q24,Q26,Q28,Q27,Q35,Q37,Q36,rfl,(Mv.pick (tc3 S2 S5 S10) [1,2,3] rfl),(Rd.mq (Rd.mq V5_0 S10) (Mv.pick (Mv.refl S10.at') [1,2,3] rfl)),(Rd.mq (Rd.mq V5_1 S10) (Mv.pick (Mv.refl S10.at') [1,2,3] rfl)),(Rd.mq (Rd.mq V5_2 S10) (Mv.pick (Mv.refl S10.at') [1,2,3] rfl)),yk,yk,yk,yk,yk,yk,yk,yk⟩
end
section
variable {w:World} {H:Nat→Prop}
set_option maxRecDepth 100000
set_option maxHeartbeats 1000000
theorem JcA {s:List CellD} {s_a:Option Addr} {s_n s_c:Nat} {steps:List StepD} {Q0:Option Addr} {Q2 Q1:Nat} {P:Int} {cs:List CallD} (v_s:Rd 2 J6 okC H w (.slice s_a s_n s_c) s) (Q3:Rd 7 J1p J1f H w (.slice Q0 Q2 Q1) steps) (tab0:Tb 0 H w) (tab1:Tb 1 H w) (tab2:Tb 2 H w) (p0:steps=cs.map (J1J P)) (p1:J0t s) (p2:s.length≤1048576) (p3:cs.length≤1048576) (p4:J1 P) :
 Calls prog 118 #[.slice s_a s_n s_c,.slice Q0 Q2 Q1] w fun e w'=>∃ (A:List AnsD)(r0_a:Option Addr)(r0_n r0_c:Nat)(r1_a:Option Addr)(r1_n r1_c:Nat),e=.returned (.tuple #[.slice r0_a r0_n r0_c,.slice r1_a r1_n r1_c])∧Mv [] w [qC r0_a r0_n r0_c (J0m s P cs),qR r1_a r1_n r1_c A] w'∧(J0m s P cs).length≤400000000:=by
 have hT:=J3F tab0 tab1 tab2
 have hn:=v_s.inv.1
 have hq:=Q3.inv.1
 subst p0
 rw [List.length_map] at hq
 refine (JdY (X:=J2f s P) (cs:=cs) hT v_s Q3 (J48 p1 p2) zO zO zO p4).mono ?_
 rintro e w' ⟨sa,sn,sc,A,rfl,m,hl⟩
 exact ⟨A.l,sa,sn,sc,A.a,A.n,A.c,rfl,m,Nat.le_trans hl zO⟩
theorem Jd9 {s:List CellD} {s_a:Option Addr} {s_n s_c:Nat} {x:TxD} {Q8:Option Addr} {Q10 Q9:Nat} {Q5:Option Addr} {Q7 Q6:Nat} {x_Ra:Option Addr} {x_Rn x_Rc:Nat} {x_Wa:Option Addr} {x_Wn x_Wc:Nat} {Q11:Option Addr} {Q13 Q12:Nat} (v_s:Rd 2 J6 okC H w (.slice s_a s_n s_c) s) (Q19:J1 x.id) (Q17:J1 x.age) (Q20:J1 x.proc) (Q18:J1 x.began) (Q1:Rd 6 J16 okK H w (.slice Q8 Q10 Q9) x.calls) (Q0:Rd 3 J0x okR H w (.slice Q5 Q7 Q6) x.answers) (Q3:Rd 1 J3 okS H w (.slice x_Ra x_Rn x_Rc) x.touch.reads) (Q4:Rd 1 J3 okS H w (.slice x_Wa x_Wn x_Wc) x.touch.writes) (Q2:Rd 1 J0w okI H w (.slice Q11 Q13 Q12) x.marks) (Q21:J1 x.state) (tab0:Tb 0 H w) (tab1:Tb 1 H w) (tab2:Tb 2 H w) (p0:J0t s) (p1:s.length≤1048576) (p2:x.calls.length≤1048576) (p3:J1 x.proc) :
 Calls prog 68 #[.slice s_a s_n s_c,.agg #[iV x.id,iV x.age,iV x.proc,iV x.began,.slice Q8 Q10 Q9,.slice Q5 Q7 Q6,.slice x_Ra x_Rn x_Rc,.slice x_Wa x_Wn x_Wc,.slice Q11 Q13 Q12,iV x.state]] w fun e w'=>∃ (r0_a:Option Addr)(r0_n r0_c:Nat),e=.returned (.slice r0_a r0_n r0_c)∧Mv [] w [qC r0_a r0_n r0_c (J0m s x.proc x.calls)] w'∧(J0m s x.proc x.calls).length≤400000000:=by
 have V_v_s:=Rd.start v_s zN
 obtain ⟨ln_s,le_s,mx_s,ni_s⟩:=Rd.inv v_s
 have V_v_x_calls:=Rd.start Q1 zN
 obtain ⟨Q28,Q23,Q42,Q47⟩:=Rd.inv Q1
 have V_v_x_answers:=Rd.start Q0 zN
 obtain ⟨Q27,Q22,Q41,Q46⟩:=Rd.inv Q0
 have V_v_x_touch_reads:=Rd.start Q3 zN
 obtain ⟨Q30,Q25,Q44,Q49⟩:=Rd.inv Q3
 have V_v_x_touch_writes:=Rd.start Q4 zN
 obtain ⟨Q31,Q26,Q45,Q50⟩:=Rd.inv Q4
 have V_v_x_marks:=Rd.start Q2 zN
 obtain ⟨Q29,Q24,Q43,Q48⟩:=Rd.inv Q2
 have V_tab0:=Tb.start tab0 zN
 have V_tab1:=Tb.start tab1 zN
 have V_tab2:=Tb.start tab2 zN
 refine ze fun _ F=>?_
 refine zbx F (At.nil w) fun b1 w1 S1 _ F=>?_
 refine zw F S1.at' 0 fun _ F=>?_
 refine zz F (JcS (tx:=x) yf yf yf yf (Rd.mq V_v_x_calls S1) (Rd.mq V_v_x_answers S1) (Rd.mq V_v_x_touch_reads S1) (Rd.mq V_v_x_touch_writes S1) (Rd.mq V_v_x_marks S1) yf yb yb) ?_
 rintro _ w6 ⟨Q51,Q53,Q52,rfl,m6⟩
 refine zt fun _ F=>?_
 have S6:Mv _ _ [_,bx _ [_,_,_,_,_,_,_,_,_,_] _] _:=At.frame S1.at' [] rfl m6
 obtain ⟨Q32,Q35,Q38⟩:=At.ownInv S6.at' ET_151.hk 0 rfl
 refine zz F (JcA (H:=fun _=>True) (P:=x.proc) (cs:=x.calls) (s:=s) (steps:=J3E x) (Rd.top (Rd.mq V_v_s (S1.trans S6))) (At.rd S6.at' ET_151.hk 0 rfl) (Tb.top (Tb.mv V_tab0 (S1.trans S6))) (Tb.top (Tb.mv V_tab1 (S1.trans S6))) (Tb.top (Tb.mv V_tab2 (S1.trans S6))) yBx yBx yBx yBx yBx) ?_
 rintro _ w8 ⟨A_8,Q14,Q16,Q15,Q54,Q56,Q55,rfl,m8,q8_0⟩
 refine zt fun _ F=>?_
 have S8:Mv _ _ [_,_,_,bx _ [_,_,_,_,_,_,_,_,_,_] _] _:=At.frame S6.at' [] rfl m8
 obtain ⟨Q33,Q36,Q39⟩:=At.ownInv S8.at' ET_28.hk 0 rfl
 obtain ⟨Q34,Q37,Q40⟩:=At.ownInv S8.at' ET_55.hk 1 rfl
 refine zd1 F ?_
 exact ⟨Q14,Q16,Q15,rfl,(Mv.pick (tc3 S1 S6 S8) [0] rfl),yq⟩
end
section
variable {w:World} {H:Nat→Prop}
set_option maxRecDepth 100000
set_option maxHeartbeats 1000000
theorem JcQ {s:List CellD} {s_a:Option Addr} {s_n s_c:Nat} {x:TxD} {Q8:Option Addr} {Q10 Q9:Nat} {Q5:Option Addr} {Q7 Q6:Nat} {x_Ra:Option Addr} {x_Rn x_Rc:Nat} {x_Wa:Option Addr} {x_Wn x_Wc:Nat} {Q11:Option Addr} {Q13 Q12:Nat} (v_s:Rd 2 J6 okC H w (.slice s_a s_n s_c) s) (Q16:J1 x.id) (Q14:J1 x.age) (Q17:J1 x.proc) (Q15:J1 x.began) (Q1:Rd 6 J16 okK H w (.slice Q8 Q10 Q9) x.calls) (Q0:Rd 3 J0x okR H w (.slice Q5 Q7 Q6) x.answers) (Q3:Rd 1 J3 okS H w (.slice x_Ra x_Rn x_Rc) x.touch.reads) (Q4:Rd 1 J3 okS H w (.slice x_Wa x_Wn x_Wc) x.touch.writes) (Q2:Rd 1 J0w okI H w (.slice Q11 Q13 Q12) x.marks) (Q18:J1 x.state) (tab0:Tb 0 H w) (tab1:Tb 1 H w) (tab2:Tb 2 H w) (p0:J0t s) (p1:s.length≤1048576) (p2:x.calls.length≤1048576) (p3:J1 x.proc) :
 Calls prog 20 #[.slice s_a s_n s_c,.agg #[iV x.id,iV x.age,iV x.proc,iV x.began,.slice Q8 Q10 Q9,.slice Q5 Q7 Q6,.slice x_Ra x_Rn x_Rc,.slice x_Wa x_Wn x_Wc,.slice Q11 Q13 Q12,iV x.state]] w fun e w'=>e=.returned (iV ((JaL s x:Nat):Int))∧Mv [] w [] w':=by
 have V_v_s:=Rd.start v_s zN
 obtain ⟨ln_s,le_s,mx_s,ni_s⟩:=Rd.inv v_s
 have V_v_x_calls:=Rd.start Q1 zN
 obtain ⟨Q25,Q20,Q36,Q41⟩:=Rd.inv Q1
 have V_v_x_answers:=Rd.start Q0 zN
 obtain ⟨Q24,Q19,Q35,Q40⟩:=Rd.inv Q0
 have V_v_x_touch_reads:=Rd.start Q3 zN
 obtain ⟨Q27,Q22,Q38,Q43⟩:=Rd.inv Q3
 have V_v_x_touch_writes:=Rd.start Q4 zN
 obtain ⟨Q28,Q23,Q39,Q44⟩:=Rd.inv Q4
 have V_v_x_marks:=Rd.start Q2 zN
 obtain ⟨Q26,Q21,Q37,Q42⟩:=Rd.inv Q2
 have V_tab0:=Tb.start tab0 zN
 have V_tab1:=Tb.start tab1 zN
 have V_tab2:=Tb.start tab2 zN
 refine ze fun _ F=>?_
 refine zbx F (At.nil w) fun b1 w1 S1 _ F=>?_
 refine zw F S1.at' 0 fun _ F=>?_
 refine zz F (Jd9 (s:=s) (x:=x) (Rd.mq V_v_s S1) yf yf yf yf (Rd.mq V_v_x_calls S1) (Rd.mq V_v_x_answers S1) (Rd.mq V_v_x_touch_reads S1) (Rd.mq V_v_x_touch_writes S1) (Rd.mq V_v_x_marks S1) yf (Tb.mv V_tab0 S1) (Tb.mv V_tab1 S1) (Tb.mv V_tab2 S1) yb yb yb yb) ?_
 rintro _ w7 ⟨Q45,Q49,Q47,rfl,m7,q7_0⟩
 refine zt fun _ F=>?_
 have S7:Mv _ _ [_,bx _ [_,_,_,_,_,_,_,_,_,_] _] _:=At.frame S1.at' [] rfl m7
 obtain ⟨Q29,Q31,Q33⟩:=At.ownInv S7.at' ET_28.hk 0 rfl
 refine zz F (JcR (H:=fun _=>True) (a:=s) (b:=J0m s x.proc x.calls) (Rd.top (Rd.mq V_v_s (S1.trans S7))) (At.rd S7.at' ET_28.hk 0 rfl) (Tb.top (Tb.mv V_tab0 (S1.trans S7))) (Tb.top (Tb.mv V_tab1 (S1.trans S7))) (Tb.top (Tb.mv V_tab2 (S1.trans S7))) yb yb) ?_
 rintro _ w9 ⟨Q46,Q50,Q48,rfl,m9⟩
 refine zt fun _ F=>?_
 have S9:Mv _ _ [_,_,bx _ [_,_,_,_,_,_,_,_,_,_] _] _:=At.frame S7.at' [] rfl m9
 obtain ⟨Q30,Q32,Q34⟩:=At.ownInv S9.at' ET_28.hk 0 rfl
 refine zzp F S9.at' (Jcp (H:=fun _=>True) (list:=J3t s (J0m s x.proc x.calls)) (At.rd S9.at' ET_28.hk 0 rfl) (Tb.top (Tb.mv V_tab0 (tc3 S1 S7 S9))) (by unfold J3t;rw [List.length_map];have hz:=J5d s (J0m s x.proc x.calls);omega)) fun w11 S11 _ F=>?_
 have T14:Mv _ _ [_,_,bx _ [_,_,_,_,_,_,_,_,_,_] _] _:=S11
 refine zd1 F ?_
 exact ⟨rfl,(Mv.pick (tc4 S1 S7 S9 T14) [] rfl)⟩
end
section
variable {P:Program} {W:World} {T e:TypeId} {cs:List Value} {α:Type} {k:Nat} {enc:α→List Value} {ok:α→Prop}
theorem JhL (ht:P.underlying T=some (.slice e)) (hk:P.cellsOf e=k) (hk0:0 < k) (hrow:∀ row,row.length=k→Reads P W e row→∃ x,row=enc x∧ok x) (h:Reads P W T cs) :
 ∃ a n c l,cs=[.slice a n c]∧RdA k enc ok (fun _=>True) W (.slice a n c) l:=by
 obtain ⟨v,l,rfl,hr⟩:=Reads.slice (R:=Enc enc ok) ht hk hk0 (fun row h1 h2=>hrow row h1 h2) h
 obtain ⟨a,cap,rfl,_⟩:=hr.inv
 exact ⟨a,_,cap,l,rfl,hr,fun _ _ _ _ _=>trivial⟩
end
theorem Jdc {P:Program} {f:FuncId} {fn:Func} {s:ChangeSpec} {tb:TypeId}
 (hl:laidOutB P=true) (hr:∀ t ∈ fn.params.toList,P.readableRec t=true∧t < P.types.size) (htb:P.underlying tb=some .bool) (hres:fn.resultTypes=#[tb]) (hv:s.vars=[])
 (hs:∀ (H:Type) (ds:List (DataW H)),ds.length=fn.params.size→s.fn H ds={ results:=[.lit (.bool true)],args:=ds })
 (H:Type) (enc:TypeId × Value→H) (apart fresh handsOn again:Bool) (W:World) (args:Array Value) (ds gs:List (DataW H)) (before:List MemPlace)
 (walk:J9z P W fn.params.toList args.toList→Calls P f args W fun e W'=>e=.returned (.bool true)∧Bl W W')
 (hval:∀ (j:Nat) t v,fn.params[j]? = some t→args[j]? = some v→Value.okWide P W .any 0 t v)
 (hW:DataW.Whole enc P fn.params.toList s.vars apart W args.toList ds gs before) :
 Calls P f args W fun e W'=>∃ v,e=.returned v∧s.post enc P fn apart fresh handsOn again W args v W':=by
 have hW0:=hW
 obtain ⟨p,q,hA,hV,rfl,hz,hn⟩:=hW
 obtain ⟨g1,g2,g3⟩:=J8y hA
 refine (walk ⟨g1,fun j t v ht hv=>⟨g3 j t v ht hv,hval j t v (by simpa using ht) (by simpa using hv)⟩⟩).mono ?_
 rintro e W' ⟨rfl,hb⟩
 exact ⟨_,rfl,Jfz hl hr htb hres hv hW0 (hs H ds (by simpa using g2)) hb⟩
theorem J6S {P:Program} {W:World} {n:String} {g tp:Nat} {a:Addr} (hg:P.globalNamed n=some g) (h:W.var? P n=some #[.iface tp (.pointer (some a))]):W.cell? ⟨g,0,none⟩=some (.iface tp (.pointer (some a))):=by
 have:=World.var?_cell hg h 0
 simpa using this
section
end
theorem Ji2 {P:Program} {W:World} {e:TypeId} (ht:P.underlying e=some (.int .u8)):∀ row,row.length=1→Reads P W e row→∃ x,row=J7 x∧okB x:=fun row _ hr=>by
 obtain ⟨n,rfl,h0,h1⟩:=hr.u8 ht
 obtain ⟨m,rfl⟩:=Int.eq_ofNat_of_zero_le h0
 exact ⟨m,rfl,by unfold okB;omega⟩
end Go.Proofs.YtipdbeklopjbmaaGreatDoor
