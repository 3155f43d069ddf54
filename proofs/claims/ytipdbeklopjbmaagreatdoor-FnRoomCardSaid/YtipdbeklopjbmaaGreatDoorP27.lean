/-
  Texts laid together: GenCc, GenRq, GenRr.
-/
import Derived.Test.YtipdbeklopjbmaaGreatDoorP26
import Derived.Test.YtipdbeklopjbmaaGreatDoorMR
set_option linter.unusedVariables false
set_option linter.unusedSimpArgs false
namespace Go.Proofs.YtipdbeklopjbmaaGreatDoor
open Go.ChangeShapes Go.WideShapes Go.ChangeAt Go.RowKit Go.Proofs.Tryz
section
variable {w:World} {H:Nat→Prop}
set_option maxRecDepth 100000
set_option maxHeartbeats 1000000
theorem Jdq {s:List CellD} {s_a:Option Addr} {s_n s_c:Nat} {steps:List StepD} {Q6:Option Addr} {Q8 Q7:Nat} {P:Int} {cs:List CallD} (v_s:Rd 2 J6 okC H w (.slice s_a s_n s_c) s) (Q9:Rd 7 J1p J1f H w (.slice Q6 Q8 Q7) steps) (tab0:Tb 0 H w) (tab1:Tb 1 H w) (tab2:Tb 2 H w) (p0:steps=cs.map (J1J P)) (p1:J0t s) (p2:s.length≤1048576) (p3:cs.length≤1048576) (p4:J1 P) :
 Calls prog 110 #[.slice s_a s_n s_c,.slice Q6 Q8 Q7] w fun e w'=>∃ (A:List AnsD)(T:TouchD)(r0_a:Option Addr)(r0_n r0_c:Nat)(r1_a:Option Addr)(r1_n r1_c:Nat)(Q0:Option Addr)(Q2 Q1:Nat)(Q3:Option Addr)(Q5 Q4:Nat),e=.returned (.tuple #[.slice r0_a r0_n r0_c,.slice r1_a r1_n r1_c,.agg #[.slice Q0 Q2 Q1,.slice Q3 Q5 Q4]])∧Mv [] w [] w'∧Rd 2 J6 okC (Fsh H w) w' (.slice r0_a r0_n r0_c) (J0m s P cs)∧Rd 3 J0x okR (Fsh H w) w' (.slice r1_a r1_n r1_c) A∧Rd 1 J3 okS (Fsh H w) w' (.slice Q0 Q2 Q1) T.reads∧Rd 1 J3 okS (Fsh H w) w' (.slice Q3 Q5 Q4) T.writes∧(J0m s P cs).length≤400000000∧Un (J2f s P) 362000000 (J0m s P cs) [] []:=by
 have hT:=J3F tab0 tab1 tab2
 have hn:=v_s.inv.1
 have hq:=Q9.inv.1
 subst p0
 rw [List.length_map] at hq
 refine (J9P (X:=J2f s P) (cs:=cs) hT v_s Q9 (J48 p1 p2) zO zO zO p4).mono ?_
 rintro e w' ⟨v,A,rfl,m,⟨R,W,k1,k2,k3,hU⟩,k4⟩
 exact ⟨A.l,⟨R,W⟩,v.sa,v.sn,v.sc,A.a,A.n,A.c,v.ra,v.rn,v.rc,v.wa,v.wn,v.wc,rfl,m,k1,k4,k2,k3,Nat.le_trans hU.bd.1 zO,hU.fresh.le zO⟩
theorem Jdn {s:List CellD} {s_a:Option Addr} {s_n s_c:Nat} {x:TxD} {Q3:Option Addr} {Q5 Q4:Nat} {Q0:Option Addr} {Q2 Q1:Nat} {x_Ra:Option Addr} {x_Rn x_Rc:Nat} {x_Wa:Option Addr} {x_Wn x_Wc:Nat} {Q6:Option Addr} {Q8 Q7:Nat} (v_s:Rd 2 J6 okC H w (.slice s_a s_n s_c) s) (Q22:J1 x.id) (Q20:J1 x.age) (Q23:J1 x.proc) (Q21:J1 x.began) (Q10:Rd 6 J16 okK H w (.slice Q3 Q5 Q4) x.calls) (Q9:Rd 3 J0x okR H w (.slice Q0 Q2 Q1) x.answers) (Q12:Rd 1 J3 okS H w (.slice x_Ra x_Rn x_Rc) x.touch.reads) (Q13:Rd 1 J3 okS H w (.slice x_Wa x_Wn x_Wc) x.touch.writes) (Q11:Rd 1 J0w okI H w (.slice Q6 Q8 Q7) x.marks) (Q24:J1 x.state) (tab0:Tb 0 H w) (tab1:Tb 1 H w) (tab2:Tb 2 H w) (p0:J0t s) (p1:s.length≤1048576) (p2:x.calls.length≤1048576) (p3:J1 x.proc) :
 Calls prog 60 #[.slice s_a s_n s_c,.agg #[iV x.id,iV x.age,iV x.proc,iV x.began,.slice Q3 Q5 Q4,.slice Q0 Q2 Q1,.slice x_Ra x_Rn x_Rc,.slice x_Wa x_Wn x_Wc,.slice Q6 Q8 Q7,iV x.state]] w fun e w'=>∃ (r0_a:Option Addr)(r0_n r0_c:Nat),e=.returned (.slice r0_a r0_n r0_c)∧Mv [] w [] w'∧Rd 2 J6 okC (Fsh H w) w' (.slice r0_a r0_n r0_c) (J0m s x.proc x.calls)∧(J0m s x.proc x.calls).length≤400000000∧Un (J2f s x.proc) 362000000 (J0m s x.proc x.calls) [] []:=by
 have V_v_s:=Rd.start v_s zN
 obtain ⟨ln_s,le_s,mx_s,ni_s⟩:=Rd.inv v_s
 have V_v_x_calls:=Rd.start Q10 zN
 obtain ⟨Q31,Q26,Q39,Q44⟩:=Rd.inv Q10
 have V_v_x_answers:=Rd.start Q9 zN
 obtain ⟨Q30,Q25,Q38,Q43⟩:=Rd.inv Q9
 have V_v_x_touch_reads:=Rd.start Q12 zN
 obtain ⟨Q33,Q28,Q41,Q46⟩:=Rd.inv Q12
 have V_v_x_touch_writes:=Rd.start Q13 zN
 obtain ⟨Q34,Q29,Q42,Q47⟩:=Rd.inv Q13
 have V_v_x_marks:=Rd.start Q11 zN
 obtain ⟨Q32,Q27,Q40,Q45⟩:=Rd.inv Q11
 have V_tab0:=Tb.start tab0 zN
 have V_tab1:=Tb.start tab1 zN
 have V_tab2:=Tb.start tab2 zN
 refine ze fun _ F=>?_
 refine zbx F (At.nil w) fun b1 w1 S1 _ F=>?_
 refine zw F S1.at' 0 fun _ F=>?_
 refine zz F (J8b (tx:=x) yf yf yf yf (Rd.mq V_v_x_calls S1) (Rd.mq V_v_x_answers S1) (Rd.mq V_v_x_touch_reads S1) (Rd.mq V_v_x_touch_writes S1) (Rd.mq V_v_x_marks S1) yf yb yb) ?_
 rintro _ w6 ⟨Q14,Q18,Q16,rfl,m6⟩
 refine zt fun _ F=>?_
 have S6:Mv _ _ [_,bx _ [_,_,_,_,_,_,_,_,_,_] _] _:=At.frame S1.at' [] rfl m6
 obtain ⟨Q35,Q36,Q37⟩:=At.ownInv S6.at' ET_151.hk 0 rfl
 have Z9:Rd 7 J1p J1f (V H w [bx b1 [iV x.id,iV x.age,iV x.proc,iV x.began,.slice Q3 Q5 Q4,.slice Q0 Q2 Q1,.slice x_Ra x_Rn x_Rc,.slice x_Wa x_Wn x_Wc,.slice Q6 Q8 Q7,iV x.state] 58]) w6 (.slice Q14 Q18 Q16) (J3E x):=At.freeze (S1.trans S6) ET_151.hk 0 rfl (fun b hb=>((S1.trans S6).fresh b ⟨_,Jm (i:=0) rfl,hb⟩).resolve_left (JF _))
 have S9:=At.drop S6.at' 0
 refine zz F (Jdq (P:=x.proc) (cs:=x.calls) (s:=s) (steps:=J3E x) (Rd.mq V_v_s (tc3 S1 S6 S9)) Z9 (Tb.mv V_tab0 (tc3 S1 S6 S9)) (Tb.mv V_tab1 (tc3 S1 S6 S9)) (Tb.mv V_tab2 (tc3 S1 S6 S9)) yBx yBx yBx yBx yBx) ?_
 rintro _ w8 ⟨A_8,T_8,Q15,Q19,Q17,Q48,Q50,Q49,Q51,Q53,Q52,Q54,Q56,Q55,rfl,m8,v8_0,v8_1,v8_2,v8_3,q8_0,q8_1⟩
 refine zt fun _ F=>?_
 have S8:=At.frame0 S9.at' m8
 have V8_0:=Rd.got0 S9.at' ((tc3 S1 S6 S9).kp.size) v8_0 S8
 obtain ⟨ln8_0,le8_0,mx8_0,ni8_0⟩:=Rd.inv V8_0
 have V8_1:=Rd.got0 S9.at' ((tc3 S1 S6 S9).kp.size) v8_1 S8
 obtain ⟨ln8_1,le8_1,mx8_1,ni8_1⟩:=Rd.inv V8_1
 have V8_2:=Rd.got0 S9.at' ((tc3 S1 S6 S9).kp.size) v8_2 S8
 obtain ⟨ln8_2,le8_2,mx8_2,ni8_2⟩:=Rd.inv V8_2
 have V8_3:=Rd.got0 S9.at' ((tc3 S1 S6 S9).kp.size) v8_3 S8
 obtain ⟨ln8_3,le8_3,mx8_3,ni8_3⟩:=Rd.inv V8_3
 refine zal F S8.at' J0i fun b15 w15 S15 _ F=>?_
 refine zst F S15.at' 0 fun w19 S19 _ F=>?_
 have T20:Mv _ _ [bx _ [_,_] _,bx _ [_,_,_,_,_,_,_,_,_,_] _] _:=S19
 refine zd1 F ?_
 exact ⟨Q15,Q19,Q17,rfl,(Mv.pick (tc6 S1 S6 S9 S8 S15 T20) [] rfl),(Rd.give (Rd.mq V8_0 (S15.trans T20))),yq,yq⟩
theorem JcX {s:List CellD} {s_a:Option Addr} {s_n s_c:Nat} {x:TxD} {Q8:Option Addr} {Q10 Q9:Nat} {Q5:Option Addr} {Q7 Q6:Nat} {x_Ra:Option Addr} {x_Rn x_Rc:Nat} {x_Wa:Option Addr} {x_Wn x_Wc:Nat} {Q11:Option Addr} {Q13 Q12:Nat} (v_s:Rd 2 J6 okC H w (.slice s_a s_n s_c) s) (Q16:J1 x.id) (Q14:J1 x.age) (Q17:J1 x.proc) (Q15:J1 x.began) (Q1:Rd 6 J16 okK H w (.slice Q8 Q10 Q9) x.calls) (Q0:Rd 3 J0x okR H w (.slice Q5 Q7 Q6) x.answers) (Q3:Rd 1 J3 okS H w (.slice x_Ra x_Rn x_Rc) x.touch.reads) (Q4:Rd 1 J3 okS H w (.slice x_Wa x_Wn x_Wc) x.touch.writes) (Q2:Rd 1 J0w okI H w (.slice Q11 Q13 Q12) x.marks) (Q18:J1 x.state) (tab0:Tb 0 H w) (tab1:Tb 1 H w) (tab2:Tb 2 H w) (p0:J0t s) (p1:s.length≤1048576) (p2:x.calls.length≤1048576) (p3:J1 x.proc) :
 Calls prog 17 #[.slice s_a s_n s_c,.agg #[iV x.id,iV x.age,iV x.proc,iV x.began,.slice Q8 Q10 Q9,.slice Q5 Q7 Q6,.slice x_Ra x_Rn x_Rc,.slice x_Wa x_Wn x_Wc,.slice Q11 Q13 Q12,iV x.state]] w fun e w'=>e=.returned (iV ((JaL s x:Nat):Int))∧Mv [] w [] w':=by
 have V_v_s:=Rd.start v_s zN
 obtain ⟨ln_s,le_s,mx_s,ni_s⟩:=Rd.inv v_s
 have V_v_x_calls:=Rd.start Q1 zN
 obtain ⟨Q25,Q20,Q33,Q38⟩:=Rd.inv Q1
 have V_v_x_answers:=Rd.start Q0 zN
 obtain ⟨Q24,Q19,Q32,Q37⟩:=Rd.inv Q0
 have V_v_x_touch_reads:=Rd.start Q3 zN
 obtain ⟨Q27,Q22,Q35,Q40⟩:=Rd.inv Q3
 have V_v_x_touch_writes:=Rd.start Q4 zN
 obtain ⟨Q28,Q23,Q36,Q41⟩:=Rd.inv Q4
 have V_v_x_marks:=Rd.start Q2 zN
 obtain ⟨Q26,Q21,Q34,Q39⟩:=Rd.inv Q2
 have V_tab0:=Tb.start tab0 zN
 have V_tab1:=Tb.start tab1 zN
 have V_tab2:=Tb.start tab2 zN
 refine ze fun _ F=>?_
 refine zbx F (At.nil w) fun b1 w1 S1 _ F=>?_
 refine zw F S1.at' 0 fun _ F=>?_
 refine zz F (Jdn (s:=s) (x:=x) (Rd.mq V_v_s S1) yf yf yf yf (Rd.mq V_v_x_calls S1) (Rd.mq V_v_x_answers S1) (Rd.mq V_v_x_touch_reads S1) (Rd.mq V_v_x_touch_writes S1) (Rd.mq V_v_x_marks S1) yf (Tb.mv V_tab0 S1) (Tb.mv V_tab1 S1) (Tb.mv V_tab2 S1) yb yb yb yb) ?_
 rintro _ w7 ⟨Q42,Q46,Q44,rfl,m7,v7_0,q7_0,q7_1⟩
 refine zt fun _ F=>?_
 have S7:=At.frame0 S1.at' m7
 have V7_0:=Rd.got0 S1.at' (S1.kp.size) v7_0 S7
 obtain ⟨ln7_0,le7_0,mx7_0,ni7_0⟩:=Rd.inv V7_0
 refine zz F (JcY (a:=s) (b:=J0m s x.proc x.calls) (Rd.mq V_v_s (S1.trans S7)) V7_0 yb yb) ?_
 rintro _ w9 ⟨Q43,Q47,Q45,rfl,m9⟩
 refine zt fun _ F=>?_
 have S9:Mv _ _ [_,bx _ [_,_,_,_,_,_,_,_,_,_] _] _:=At.frame S7.at' [] rfl m9
 obtain ⟨Q29,Q30,Q31⟩:=At.ownInv S9.at' ET_28.hk 0 rfl
 refine zzp F S9.at' (Jcu (H:=fun _=>True) (list:=J3t s (J0m s x.proc x.calls)) (At.rd S9.at' ET_28.hk 0 rfl) (by unfold J3t;rw [List.length_map];have hz:=J5d s (J0m s x.proc x.calls);omega)) fun w11 S11 _ F=>?_
 have T14:Mv _ _ [_,bx _ [_,_,_,_,_,_,_,_,_,_] _] _:=S11
 refine zd1 F ?_
 exact ⟨rfl,(Mv.pick (tc4 S1 S7 S9 T14) [] rfl)⟩
end
section
variable {w:World} {H:Nat→Prop}
set_option maxRecDepth 100000
set_option maxHeartbeats 1000000
def gS:Nat→Nat
 | 0=>10
 | k+1=>3 * gS k+100
theorem Jit {k:Nat} (h:k≤6):gS k≤50000:=by
 have:∀ k,k < 7→gS k≤50000:=by decide
 exact this k zO
theorem Jgh {D:List CellD} {P:Int} {c:CallD} {k:Nat} (h:D.length≤gS k):(doS D P c).length≤gS (k+1):=Nat.le_trans (Jge D P c) (by show _≤3 * gS k+100;omega)
theorem Jdh {s:List CellD} {s_a:Option Addr} {s_n s_c:Nat} {proc:Int} {c:CallD} {X:Uni} {u:Nat} (v_s:Rd 2 J6 okC H w (.slice s_a s_n s_c) s) (Q11:J1 proc) (Q7:J1 c.kind) (Q8:okS c.name) (Q10:okS c.to_) (h_c_a:J1 c.a) (Q6:J1 c.b) (Q9:okS c.text) (tab0:Tb 0 H w) (tab1:Tb 1 H w) (tab2:Tb 2 H w) (p0:Un X u s [] []) (p1:X.P=proc) (p2:u≤400000000) :
 Calls prog 148 #[.slice s_a s_n s_c,iV proc,.agg #[iV c.kind,.string c.name,.string c.to_,iV c.a,iV c.b,.string c.text]] w fun e w'=>∃ (a:AnsD)(t:TouchD)(r0_a:Option Addr)(r0_n r0_c:Nat)(Q0:Option Addr)(Q2 Q1:Nat)(Q3:Option Addr)(Q5 Q4:Nat),e=.returned (.tuple #[.slice r0_a r0_n r0_c,.agg #[iV a.code,iV a.n,.string a.text],.agg #[.slice Q0 Q2 Q1,.slice Q3 Q5 Q4]])∧Mv [] w [] w'∧Rd 2 J6 okC (Fsh H w) w' (.slice r0_a r0_n r0_c) (doS s proc c)∧Rd 1 J3 okS (Fsh H w) w' (.slice Q0 Q2 Q1) t.reads∧Rd 1 J3 okS (Fsh H w) w' (.slice Q3 Q5 Q4) t.writes∧okS a.text∧J0t (doS s proc c)∧t.reads.length≤u+330∧t.writes.length≤u+330∧J1 a.code∧J1 a.n:=by
 have hT:=J3F tab0 tab1 tab2
 subst p1
 refine (J11 (X:=X) (v:=⟨s_a,none,none,s_n,s_c,0,0,0,0⟩) (c:=c) hT ⟨[],[],v_s,Rd.nil,Rd.nil,p0⟩ zO Q11 ⟨Q7,Q8,Q10,h_c_a,Q6,Q9⟩).mono ?_
 rintro e w' ⟨v,a,rfl,m,⟨R,W,k1,k2,k3,hU⟩,q⟩
 have hb:=hU.bd
 exact ⟨⟨a.1,a.2.1,a.2.2⟩,⟨R,W⟩,v.sa,v.sn,v.sc,v.ra,v.rn,v.rc,v.wa,v.wn,v.wc,rfl,m,k1,k2,k3,q.2.2,hb.2.2.2,by have:=hb.2.1;dsimp only;omega,by have:=hb.2.2.1;dsimp only;omega,q.1,q.2.1⟩
theorem J8H {c:CallD} (Q1:J1 c.kind) (Q2:okS c.name) (Q4:okS c.to_) (h_c_a:J1 c.a) (Q0:J1 c.b) (Q3:okS c.text) (tab0:Tb 0 H w) (tab1:Tb 1 H w) (tab2:Tb 2 H w) :
 Calls prog 193 #[.agg #[iV c.kind,.string c.name,.string c.to_,iV c.a,iV c.b,.string c.text]] w fun e w'=>∃ (d:CallD),e=.returned (.agg #[iV d.kind,.string d.name,.string d.to_,iV d.a,iV d.b,.string d.text])∧Mv [] w [] w'∧okS d.name∧okS d.to_∧okS d.text∧J1 d.kind∧J1 d.a∧J1 d.b:=by
 have hT:=J3F tab0 tab1 tab2
 refine (JhZ hT ⟨Q1,Q2,Q4,h_c_a,Q0,Q3⟩).mono ?_
 rintro e w' ⟨d,rfl,m,q⟩
 exact ⟨d,rfl,m,q.2.1,q.2.2.1,q.2.2.2.2.2,q.1,q.2.2.2.1,q.2.2.2.2.1⟩
theorem JdZ  (tab0:Tb 0 H w) (tab1:Tb 1 H w) (tab2:Tb 2 H w) :
 Calls prog 163 #[] w fun e w'=>∃ (s:List CellD)(r0_a:Option Addr)(r0_n r0_c:Nat),e=.returned (.slice r0_a r0_n r0_c)∧Mv [] w [] w'∧Rd 2 J6 okC (Fsh H w) w' (.slice r0_a r0_n r0_c) s∧J0t s∧s.length≤10:=by
 have hT:=J3F tab0 tab1 tab2
 refine (Jh4 (H:=H) hT).mono ?_
 rintro e w' ⟨v,D,rfl,m,⟨R,W,k1,k2,k3,hU⟩,hl⟩
 exact ⟨D,v.sa,v.sn,v.sc,rfl,m,k1,hU.bd.2.2.2,hl⟩
theorem J66 {c:CurD} {Q1:Option Addr} {Q0 Q2:Nat} {c_b:Nat} (Q6:RdA 1 J7 okB H w (.slice Q1 Q0 Q2) c.code) (Q14:J1 (c.pos:Int)) (Q13:J1 c.h) (tab0:Tb 0 H w) (tab1:Tb 1 H w) (tab2:Tb 2 H w) (p0:c.pos≤Q0) (hA:At w [bC c_b Q1 Q0 Q2 c.pos c.h]) (hD:∀ b,H b→¬ fps [bC c_b Q1 Q0 Q2 c.pos c.h] b) :
 Calls prog 164 #[pT c_b] w fun e w'=>∃ (i2:Nat)(h2:Int)(d:CallD),e=.returned (.agg #[iV d.kind,.string d.name,.string d.to_,iV d.a,iV d.b,.string d.text])∧Mv [bC c_b Q1 Q0 Q2 c.pos c.h] w [bC c_b Q1 Q0 Q2 i2 h2] w'∧okS d.name∧okS d.to_∧okS d.text∧i2≤Q0∧J1 h2∧J1 d.kind∧J1 d.a∧J1 d.b:=by
 have V_v_c_code:=RdA.start Q6 hD
 obtain ⟨Q16,Q15,Q17,Q18⟩:=RdA.inv Q6
 have V_tab0:=Tb.start tab0 hD
 have V_tab1:=Tb.start tab1 hD
 have V_tab2:=Tb.start tab2 hD
 refine ze fun _ F=>?_
 refine zal F hA J4D fun b1 w1 S1 _ F=>?_
 refine zbs (ok:=okI) F S1.at' ([1,1,2,3,4,5,6,6,7,7,8,9,10,10,11,11,12,13,14,15,16,17,18,19,20,21,22,22]) ET_47 zlI fun b4 w4 S4 _ F=>?_
 refine zz F (J3K (H:=fun b=>¬ fps (sel _ [2]) b) (c:=c) (list:=[1,1,2,3,4,5,6,6,7,7,8,9,10,10,11,11,12,13,14,15,16,17,18,19,20,21,22,22]) (RdA.mono (RdA.mv (Nat.succ_pos _) V_v_c_code (S1.trans S4)) (J9 (is:=[2]))) (by unfold J1;(try dsimp only);omega) yd (At.rdOff S4.at' ET_47.hk 0 rfl [2] rfl) yb yb (At.pick (is:=[2]) S4.at' rfl) (fun _ h=>h)) ?_
 rintro _ w6 ⟨i2_6,h2_6,r_6,rfl,m6,q6_0,q6_1,q6_2,q6_3⟩
 refine zt fun _ F=>?_
 have S6:Mv _ _ [bx _ [_,_,_] _,_,bx _ [_,_,_,_,_,_] _] _:=At.frame S4.at' [2] rfl m6
 refine zv (v:=.agg #[iV r_6,.string bE_,.string bE_,iV 0,iV 0,.string bE_]) F (J06 J7c rfl (lc (pr2 (F.g rfl)) rfl) rfl) fun _ F=>?_
 refine zal F S6.at' J4D fun b9 w9 S9 _ F=>?_
 refine zst F S9.at' 0 fun w11 S11 _ F=>?_
 have T12:Mv _ _ [bx _ [_,_,_,_,_,_] _,bx _ [_,_,_] _,_,bx _ [_,_,_,_,_,_] _] _:=S11
 refine zbs (ok:=okS) F T12.at' ([(bA [120]),(bA [121]),(bA [108,111,103])]) ET_44 zlS fun b14 w14 S14 _ F=>?_
 refine zz F (J1z (H:=fun b=>¬ fps (sel _ [2]) b) (c:=(⟨c.code,i2_6,h2_6⟩:CurD)) (list:=[(bA [120]),(bA [121]),(bA [108,111,103])]) (RdA.mono (RdA.mv (Nat.succ_pos _) V_v_c_code (tc6 S1 S4 S6 S9 T12 S14)) (J9 (is:=[2]))) (by unfold J1;(try dsimp only);omega) yd (At.rdOff S14.at' ET_44.hk 0 rfl [2] rfl) yb yb (At.pick (is:=[2]) S14.at' rfl) (fun _ h=>h)) ?_
 rintro _ w16 ⟨i2_16,h2_16,r_16,rfl,m16,Q3,q16_0,q16_1,q16_2⟩
 refine zt fun _ F=>?_
 have S16:Mv _ _ [bx _ [_,_,_] _,_,bx _ [_,_,_,_,_,_] _,_,bx _ [_,_,_,_,_,_] _] _:=At.frame S14.at' [2] rfl m16
 refine zst F S16.at' 2 fun w19 S19 _ F=>?_
 refine zbs (ok:=okS) F S19.at' ([(bA [120]),(bA [121]),(bA [122])]) ET_44 zlS fun b21 w21 S21 _ F=>?_
 refine zz F (J1z (H:=fun b=>¬ fps (sel _ [2]) b) (c:=(⟨c.code,i2_16,h2_16⟩:CurD)) (list:=[(bA [120]),(bA [121]),(bA [122])]) (RdA.mono (RdA.mv (Nat.succ_pos _) V_v_c_code (tc9 S1 S4 S6 S9 T12 S14 S16 S19 S21)) (J9 (is:=[2]))) (by unfold J1;(try dsimp only);omega) yd (At.rdOff S21.at' ET_44.hk 0 rfl [2] rfl) yb yb (At.pick (is:=[2]) S21.at' rfl) (fun _ h=>h)) ?_
 rintro _ w23 ⟨i2_23,h2_23,r_23,rfl,m23,Q4,q23_0,q23_1,q23_2⟩
 refine zt fun _ F=>?_
 have S23:Mv _ _ [bx _ [_,_,_] _,_,bx _ [_,_,_,_,_,_] _,_,_,bx _ [_,_,_,_,_,_] _] _:=At.frame S21.at' [2] rfl m23
 refine zst F S23.at' 2 fun w26 S26 _ F=>?_
 have T27:Mv _ _ [bx _ [_,_,_,_,_,_] _,bx _ [_,_,_] _,_,_,_,bx _ [_,_,_,_,_,_] _] _:=S26
 refine zz F (JY (c:=(⟨c.code,i2_23,h2_23⟩:CurD)) (n:=4) (RdA.mv (Nat.succ_pos _) V_v_c_code (J2C S1 S4 S6 S9 T12 S14 S16 S19 S21 S23 T27)) (by unfold J1;(try dsimp only);omega) yd yg yb (At.pick (is:=[1]) T27.at' rfl) (J9 (is:=[1]))) ?_
 rintro _ w29 ⟨i2_29,h2_29,r_29,rfl,m29,q29_0,q29_1,q29_2,q29_3⟩
 refine zt fun _ F=>?_
 have S29:Mv _ _ [bx _ [_,_,_] _,bx _ [_,_,_,_,_,_] _,_,_,_,bx _ [_,_,_,_,_,_] _] _:=At.frame T27.at' [1] rfl m29
 refine zst F S29.at' 1 fun w32 S32 _ F=>?_
 refine zz F (JY (c:=(⟨c.code,i2_29,h2_29⟩:CurD)) (n:=12) (RdA.mv (Nat.succ_pos _) V_v_c_code (JE S1 S4 S6 S9 T12 S14 S16 S19 S21 S23 T27 (S29.trans S32))) (by unfold J1;(try dsimp only);omega) yd yg yb (At.pick (is:=[1]) S32.at' rfl) (J9 (is:=[1]))) ?_
 rintro _ w34 ⟨i2_34,h2_34,r_34,rfl,m34,q34_0,q34_1,q34_2,q34_3⟩
 refine zt fun _ F=>?_
 have S34:Mv _ _ [bx _ [_,_,_] _,bx _ [_,_,_,_,_,_] _,_,_,_,bx _ [_,_,_,_,_,_] _] _:=At.frame S32.at' [1] rfl m34
 refine zq F ((1+r_34:Nat):Int) fun _ F=>?_
 refine zst F S34.at' 1 fun w38 S38 _ F=>?_
 have T39:Mv _ _ [bx _ [_,_,_,_,_,_] _,bx _ [_,_,_] _,_,_,_,bx _ [_,_,_,_,_,_] _] _:=S38
 refine zz F (JY (c:=(⟨c.code,i2_34,h2_34⟩:CurD)) (n:=12) (RdA.mv (Nat.succ_pos _) V_v_c_code (JE S1 S4 S6 S9 T12 S14 S16 S19 S21 S23 T27 (tc4 S29 S32 S34 T39))) (by unfold J1;(try dsimp only);omega) yd yg yb (At.pick (is:=[1]) T39.at' rfl) (J9 (is:=[1]))) ?_
 rintro _ w42 ⟨i2_42,h2_42,r_42,rfl,m42,q42_0,q42_1,q42_2,q42_3⟩
 refine zt fun _ F=>?_
 have S42:Mv _ _ [bx _ [_,_,_] _,bx _ [_,_,_,_,_,_] _,_,_,_,bx _ [_,_,_,_,_,_] _] _:=At.frame T39.at' [1] rfl m42
 refine zz F (J65 (c:=(⟨c.code,i2_42,h2_42⟩:CurD)) (n:=((r_42:Nat):Int)) (RdA.mv (Nat.succ_pos _) V_v_c_code (JE S1 S4 S6 S9 T12 S14 S16 S19 S21 S23 T27 (tc5 S29 S32 S34 T39 S42))) (by unfold J1;(try dsimp only);omega) yd yg yb (At.pick (is:=[0]) S42.at' rfl) (J9 (is:=[0]))) ?_
 rintro _ w44 ⟨i2_44,h2_44,r_44,rfl,m44,Q5,q44_0,q44_1,q44_2⟩
 refine zt fun _ F=>?_
 have S44:Mv _ _ [bx _ [_,_,_] _,bx _ [_,_,_,_,_,_] _,_,_,_,bx _ [_,_,_,_,_,_] _] _:=At.frame S42.at' [0] rfl m44
 refine zst F S44.at' 1 fun w47 S47 _ F=>?_
 refine zl F S47.at' 0 fun _ F=>?_
 refine zc F (r_6=6) fun _ F=>?_
 refine zi F (fun h51=>?_) fun h51=>?_
 ·refine zr fun _ F=>?_
  refine zz F (JY (c:=(⟨c.code,i2_44,h2_44⟩:CurD)) (n:=12) (RdA.mv (Nat.succ_pos _) V_v_c_code (JE S1 S4 S6 S9 T12 S14 S16 S19 S21 S23 T27 (tc7 S29 S32 S34 T39 S42 S44 S47))) (by unfold J1;(try dsimp only);omega) yd yg yb (At.pick (is:=[1]) S47.at' rfl) (J9 (is:=[1]))) ?_
  rintro _ w53 ⟨i2_53,h2_53,r_53,rfl,m53,q53_0,q53_1,q53_2,q53_3⟩
  refine zt fun _ F=>?_
  have S53:Mv _ _ [bx _ [_,_,_] _,bx _ [_,_,_,_,_,_] _,_,_,_,bx _ [_,_,_,_,_,_] _] _:=At.frame S47.at' [1] rfl m53
  refine zst F S53.at' 1 fun w56 S56 _ F=>?_
  have T57:Mv _ _ [bx _ [_,_,_,_,_,_] _,bx _ [_,_,_] _,_,_,_,bx _ [_,_,_,_,_,_] _] _:=S56
  refine zw F T57.at' 0 fun _ F=>?_
  refine zz F (J8H (c:=(⟨r_6,r_16,r_23,((r_53:Nat):Int),((1+r_34:Nat):Int),r_44⟩:CallD)) yf Q3 Q4 yf yf Q5 (Tb.mv V_tab0 (JE S1 S4 S6 S9 T12 S14 S16 S19 S21 S23 T27 (tc9 S29 S32 S34 T39 S42 S44 S47 S53 T57))) (Tb.mv V_tab1 (JE S1 S4 S6 S9 T12 S14 S16 S19 S21 S23 T27 (tc9 S29 S32 S34 T39 S42 S44 S47 S53 T57))) (Tb.mv V_tab2 (JE S1 S4 S6 S9 T12 S14 S16 S19 S21 S23 T27 (tc9 S29 S32 S34 T39 S42 S44 S47 S53 T57)))) ?_
  rintro _ w59 ⟨d_59,rfl,m59,Q7,Q11,Q9,q59_0,q59_1,q59_2⟩
  refine zt fun _ F=>?_
  have S59:=At.frame0 T57.at' m59
  refine zst F S59.at' 5 fun w61 S61 _ F=>?_
  refine zdc F S61.at' 0 ?_
  exact ⟨i2_53,h2_53,d_59,rfl,(Mv.pick (JE S1 S4 S6 S9 T12 S14 S16 S19 S21 S23 T27 (J2C S29 S32 S34 T39 S42 S44 S47 S53 T57 S59 S61)) [2] rfl),Q7,Q11,Q9,yk,yk,yn,yn,yn⟩
 refine zr fun _ F=>?_
 refine zw F S47.at' 0 fun _ F=>?_
 refine zz F (J8H (c:=(⟨r_6,r_16,r_23,((r_29:Nat):Int),((1+r_34:Nat):Int),r_44⟩:CallD)) yf Q3 Q4 yf yf Q5 (Tb.mv V_tab0 (JE S1 S4 S6 S9 T12 S14 S16 S19 S21 S23 T27 (tc7 S29 S32 S34 T39 S42 S44 S47))) (Tb.mv V_tab1 (JE S1 S4 S6 S9 T12 S14 S16 S19 S21 S23 T27 (tc7 S29 S32 S34 T39 S42 S44 S47))) (Tb.mv V_tab2 (JE S1 S4 S6 S9 T12 S14 S16 S19 S21 S23 T27 (tc7 S29 S32 S34 T39 S42 S44 S47)))) ?_
 rintro _ w63 ⟨d_63,rfl,m63,Q8,Q12,Q10,q63_0,q63_1,q63_2⟩
 refine zt fun _ F=>?_
 have S63:=At.frame0 S47.at' m63
 refine zst F S63.at' 5 fun w65 S65 _ F=>?_
 have T66:Mv _ _ [bx _ [_,_,_,_,_,_] _,bx _ [_,_,_,_,_,_] _,bx _ [_,_,_] _,_,_,_] _:=S65
 refine zdc F T66.at' 0 ?_
 exact ⟨i2_44,h2_44,d_63,rfl,(Mv.pick (JE S1 S4 S6 S9 T12 S14 S16 S19 S21 S23 T27 (tc9 S29 S32 S34 T39 S42 S44 S47 S63 T66)) [2] rfl),Q8,Q12,Q10,yk,yk,yn,yn,yn⟩
theorem JcM {c:CurD} {Q1:Option Addr} {Q0 Q2:Nat} {c_b:Nat} {most:Int} (Q4:RdA 1 J7 okB H w (.slice Q1 Q0 Q2) c.code) (Q15:J1 (c.pos:Int)) (Q14:J1 c.h) (Q16:J1 most) (tab0:Tb 0 H w) (tab1:Tb 1 H w) (tab2:Tb 2 H w) (p0:c.pos≤Q0) (p1:most=6) (hA:At w [bC c_b Q1 Q0 Q2 c.pos c.h]) (hD:∀ b,H b→¬ fps [bC c_b Q1 Q0 Q2 c.pos c.h] b) :
 Calls prog 125 #[pT c_b,iV most] w fun e w'=>∃ (i2:Nat)(h2:Int)(s:List CellD)(r0_a:Option Addr)(r0_n r0_c:Nat),e=.returned (.slice r0_a r0_n r0_c)∧Mv [bC c_b Q1 Q0 Q2 c.pos c.h] w [bC c_b Q1 Q0 Q2 i2 h2] w'∧Rd 2 J6 okC (V (HP H [bC c_b Q1 Q0 Q2 c.pos c.h]) w [bC c_b Q1 Q0 Q2 i2 h2]) w' (.slice r0_a r0_n r0_c) s∧i2≤Q0∧J1 h2∧J0t s∧s.length≤50000:=by
 have Q3:RdA 1 J7 okB (V (HP H [bC c_b Q1 Q0 Q2 c.pos c.h]) w [bC c_b Q1 Q0 Q2 c.pos c.h]) w (.slice Q1 Q0 Q2) c.code:=RdA.startP Q4 hD
 obtain ⟨Q18,Q17,Q19,Q20⟩:=RdA.inv Q4
 have V_tab0:Tb 0 (V (HP H [bC c_b Q1 Q0 Q2 c.pos c.h]) w [bC c_b Q1 Q0 Q2 c.pos c.h]) w:=Tb.startP tab0 hD
 have V_tab1:Tb 1 (V (HP H [bC c_b Q1 Q0 Q2 c.pos c.h]) w [bC c_b Q1 Q0 Q2 c.pos c.h]) w:=Tb.startP tab1 hD
 have V_tab2:Tb 2 (V (HP H [bC c_b Q1 Q0 Q2 c.pos c.h]) w [bC c_b Q1 Q0 Q2 c.pos c.h]) w:=Tb.startP tab2 hD
 refine ze fun _ F=>?_
 refine zz F (JdZ  V_tab0 V_tab1 V_tab2) ?_
 rintro _ w2 ⟨s_2,Q8,Q12,Q10,rfl,m2,v2_0,q2_0,q2_1⟩
 refine zt fun _ F=>?_
 have S2:=At.frame0 hA m2
 have V2_0:=Rd.got0 hA (Nat.le_refl _) v2_0 S2
 obtain ⟨ln2_0,le2_0,mx2_0,ni2_0⟩:=Rd.inv V2_0
 refine JH S2.at' (fun lZ (k:Nat) aZ wZ=>∃ (pp:Nat)(hh:Int)(O:List CellD)(oa:Option Addr)(on oc:Nat),(fun l2=>Fr 28 [(6,nV k),(5,.slice oa on oc),(0,pT c_b),(1,iV most)] aZ∧Mv lZ w2 l2 wZ∧Rd 2 J6 okC (V (HP H [bC c_b Q1 Q0 Q2 c.pos c.h]) w l2) wZ (.slice oa on oc) O∧(pp≤Q0)∧(J1 hh)∧(J0t O)∧(O.length≤gS k)∧(k≤6)) [bC c_b Q1 Q0 Q2 pp hh]) (fun (k:Nat)=>7 - k) (0) ?_ ?_
 ·exact ⟨c.pos,c.h,s_2,Q8,Q12,Q10,F.cut rfl,(Mv.refl S2.at'),V2_0,zO,by assumption,by assumption,by show _≤10;omega,zO⟩
 rintro k a6 w6 ⟨pp,hh,O,oa,on,oc,F,S6,W6_0,hk_0,hk_1,hk_2,hk_3,hk_4⟩
 obtain ⟨lv6_0,lw6_0,lx6_0,ly6_0⟩:=Rd.inv W6_0
 have hgs:=Jit hk_4
 refine zr fun _ F=>?_
 refine zq F (most+1) fun _ F=>?_
 refine zz F (JY (c:=(⟨c.code,pp,hh⟩:CurD)) (n:=(most+1)) (RdA.mv (Nat.succ_pos _) Q3 (S2.trans S6)) (by unfold J1;(try dsimp only);omega) yd yg yb (At.pick (is:=[0]) S6.at' rfl) (J9 (is:=[0]))) ?_
 rintro _ w11 ⟨i2_11,h2_11,r_11,rfl,m11,q11_0,q11_1,q11_2,q11_3⟩
 refine zt fun _ F=>?_
 have S11:Mv _ _ [bx _ [_,_,_] _] _:=At.frame S6.at' [0] rfl m11
 refine zc F (k < r_11) fun _ F=>?_
 refine zi F (fun h14=>?_) fun h14=>?_
 ·refine zr fun _ F=>?_
  refine zz F (JY (c:=(⟨c.code,i2_11,h2_11⟩:CurD)) (n:=2) (RdA.mv (Nat.succ_pos _) Q3 (tc3 S2 S6 S11)) (by unfold J1;(try dsimp only);omega) yd yg yb (At.pick (is:=[0]) S11.at' rfl) (J9 (is:=[0]))) ?_
  rintro _ w17 ⟨i2_17,h2_17,r_17,rfl,m17,q17_0,q17_1,q17_2,q17_3⟩
  refine zt fun _ F=>?_
  have S17:Mv _ _ [bx _ [_,_,_] _] _:=At.frame S11.at' [0] rfl m17
  refine zq F ((1+r_17:Nat):Int) fun _ F=>?_
  refine zz F (J66 (c:=(⟨c.code,i2_17,h2_17⟩:CurD)) (RdA.mv (Nat.succ_pos _) Q3 (tc4 S2 S6 S11 S17)) (by unfold J1;(try dsimp only);omega) yd (Tb.mv V_tab0 (tc4 S2 S6 S11 S17)) (Tb.mv V_tab1 (tc4 S2 S6 S11 S17)) (Tb.mv V_tab2 (tc4 S2 S6 S11 S17)) yb (At.pick (is:=[0]) S17.at' rfl) (J9 (is:=[0]))) ?_
  rintro _ w21 ⟨i2_21,h2_21,d_21,rfl,m21,Q5,Q7,Q6,q21_0,q21_1,q21_2,q21_3,q21_4⟩
  refine zt fun _ F=>?_
  have S21:Mv _ _ [bx _ [_,_,_] _] _:=At.frame S17.at' [0] rfl m21
  refine zz F (Jdh (X:=J2f O ((1+r_17:Nat):Int)) (u:=15800000) (s:=O) (proc:=((1+r_17:Nat):Int)) (c:=d_21) (Rd.mq W6_0 (tc3 S11 S17 S21)) yg yf Q5 Q7 yf yf Q6 (Tb.mv V_tab0 (tc5 S2 S6 S11 S17 S21)) (Tb.mv V_tab1 (tc5 S2 S6 S11 S17 S21)) (Tb.mv V_tab2 (tc5 S2 S6 S11 S17 S21)) (by exact J48 zA zO) (by rfl) yb) ?_
  rintro _ w23 ⟨a_23,t_23,Q9,Q13,Q11,Q22,Q24,Q23,Q25,Q27,Q26,rfl,m23,v23_0,v23_1,v23_2,Q21,q23_0,q23_1,q23_2,q23_3,q23_4⟩
  refine zt fun _ F=>?_
  have S23:=At.frame0 S21.at' m23
  have V23_0:=Rd.got0 S21.at' ((tc5 S2 S6 S11 S17 S21).kp.size) v23_0 S23
  obtain ⟨ln23_0,le23_0,mx23_0,ni23_0⟩:=Rd.inv V23_0
  have V23_1:=Rd.got0 S21.at' ((tc5 S2 S6 S11 S17 S21).kp.size) v23_1 S23
  obtain ⟨ln23_1,le23_1,mx23_1,ni23_1⟩:=Rd.inv V23_1
  have V23_2:=Rd.got0 S21.at' ((tc5 S2 S6 S11 S17 S21).kp.size) v23_2 S23
  obtain ⟨ln23_2,le23_2,mx23_2,ni23_2⟩:=Rd.inv V23_2
  have T30:Mv _ _ [bx _ [_,_,_] _] _:=S23
  refine zq F ((k+1:Nat):Int) fun _ F=>?_
  exact ⟨k+1,zD,i2_21,h2_21,doS O ((1+r_17:Nat):Int) d_21,Q9,Q13,Q11,F.cut rfl,((tc5 S6 S11 S17 S21 T30).pick [0] rfl),V23_0,zO,by assumption,by assumption,Jgh hk_3,zO⟩
 refine zr fun _ F=>?_
 refine zd1 F ?_
 exact ⟨i2_11,h2_11,O,oa,on,oc,rfl,(Mv.pick (tc3 S2 S6 S11) [0] rfl),(Rd.mq W6_0 S11),yk,yk,yk,zO⟩
end
section
variable {w:World} {H:Nat→Prop}
set_option maxRecDepth 100000
set_option maxHeartbeats 1000000
theorem Jd2 {c:CurD} {Q1:Option Addr} {Q0 Q2:Nat} {c_b:Nat} {s:List CellD} {s_a:Option Addr} {s_n s_c:Nat} (Q6:RdA 1 J7 okB H w (.slice Q1 Q0 Q2) c.code) (Q23:J1 (c.pos:Int)) (Q22:J1 c.h) (v_s:Rd 2 J6 okC H w (.slice s_a s_n s_c) s) (p0:c.pos≤Q0) (p1:J0t s) (p2:s.length≤50000) (hA:At w [bC c_b Q1 Q0 Q2 c.pos c.h]) (hD:∀ b,H b→¬ fps [bC c_b Q1 Q0 Q2 c.pos c.h] b) :
 Calls prog 127 #[pT c_b,.slice s_a s_n s_c] w fun e w'=>∃ (i2:Nat)(h2:Int)(d:List CellD)(r0_a:Option Addr)(r0_n r0_c:Nat),e=.returned (.slice r0_a r0_n r0_c)∧Mv [bC c_b Q1 Q0 Q2 c.pos c.h] w [qC r0_a r0_n r0_c d,bC c_b Q1 Q0 Q2 i2 h2] w'∧i2≤Q0∧J1 h2∧J0t d∧d.length≤s.length+3:=by
 have V_v_c_code:=RdA.start Q6 hD
 obtain ⟨Q32,Q31,Q48,Q49⟩:=RdA.inv Q6
 have V_v_s:=Rd.start v_s hD
 obtain ⟨ln_s,le_s,mx_s,ni_s⟩:=Rd.inv v_s
 refine ze fun _ F=>?_
 refine zbs (ok:=okC) F hA (([]:List CellD)) ET_28 (by simp) fun b2 w2 S2 _ F=>?_
 refine J0 (Jv (news:=s) F S2.at' 0 ET_28 rfl rfl rfl rfl rfl rfl (F.g rfl) (F.g rfl) ((Rd.mq V_v_s S2)).1 yp fun A5 N5 C5 _ w5 F S5 l5=>?_)
 refine zr fun _ F=>?_
 refine JH S5.at' (fun lZ (k:Nat) aZ wZ=>∃ (pp:Nat)(hh:Int)(O:List CellD)(oa:Option Addr)(on oc:Nat),Fr 46 [(6,nV k),(5,.slice oa on oc),(0,pT c_b),(1,.slice s_a s_n s_c)] aZ∧Mv lZ w5 [qC oa on oc O,bC c_b Q1 Q0 Q2 pp hh] wZ∧(pp≤Q0)∧(J1 hh)∧(J0t O)∧(O.length≤s.length+k)∧(k≤3)∧(on=O.length)) (fun (k:Nat)=>4 - k) (0) ?_ ?_
 ·exact ⟨c.pos,c.h,([]:List CellD)++s,A5,N5,C5,F.cut rfl,(Mv.refl S5.at'),zO,by assumption,by assumption,by simp,zO,by assumption⟩
 rintro k a9 w9 ⟨pp,hh,O,oa,on,oc,F,S9,hk_0,hk_1,hk_2,hk_3,hk_4,hk_5⟩
 refine zr fun _ F=>?_
 refine zz F (JY (c:=(⟨c.code,pp,hh⟩:CurD)) (n:=3) (RdA.mv (Nat.succ_pos _) V_v_c_code (tc3 S2 S5 S9)) (by unfold J1;(try dsimp only);omega) yd yg yb (At.pick (is:=[1]) S9.at' rfl) (J9 (is:=[1]))) ?_
 rintro _ w12 ⟨i2_12,h2_12,r_12,rfl,m12,q12_0,q12_1,q12_2,q12_3⟩
 refine zt fun _ F=>?_
 have S12:Mv _ _ [bx _ [_,_,_] _,_] _:=At.frame S9.at' [1] rfl m12
 refine zq F ((1+r_12:Nat):Int) fun _ F=>?_
 refine zc F (k < 1+r_12) fun _ F=>?_
 refine zi F (fun h16=>?_) fun h16=>?_
 ·refine zr fun _ F=>?_
  refine zc F (s_n > 0) fun _ F=>?_
  rcases Decidable.em (s_n > 0) with h21|h21
  ·rw [decide_eq_true h21] at F
   refine zr fun _ F=>?_
   refine zz F (J1y (c:=(⟨c.code,i2_12,h2_12⟩:CurD)) (n:=2) (RdA.mv (Nat.succ_pos _) V_v_c_code (tc4 S2 S5 S9 S12)) (by unfold J1;(try dsimp only);omega) yd yg yb (At.pick (is:=[0]) S12.at' rfl) (J9 (is:=[0]))) ?_
   rintro _ w23 ⟨i2_23,h2_23,r_23,rfl,m23,q23_0,q23_1⟩
   refine zt fun _ F=>?_
   have S23:Mv _ _ [bx _ [_,_,_] _,_] _:=At.frame S12.at' [0] rfl m23
   refine zib F (fun h26=>?_) fun h26=>?_
   ·refine J2Q (fun lZ aZ wZ=>∃ (i2_35:Nat)(h2_35:Int)(r_35:Nat)(x1:CellD)(b41 i2_43:Nat)(h2_43:Int)(r_43:ByteArray)(Q3:Option Addr)(Q5 Q4:Nat),Fr 46 [(0,pT c_b),(1,.slice s_a s_n s_c),(5,.slice Q3 Q5 Q4),(6,nV k)] aZ∧Mv lZ w23 ((lZ.set 0 (bC c_b Q1 Q0 Q2 i2_43 h2_43))++[qS (aO b41) 5 5 ([bE_,(bA [49]),(bA [50]),(bA [51]),(bA [45,54,49])]),qC Q3 Q5 Q4 (Jp O x1.key r_43)]) wZ∧(i2_35≤Q0)∧(J1 h2_35)∧(((0:Int) < ((s_n:Nat):Int)→(r_35:Int) < ((s_n:Nat):Int)))∧((((s_n:Nat):Int)≤(0:Int)→r_35=0))∧(i2_43≤Q0)∧(J1 h2_43)∧(r_43 ∈ ([bE_,(bA [49]),(bA [50]),(bA [51]),(bA [45,54,49])]))) [] (.b2 [0,1,2,3,4,9] 5 (.l [6,7,8,10,11,12,13]) 10 (.l [5,6,7,8,11,12,13])) S23.at' [] zK (fun w28 S28 hS=>en2 ?_) ?_
    ·refine zg fun _ F=>?_
     refine Jr F rfl rfl (fun _=>(J4f underlying28 rfl (F.g rfl))) fun _ F=>?_
     refine zg fun _ F=>?_
     refine J03 ?_ ?_
     ·refine Jh rfl (zz1 F (JY (c:=(⟨c.code,i2_23,h2_23⟩:CurD)) (n:=((s_n:Nat):Int)) (RdA.mv (Nat.succ_pos _) V_v_c_code (tc6 S2 S5 S9 S12 S23 S28)) (by unfold J1;(try dsimp only);omega) yd yg yb (At.pick (is:=[0]) S28.at' rfl) (J9 (is:=[0]))) ?_)
      rintro _ w35 ⟨i2_35,h2_35,r_35,rfl,m35,q35_0,q35_1,q35_2,q35_3⟩
      refine ⟨_,rfl,fun _ F=>?_⟩
      have S35:Mv _ _ [bx _ [_,_,_] _,_] _:=At.frame S28.at' [0] rfl m35
      refine nS (Sd.of S35 [] rfl) fun hS=>enL ?_
      obtain ⟨B37,O37,x1,ad37,hx1,okx1,ln37,cl37⟩:=Rd.atK (Nat.succ_pos _) (Rd.mq V_v_s (tc6 S2 S5 S9 S12 S23 S28)) r_35 zO
      clear ln37
      refine Jr F rfl rfl (fun _=>(JB (i:=r_35) ET_28 rfl ((F.ev 25 rfl).trans (by rw [ad37])) (F.g rfl) zO zO)) fun _ F=>?_
      refine zg fun _ F=>?_
      refine J3e (v:=.string x1.key) F hS rfl rfl (fun _ hz=>(JD (cs:=[.string x1.key]) J0j rfl (F.g rfl) rfl (fun _=>rfl) (JN (f:=0) (cl37 _ hz.kp) [.string x1.key] rfl))) fun _ F=>?_
      refine J2 rfl rfl (zb1 (ok:=okS) F S35.at' ([bE_,(bA [49]),(bA [50]),(bA [51]),(bA [45,54,49])]) ET_44 zlS fun b41 w41 _ S41 F=>?_)
      refine nS (Sd.of (S35.trans S41) [] rfl) fun hS=>?_
      refine J2 rfl rfl (zz1 F (J1z (H:=fun b=>¬ fps (sel _ [1]) b) (c:=(⟨c.code,i2_35,h2_35⟩:CurD)) (list:=[bE_,(bA [49]),(bA [50]),(bA [51]),(bA [45,54,49])]) (RdA.mono (RdA.mv (Nat.succ_pos _) V_v_c_code (tc8 S2 S5 S9 S12 S23 S28 S35 S41)) (J9 (is:=[1]))) (by unfold J1;(try dsimp only);omega) yd (At.rdOff S41.at' ET_44.hk 0 rfl [1] rfl) yb yb (At.pick (is:=[1]) S41.at' rfl) (fun _ h=>h)) ?_)
      rintro _ w43 ⟨i2_43,h2_43,r_43,rfl,m43,Q7,q43_0,q43_1,q43_2⟩
      refine ⟨_,rfl,fun _ F=>?_⟩
      have S43:Mv _ _ [bx _ [_,_,_] _,_,_] _:=At.frame S41.at' [1] rfl m43
      refine nS (Sd.of (tc3 S35 S41 S43) [] rfl) fun hS=>?_
      refine J2 rfl rfl (zz1 F (J4n (H:=fun _=>True) (s:=O) (key:=x1.key) (val:=r_43) (At.rd S43.at' ET_28.hk 2 rfl) okx1.1 Q7 yb) ?_)
      rintro _ w45 ⟨Q3,Q5,Q4,rfl,m45⟩
      refine ⟨_,rfl,fun _ F=>?_⟩
      have S45:Mv _ _ [_,bx _ [_,_,_] _,_,_] _:=At.frame S43.at' [] rfl m45
      obtain ⟨Q33,Q38,Q43⟩:=At.ownInv S45.at' ET_28.hk 0 rfl
      refine nS (Sd.of (tc4 S35 S41 S43 S45) [] rfl) fun hS=>?_
      refine zg fun _ F=>?_
      exact ⟨i2_35,h2_35,r_35,x1,b41,i2_43,h2_43,r_43,Q3,Q5,Q4,F.cut rfl,((tc5 S28 S35 S41 S43 S45).pick [1,3,2,0] rfl),q35_0,q35_1,q35_2,q35_3,q43_0,q43_1,q43_2⟩
     refine Jh rfl (zb1 (ok:=okS) F S28.at' ([bE_,(bA [49]),(bA [50]),(bA [51]),(bA [45,54,49])]) ET_44 zlS fun b48 w48 _ S48 F=>?_)
     refine nS (Sd.of S48 [] rfl) fun hS=>enL ?_
     refine J2 rfl rfl (zz1 F (JY (c:=(⟨c.code,i2_23,h2_23⟩:CurD)) (n:=((s_n:Nat):Int)) (RdA.mv (Nat.succ_pos _) V_v_c_code (tc7 S2 S5 S9 S12 S23 S28 S48)) (by unfold J1;(try dsimp only);omega) yd yg yb (At.pick (is:=[1]) S48.at' rfl) (J9 (is:=[1]))) ?_)
     rintro _ w50 ⟨i2_50,h2_50,r_50,rfl,m50,q50_0,q50_1,q50_2,q50_3⟩
     refine ⟨_,rfl,fun _ F=>?_⟩
     have S50:Mv _ _ [bx _ [_,_,_] _,_,_] _:=At.frame S48.at' [1] rfl m50
     refine nS (Sd.of (S48.trans S50) [] rfl) fun hS=>?_
     obtain ⟨B52,O52,x1,ad52,hx1,okx1,ln52,cl52⟩:=Rd.atK (Nat.succ_pos _) (Rd.mq V_v_s (tc6 S2 S5 S9 S12 S23 S28)) r_50 zO
     clear ln52
     refine Jr F rfl rfl (fun _=>(JB (i:=r_50) ET_28 rfl ((F.ev 25 rfl).trans (by rw [ad52])) (F.g rfl) zO zO)) fun _ F=>?_
     refine zg fun _ F=>?_
     refine J3e (v:=.string x1.key) F hS rfl rfl (fun _ hz=>(JD (cs:=[.string x1.key]) J0j rfl (F.g rfl) rfl (fun _=>rfl) (JN (f:=0) (cl52 _ hz.kp) [.string x1.key] rfl))) fun _ F=>?_
     refine J2 rfl rfl (zz1 F (J1z (H:=fun b=>¬ fps (sel _ [0]) b) (c:=(⟨c.code,i2_50,h2_50⟩:CurD)) (list:=[bE_,(bA [49]),(bA [50]),(bA [51]),(bA [45,54,49])]) (RdA.mono (RdA.mv (Nat.succ_pos _) V_v_c_code (tc8 S2 S5 S9 S12 S23 S28 S48 S50)) (J9 (is:=[0]))) (by unfold J1;(try dsimp only);omega) yd (At.rdOff S50.at' ET_44.hk 1 rfl [0] rfl) yb yb (At.pick (is:=[0]) S50.at' rfl) (fun _ h=>h)) ?_)
     rintro _ w56 ⟨i2_56,h2_56,r_56,rfl,m56,Q8,q56_0,q56_1,q56_2⟩
     refine ⟨_,rfl,fun _ F=>?_⟩
     have S56:Mv _ _ [bx _ [_,_,_] _,_,_] _:=At.frame S50.at' [0] rfl m56
     refine nS (Sd.of (tc3 S48 S50 S56) [] rfl) fun hS=>?_
     refine J2 rfl rfl (zz1 F (J4n (H:=fun _=>True) (s:=O) (key:=x1.key) (val:=r_56) (At.rd S56.at' ET_28.hk 2 rfl) okx1.1 Q8 yb) ?_)
     rintro _ w58 ⟨Q13,Q19,Q16,rfl,m58⟩
     refine ⟨_,rfl,fun _ F=>?_⟩
     have S58:Mv _ _ [_,bx _ [_,_,_] _,_,_] _:=At.frame S56.at' [] rfl m58
     obtain ⟨Q34,Q39,Q44⟩:=At.ownInv S58.at' ET_28.hk 0 rfl
     refine nS (Sd.of (tc4 S48 S50 S56 S58) [] rfl) fun hS=>?_
     refine zg fun _ F=>?_
     exact ⟨i2_50,h2_50,r_50,x1,b48,i2_56,h2_56,r_56,Q13,Q19,Q16,F.cut rfl,((tc5 S28 S48 S50 S56 S58).pick [1,3,2,0] rfl),q50_0,q50_1,q50_2,q50_3,q56_0,q56_1,q56_2⟩
    rintro a61 w61 ⟨i2_35,h2_35,r_35,x1,b41,i2_43,h2_43,r_43,Q3,Q5,Q4,F,S61,Q24,Q25,Q26,Q27,Q28,Q29,Q30⟩
    have S61:Mv _ _ [bx _ [_,_,_] _,_,_,_] _:=S61
    obtain ⟨Q35,Q40,Q45⟩:=At.ownInv S61.at' ET_28.hk 3 rfl
    refine zr fun _ F=>?_
    refine zq F ((k+1:Nat):Int) fun _ F=>?_
    exact ⟨k+1,zD,i2_43,h2_43,Jp O x1.key r_43,Q3,Q5,Q4,F.cut rfl,((tc4 S9 S12 S23 S61).pick [3,0] rfl),zO,by assumption,J6j hk_2,Nat.le_trans (J4m ..) zO,zO,by assumption⟩
   refine zr fun _ F=>?_
   refine zbs (ok:=okS) F S23.at' ([(bA [110,47,120]),(bA [110,47,113]),(bA [105,47,49,47,115]),(bA [105,47,50,47,98,47,48]),(bA [112,47,49,47,116]),(bA [114,47,50,47,115]),(bA [103,47,49,47,116]),(bA [116,47,49]),(bA [109,47,49,47,48]),(bA [100,47,110]),(bA [99,47,99,108,111,99,107]),(bA [99,47,102,105,108,101])]) ET_44 zlS fun b67 w67 S67 _ F=>?_
   refine zz F (J1z (H:=fun b=>¬ fps (sel _ [1]) b) (c:=(⟨c.code,i2_23,h2_23⟩:CurD)) (list:=[(bA [110,47,120]),(bA [110,47,113]),(bA [105,47,49,47,115]),(bA [105,47,50,47,98,47,48]),(bA [112,47,49,47,116]),(bA [114,47,50,47,115]),(bA [103,47,49,47,116]),(bA [116,47,49]),(bA [109,47,49,47,48]),(bA [100,47,110]),(bA [99,47,99,108,111,99,107]),(bA [99,47,102,105,108,101])]) (RdA.mono (RdA.mv (Nat.succ_pos _) V_v_c_code (tc6 S2 S5 S9 S12 S23 S67)) (J9 (is:=[1]))) (by unfold J1;(try dsimp only);omega) yd (At.rdOff S67.at' ET_44.hk 0 rfl [1] rfl) yb yb (At.pick (is:=[1]) S67.at' rfl) (fun _ h=>h)) ?_
   rintro _ w69 ⟨i2_69,h2_69,r_69,rfl,m69,Q9,q69_0,q69_1,q69_2⟩
   refine zt fun _ F=>?_
   have S69:Mv _ _ [bx _ [_,_,_] _,_,_] _:=At.frame S67.at' [1] rfl m69
   refine zbs (ok:=okS) F S69.at' ([(bA [49]),(bA [50]),(bA [53]),(bA [45,54,50])]) ET_44 zlS fun b72 w72 S72 _ F=>?_
   refine zz F (J1z (H:=fun b=>¬ fps (sel _ [1]) b) (c:=(⟨c.code,i2_69,h2_69⟩:CurD)) (list:=[(bA [49]),(bA [50]),(bA [53]),(bA [45,54,50])]) (RdA.mono (RdA.mv (Nat.succ_pos _) V_v_c_code (tc8 S2 S5 S9 S12 S23 S67 S69 S72)) (J9 (is:=[1]))) (by unfold J1;(try dsimp only);omega) yd (At.rdOff S72.at' ET_44.hk 0 rfl [1] rfl) yb yb (At.pick (is:=[1]) S72.at' rfl) (fun _ h=>h)) ?_
   rintro _ w74 ⟨i2_74,h2_74,r_74,rfl,m74,Q10,q74_0,q74_1,q74_2⟩
   refine zt fun _ F=>?_
   have S74:Mv _ _ [bx _ [_,_,_] _,_,_,_] _:=At.frame S72.at' [1] rfl m74
   refine zz F (J4n (H:=fun _=>True) (s:=O) (key:=r_69) (val:=r_74) (At.rd S74.at' ET_28.hk 3 rfl) Q9 Q10 yb) ?_
   rintro _ w76 ⟨Q14,Q20,Q17,rfl,m76⟩
   refine zt fun _ F=>?_
   have S76:Mv _ _ [_,bx _ [_,_,_] _,_,_,_] _:=At.frame S74.at' [] rfl m76
   obtain ⟨Q36,Q41,Q46⟩:=At.ownInv S76.at' ET_28.hk 0 rfl
   refine zq F ((k+1:Nat):Int) fun _ F=>?_
   exact ⟨k+1,zD,i2_74,h2_74,Jp O r_69 r_74,Q14,Q20,Q17,F.cut rfl,((tc8 S9 S12 S23 S67 S69 S72 S74 S76).pick [0,1] rfl),zO,by assumption,J6j hk_2,Nat.le_trans (J4m ..) zO,zO,by assumption⟩
  rw [decide_eq_false h21] at F
  refine zr fun _ F=>?_
  refine zbs (ok:=okS) F S12.at' ([(bA [110,47,120]),(bA [110,47,113]),(bA [105,47,49,47,115]),(bA [105,47,50,47,98,47,48]),(bA [112,47,49,47,116]),(bA [114,47,50,47,115]),(bA [103,47,49,47,116]),(bA [116,47,49]),(bA [109,47,49,47,48]),(bA [100,47,110]),(bA [99,47,99,108,111,99,107]),(bA [99,47,102,105,108,101])]) ET_44 zlS fun b87 w87 S87 _ F=>?_
  refine zz F (J1z (H:=fun b=>¬ fps (sel _ [1]) b) (c:=(⟨c.code,i2_12,h2_12⟩:CurD)) (list:=[(bA [110,47,120]),(bA [110,47,113]),(bA [105,47,49,47,115]),(bA [105,47,50,47,98,47,48]),(bA [112,47,49,47,116]),(bA [114,47,50,47,115]),(bA [103,47,49,47,116]),(bA [116,47,49]),(bA [109,47,49,47,48]),(bA [100,47,110]),(bA [99,47,99,108,111,99,107]),(bA [99,47,102,105,108,101])]) (RdA.mono (RdA.mv (Nat.succ_pos _) V_v_c_code (tc5 S2 S5 S9 S12 S87)) (J9 (is:=[1]))) (by unfold J1;(try dsimp only);omega) yd (At.rdOff S87.at' ET_44.hk 0 rfl [1] rfl) yb yb (At.pick (is:=[1]) S87.at' rfl) (fun _ h=>h)) ?_
  rintro _ w89 ⟨i2_89,h2_89,r_89,rfl,m89,Q11,q89_0,q89_1,q89_2⟩
  refine zt fun _ F=>?_
  have S89:Mv _ _ [bx _ [_,_,_] _,_,_] _:=At.frame S87.at' [1] rfl m89
  refine zbs (ok:=okS) F S89.at' ([(bA [49]),(bA [50]),(bA [53]),(bA [45,54,50])]) ET_44 zlS fun b92 w92 S92 _ F=>?_
  refine zz F (J1z (H:=fun b=>¬ fps (sel _ [1]) b) (c:=(⟨c.code,i2_89,h2_89⟩:CurD)) (list:=[(bA [49]),(bA [50]),(bA [53]),(bA [45,54,50])]) (RdA.mono (RdA.mv (Nat.succ_pos _) V_v_c_code (tc7 S2 S5 S9 S12 S87 S89 S92)) (J9 (is:=[1]))) (by unfold J1;(try dsimp only);omega) yd (At.rdOff S92.at' ET_44.hk 0 rfl [1] rfl) yb yb (At.pick (is:=[1]) S92.at' rfl) (fun _ h=>h)) ?_
  rintro _ w94 ⟨i2_94,h2_94,r_94,rfl,m94,Q12,q94_0,q94_1,q94_2⟩
  refine zt fun _ F=>?_
  have S94:Mv _ _ [bx _ [_,_,_] _,_,_,_] _:=At.frame S92.at' [1] rfl m94
  refine zz F (J4n (H:=fun _=>True) (s:=O) (key:=r_89) (val:=r_94) (At.rd S94.at' ET_28.hk 3 rfl) Q11 Q12 yb) ?_
  rintro _ w96 ⟨Q15,Q21,Q18,rfl,m96⟩
  refine zt fun _ F=>?_
  have S96:Mv _ _ [_,bx _ [_,_,_] _,_,_,_] _:=At.frame S94.at' [] rfl m96
  obtain ⟨Q37,Q42,Q47⟩:=At.ownInv S96.at' ET_28.hk 0 rfl
  refine zq F ((k+1:Nat):Int) fun _ F=>?_
  exact ⟨k+1,zD,i2_94,h2_94,Jp O r_89 r_94,Q15,Q21,Q18,F.cut rfl,((tc7 S9 S12 S87 S89 S92 S94 S96).pick [0,1] rfl),zO,by assumption,J6j hk_2,Nat.le_trans (J4m ..) zO,zO,by assumption⟩
 refine zr fun _ F=>?_
 refine zd1 F ?_
 exact ⟨i2_12,h2_12,O,oa,on,oc,rfl,(Mv.pick (tc4 S2 S5 S9 S12) [1,0] rfl),yk,yk,yk,zO⟩
theorem JdH {id:Int} {age:Int} {proc:Int} (h_id:J1 id) (Q15:J1 age) (Q16:J1 proc) :
 Calls prog 194 #[iV id,iV age,iV proc] w fun e w'=>∃ (Q3:Option Addr)(Q5 Q4:Nat)(Q0:Option Addr)(Q2 Q1:Nat)(Q9:Option Addr)(Q11 Q10:Nat)(Q12:Option Addr)(Q14 Q13:Nat)(Q6:Option Addr)(Q8 Q7:Nat),e=.returned (.agg #[iV id,iV age,iV proc,iV 0,.slice Q3 Q5 Q4,.slice Q0 Q2 Q1,.slice Q9 Q11 Q10,.slice Q12 Q14 Q13,.slice Q6 Q8 Q7,iV 1])∧Mv [] w [qK Q3 Q5 Q4 ([]),qR Q0 Q2 Q1 ([]),qI Q6 Q8 Q7 ([])] w'∧Rd 1 J3 okS (V (HP H []) w [qK Q3 Q5 Q4 ([]),qR Q0 Q2 Q1 ([]),qI Q6 Q8 Q7 ([])]) w' (.slice Q9 Q11 Q10) ([])∧Rd 1 J3 okS (V (HP H []) w [qK Q3 Q5 Q4 ([]),qR Q0 Q2 Q1 ([]),qI Q6 Q8 Q7 ([])]) w' (.slice Q12 Q14 Q13) ([]):=by
 refine ze fun _ F=>?_
 refine zal F (At.nil w) J1t fun b1 w1 S1 _ F=>?_
 refine zv (v:=.agg #[iV id,iV age,iV proc,iV 0,sN,sN,sN,sN,sN,iV 1]) F (J06 J7B rfl (lc (pr2 (F.g rfl)) (lc (pr2 (F.g rfl)) (lc (pr2 (F.g rfl)) (lc (pr2 rfl) rfl)))) rfl) fun _ F=>?_
 refine zst F S1.at' 0 fun w7 S7 _ F=>?_
 have S8:Mv [bx b1 [iV id,iV age,iV proc,iV 0,sN,sN,sN,sN,sN,iV 1] 58] w7 [qK none 0 0 ([]:List CallD),bx b1 [iV id,iV age,iV proc,iV 0,sN,sN,sN,sN,sN,iV 1] 58] w7:=J2O S7.at'
 have S9:Mv [qK none 0 0 ([]:List CallD),bx b1 [iV id,iV age,iV proc,iV 0,sN,sN,sN,sN,sN,iV 1] 58] w7 [qR none 0 0 ([]:List AnsD),qK none 0 0 ([]:List CallD),bx b1 [iV id,iV age,iV proc,iV 0,sN,sN,sN,sN,sN,iV 1] 58] w7:=J2O S8.at'
 have S10:Mv [qR none 0 0 ([]:List AnsD),qK none 0 0 ([]:List CallD),bx b1 [iV id,iV age,iV proc,iV 0,sN,sN,sN,sN,sN,iV 1] 58] w7 [qI none 0 0 ([]:List Int),qR none 0 0 ([]:List AnsD),qK none 0 0 ([]:List CallD),bx b1 [iV id,iV age,iV proc,iV 0,sN,sN,sN,sN,sN,iV 1] 58] w7:=J2O S9.at'
 refine zdc F S7.at' 0 ?_
 exact ⟨none,0,0,none,0,0,none,0,0,none,0,0,none,0,0,rfl,(Mv.cast (Mv.pick (tc5 S1 S7 S8 S9 S10) [2,1,0] rfl) rfl),Rd.nil,Rd.nil⟩
end
end Go.Proofs.YtipdbeklopjbmaaGreatDoor
