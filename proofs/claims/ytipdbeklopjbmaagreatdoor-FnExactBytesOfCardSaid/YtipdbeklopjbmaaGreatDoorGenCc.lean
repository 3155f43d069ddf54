/-
  Walks: the reference's view of a store, the size of a transaction's record.
-/
import Derived.Test.YtipdbeklopjbmaaGreatDoorMQ
import Derived.Test.YtipdbeklopjbmaaGreatDoorP21
set_option linter.unusedVariables false
set_option linter.unusedSimpArgs false
namespace Go.Proofs.YtipdbeklopjbmaaGreatDoor
open Go.ChangeShapes Go.WideShapes Go.ChangeAt Go.RowKit
set_option maxRecDepth 100000
set_option maxHeartbeats 1000000
theorem spec_l15Run_c {w:World} {H:Nat→Prop} {s:List CellD} {s_a:Option Addr} {s_n s_c:Nat} {steps:List StepD} {Q6:Option Addr} {Q8 Q7:Nat} {P:Int} {cs:List CallD} (v_s:Rd 2 encC okC H w (.slice s_a s_n s_c) s) (Q9:Rd 7 encStep okStep H w (.slice Q6 Q8 Q7) steps) (tab0:Tb 0 H w) (tab1:Tb 1 H w) (tab2:Tb 2 H w) (p0:steps=cs.map (stepD P)) (p1:cellsOk s) (p2:s.length≤1048576) (p3:cs.length≤1048576) (p4:i64ok P) :
 Calls Tryz.prog 110 #[.slice s_a s_n s_c,.slice Q6 Q8 Q7] w fun e w'=>∃ (A:List AnsD),∃ (T:TouchD),∃ (r0_a:Option Addr),∃ (r0_n:Nat),∃ (r0_c:Nat),∃ (r1_a:Option Addr),∃ (r1_n:Nat),∃ (r1_c:Nat),∃ (Q0:Option Addr),∃ (Q2:Nat),∃ (Q1:Nat),∃ (Q3:Option Addr),∃ (Q5:Nat),∃ (Q4:Nat),e=.returned (.tuple #[.slice r0_a r0_n r0_c,.slice r1_a r1_n r1_c,.agg #[.slice Q0 Q2 Q1,.slice Q3 Q5 Q4]])∧Mv [] w [] w'∧Rd 2 encC okC (Fsh H w) w' (.slice r0_a r0_n r0_c) (runS s P cs)∧Rd 3 encR okR (Fsh H w) w' (.slice r1_a r1_n r1_c) A∧Rd 1 encS okS (Fsh H w) w' (.slice Q0 Q2 Q1) T.reads∧Rd 1 encS okS (Fsh H w) w' (.slice Q3 Q5 Q4) T.writes∧(runS s P cs).length≤400000000:=by
 have hT:=tbO_of tab0 tab1 tab2
 have hn:=v_s.inv.1
 have hq:=Q9.inv.1
 subst p0
 rw [List.length_map] at hq
 refine (l15Run_s (X:=uni0 s P) (cs:=cs) hT v_s Q9 (uni0_un p1 p2) (by omega) (by omega) (by omega) p4).mono ?_
 rintro e w' ⟨v,A,rfl,m,⟨R,W,k1,k2,k3,hU⟩,k4⟩
 exact ⟨A.l,⟨R,W⟩,v.sa,v.sn,v.sc,A.a,A.n,A.c,v.ra,v.rn,v.rc,v.wa,v.wn,v.wc,rfl,m,k1,k4,k2,k3,Nat.le_trans hU.bd.1 (by omega)⟩
theorem spec_TxView_c {w:World} {H:Nat→Prop} {s:List CellD} {s_a:Option Addr} {s_n s_c:Nat} {x:TxD} {Q3:Option Addr} {Q5 Q4:Nat} {Q0:Option Addr} {Q2 Q1:Nat} {x_Ra:Option Addr} {x_Rn x_Rc:Nat} {x_Wa:Option Addr} {x_Wn x_Wc:Nat} {Q6:Option Addr} {Q8 Q7:Nat} (v_s:Rd 2 encC okC H w (.slice s_a s_n s_c) s) (Q22:i64ok x.id) (Q20:i64ok x.age) (Q23:i64ok x.proc) (Q21:i64ok x.began) (Q10:Rd 6 encK okK H w (.slice Q3 Q5 Q4) x.calls) (Q9:Rd 3 encR okR H w (.slice Q0 Q2 Q1) x.answers) (Q12:Rd 1 encS okS H w (.slice x_Ra x_Rn x_Rc) x.touch.reads) (Q13:Rd 1 encS okS H w (.slice x_Wa x_Wn x_Wc) x.touch.writes) (Q11:Rd 1 encI okI H w (.slice Q6 Q8 Q7) x.marks) (Q24:i64ok x.state) (tab0:Tb 0 H w) (tab1:Tb 1 H w) (tab2:Tb 2 H w) (p0:cellsOk s) (p1:s.length≤1048576) (p2:x.calls.length≤1048576) (p3:i64ok x.proc) :
 Calls Tryz.prog 60 #[.slice s_a s_n s_c,.agg #[.int .i64 x.id,.int .i64 x.age,.int .i64 x.proc,.int .i64 x.began,.slice Q3 Q5 Q4,.slice Q0 Q2 Q1,.slice x_Ra x_Rn x_Rc,.slice x_Wa x_Wn x_Wc,.slice Q6 Q8 Q7,.int .i64 x.state]] w fun e w'=>∃ (r0_a:Option Addr),∃ (r0_n:Nat),∃ (r0_c:Nat),e=.returned (.slice r0_a r0_n r0_c)∧Mv [] w [] w'∧Rd 2 encC okC (Fsh H w) w' (.slice r0_a r0_n r0_c) (runS s x.proc x.calls)∧(runS s x.proc x.calls).length≤400000000:=by
 have V_v_s:=Rd.start v_s zN
 obtain ⟨ln_s,le_s,mx_s,ni_s⟩:=Rd.inv v_s
 have V_v_x_calls:=Rd.start Q10 zN
 obtain ⟨Q31,Q26,Q39,Q44⟩:=Rd.inv Q10
 have V_v_x_answers:=Rd.start Q9 zN
 obtain ⟨Q30,Q25,Q38,Q43⟩:=Rd.inv Q9
 have V_v_x_touch_reads:=Rd.start Q12 zN
 obtain ⟨Q33,Q28,Q41,Q46⟩:=Rd.inv Q12
 have V_v_x_touch_writes:=Rd.start Q13 zN
 obtain ⟨Q34,Q29,Q42,Q47⟩:=Rd.inv Q13
 have V_v_x_marks:=Rd.start Q11 zN
 obtain ⟨Q32,Q27,Q40,Q45⟩:=Rd.inv Q11
 have V_tab0:=Tb.start tab0 zN
 have V_tab1:=Tb.start tab1 zN
 have V_tab2:=Tb.start tab2 zN
 refine ze fun _ F=>?_
 refine l_op (f_box F (At.nil w) rfl rfl rfl (F.g rfl) rfl rfl fun b1 _ w1 F S1=>?_)
 refine zr fun _ F=>?_
 refine zw F S1.at' 0 fun _ F=>?_
 refine zz F (spec_TxSteps_c (tx:=x) zI5 zI5 zI5 zI5 (Rd.mq V_v_x_calls S1) (Rd.mq V_v_x_answers S1) (Rd.mq V_v_x_touch_reads S1) (Rd.mq V_v_x_touch_writes S1) (Rd.mq V_v_x_marks S1) zI5 zI8 zI8) ?_
 rintro _ w6 ⟨Q14,Q18,Q16,rfl,m6⟩
 refine zt fun _ F=>?_
 have S6:Mv _ _ [_,bx _ [_,_,_,_,_,_,_,_,_,_] _] _:=At.frame S1.at' [] rfl m6
 obtain ⟨Q35,Q36,Q37⟩:=At.ownInv S6.at' ET_151.hk 0 rfl
 clear m6
 have Z9:Rd 7 encStep okStep (V H w [bx b1 [.int .i64 x.id,.int .i64 x.age,.int .i64 x.proc,.int .i64 x.began,.slice Q3 Q5 Q4,.slice Q0 Q2 Q1,.slice x_Ra x_Rn x_Rc,.slice x_Wa x_Wn x_Wc,.slice Q6 Q8 Q7,.int .i64 x.state] 58]) w6 (.slice Q14 Q18 Q16) (stepsD x):=At.freeze (S1.trans S6) ET_151.hk 0 rfl (fun b hb=>((S1.trans S6).fresh b ⟨_,nth_mem (i:=0) rfl,hb⟩).resolve_left (fps_nil _))
 have S9:=At.drop S6.at' 0
 refine zz F (spec_l15Run_c (P:=x.proc) (cs:=x.calls) (s:=s) (steps:=stepsD x) (Rd.mq V_v_s (S1.trans (S6.trans S9))) Z9 (Tb.mv V_tab0 (S1.trans (S6.trans S9))) (Tb.mv V_tab1 (S1.trans (S6.trans S9))) (Tb.mv V_tab2 (S1.trans (S6.trans S9))) (by first|rfl|assumption) (by first|rfl|assumption) (by first|rfl|assumption) (by first|rfl|assumption) (by first|rfl|assumption)) ?_
 rintro _ w8 ⟨A_8,T_8,Q15,Q19,Q17,Q48,Q50,Q49,Q51,Q53,Q52,Q54,Q56,Q55,rfl,m8,v8_0,v8_1,v8_2,v8_3,q8_0⟩
 refine zt fun _ F=>?_
 have S8:=At.frame0 S9.at' m8
 have V8_0:=Rd.got0 S9.at' ((S1.trans (S6.trans S9)).kp.size) v8_0 S8
 obtain ⟨ln8_0,le8_0,mx8_0,ni8_0⟩:=Rd.inv V8_0
 have V8_1:=Rd.got0 S9.at' ((S1.trans (S6.trans S9)).kp.size) v8_1 S8
 obtain ⟨ln8_1,le8_1,mx8_1,ni8_1⟩:=Rd.inv V8_1
 have V8_2:=Rd.got0 S9.at' ((S1.trans (S6.trans S9)).kp.size) v8_2 S8
 obtain ⟨ln8_2,le8_2,mx8_2,ni8_2⟩:=Rd.inv V8_2
 have V8_3:=Rd.got0 S9.at' ((S1.trans (S6.trans S9)).kp.size) v8_3 S8
 obtain ⟨ln8_3,le8_3,mx8_3,ni8_3⟩:=Rd.inv V8_3
 clear m8 v8_0 v8_1 v8_2 v8_3
 refine l_op (f_alloc F S8.at' ZI_56 rfl rfl rfl rfl rfl fun b15 _ w15 F S15=>?_)
 refine zr fun _ F=>?_
 refine l_op (s_store S15.at' 0 TI_56 rfl rfl rfl rfl rfl (F.g rfl) (F.g rfl) rfl rfl rfl rfl rfl fun w19 S19=>?_)
 have T20:Mv _ _ [bx _ [_,_] _,bx _ [_,_,_,_,_,_,_,_,_,_] _] _:=S19
 refine zr fun _ F=>?_
 refine x_done F (results_1 rfl (zta F)) ?_
 exact ⟨Q15,Q19,Q17,rfl,(Mv.pick (S1.trans (S6.trans (S9.trans (S8.trans (S15.trans T20))))) [] rfl),(Rd.give (Rd.mq V8_0 (S15.trans T20))),zIa⟩
theorem spec_BytesOf_c {w:World} {H:Nat→Prop} {s:List CellD} {s_a:Option Addr} {s_n s_c:Nat} {x:TxD} {Q8:Option Addr} {Q10 Q9:Nat} {Q5:Option Addr} {Q7 Q6:Nat} {x_Ra:Option Addr} {x_Rn x_Rc:Nat} {x_Wa:Option Addr} {x_Wn x_Wc:Nat} {Q11:Option Addr} {Q13 Q12:Nat} (v_s:Rd 2 encC okC H w (.slice s_a s_n s_c) s) (Q16:i64ok x.id) (Q14:i64ok x.age) (Q17:i64ok x.proc) (Q15:i64ok x.began) (Q1:Rd 6 encK okK H w (.slice Q8 Q10 Q9) x.calls) (Q0:Rd 3 encR okR H w (.slice Q5 Q7 Q6) x.answers) (Q3:Rd 1 encS okS H w (.slice x_Ra x_Rn x_Rc) x.touch.reads) (Q4:Rd 1 encS okS H w (.slice x_Wa x_Wn x_Wc) x.touch.writes) (Q2:Rd 1 encI okI H w (.slice Q11 Q13 Q12) x.marks) (Q18:i64ok x.state) (tab0:Tb 0 H w) (tab1:Tb 1 H w) (tab2:Tb 2 H w) (p0:cellsOk s) (p1:s.length≤1048576) (p2:x.calls.length≤1048576) (p3:i64ok x.proc) :
 Calls Tryz.prog 17 #[.slice s_a s_n s_c,.agg #[.int .i64 x.id,.int .i64 x.age,.int .i64 x.proc,.int .i64 x.began,.slice Q8 Q10 Q9,.slice Q5 Q7 Q6,.slice x_Ra x_Rn x_Rc,.slice x_Wa x_Wn x_Wc,.slice Q11 Q13 Q12,.int .i64 x.state]] w fun e w'=>e=.returned (.int .i64 ((bytesD s x:Nat):Int))∧Mv [] w [] w':=by
 have V_v_s:=Rd.start v_s zN
 obtain ⟨ln_s,le_s,mx_s,ni_s⟩:=Rd.inv v_s
 have V_v_x_calls:=Rd.start Q1 zN
 obtain ⟨Q25,Q20,Q33,Q38⟩:=Rd.inv Q1
 have V_v_x_answers:=Rd.start Q0 zN
 obtain ⟨Q24,Q19,Q32,Q37⟩:=Rd.inv Q0
 have V_v_x_touch_reads:=Rd.start Q3 zN
 obtain ⟨Q27,Q22,Q35,Q40⟩:=Rd.inv Q3
 have V_v_x_touch_writes:=Rd.start Q4 zN
 obtain ⟨Q28,Q23,Q36,Q41⟩:=Rd.inv Q4
 have V_v_x_marks:=Rd.start Q2 zN
 obtain ⟨Q26,Q21,Q34,Q39⟩:=Rd.inv Q2
 have V_tab0:=Tb.start tab0 zN
 have V_tab1:=Tb.start tab1 zN
 have V_tab2:=Tb.start tab2 zN
 refine ze fun _ F=>?_
 refine l_op (f_box F (At.nil w) rfl rfl rfl (F.g rfl) rfl rfl fun b1 _ w1 F S1=>?_)
 refine zr fun _ F=>?_
 refine zw F S1.at' 0 fun _ F=>?_
 refine zz F (spec_TxView_c (s:=s) (x:=x) (Rd.mq V_v_s S1) zI5 zI5 zI5 zI5 (Rd.mq V_v_x_calls S1) (Rd.mq V_v_x_answers S1) (Rd.mq V_v_x_touch_reads S1) (Rd.mq V_v_x_touch_writes S1) (Rd.mq V_v_x_marks S1) zI5 (Tb.mv V_tab0 S1) (Tb.mv V_tab1 S1) (Tb.mv V_tab2 S1) zI8 zI8 zI8 zI8) ?_
 rintro _ w7 ⟨Q42,Q46,Q44,rfl,m7,v7_0,q7_0⟩
 refine zt fun _ F=>?_
 have S7:=At.frame0 S1.at' m7
 have V7_0:=Rd.got0 S1.at' (S1.kp.size) v7_0 S7
 obtain ⟨ln7_0,le7_0,mx7_0,ni7_0⟩:=Rd.inv V7_0
 clear m7 v7_0
 refine zz F (spec_Changes_c (a:=s) (b:=runS s x.proc x.calls) (Rd.mq V_v_s (S1.trans S7)) V7_0 zI8 zI8) ?_
 rintro _ w9 ⟨Q43,Q47,Q45,rfl,m9⟩
 refine zt fun _ F=>?_
 have S9:Mv _ _ [_,bx _ [_,_,_,_,_,_,_,_,_,_] _] _:=At.frame S7.at' [] rfl m9
 obtain ⟨Q29,Q30,Q31⟩:=At.ownInv S9.at' ET_28.hk 0 rfl
 clear m9
 refine zz F (spec_RecordSize_c (H:=fun _=>True) (list:=changesD s (runS s x.proc x.calls)) (At.rd S9.at' ET_28.hk 0 rfl) (by unfold changesD;rw [List.length_map];have hz:=diffL_len s (runS s x.proc x.calls);omega)) ?_
 rintro _ w11 ⟨rfl,m11⟩
 refine zt fun _ F=>?_
 have S11:=At.frame0 S9.at' m11
 clear m11
 have T14:Mv _ _ [_,bx _ [_,_,_,_,_,_,_,_,_,_] _] _:=S11
 refine x_done F (results_1 rfl (zta F)) ?_
 exact ⟨rfl,(Mv.pick (S1.trans (S7.trans (S9.trans T14))) [] rfl)⟩
end Go.Proofs.YtipdbeklopjbmaaGreatDoor
