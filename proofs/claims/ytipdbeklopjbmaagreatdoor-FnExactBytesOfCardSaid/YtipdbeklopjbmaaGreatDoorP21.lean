/-
  Texts laid together: GenBz, GenCa, GenCb, KaS2.
-/
import Derived.Test.YtipdbeklopjbmaaGreatDoorP19
import Derived.Test.YtipdbeklopjbmaaGreatDoorP20
import Derived.Test.YtipdbeklopjbmaaGreatDoorGenRx
import Derived.Test.YtipdbeklopjbmaaGreatDoorP18
import Derived.Test.YtipdbeklopjbmaaGreatDoorKaS
set_option linter.unusedVariables false
set_option linter.unusedSimpArgs false
namespace Go.Proofs.YtipdbeklopjbmaaGreatDoor
open Go.ChangeShapes Go.WideShapes Go.ChangeAt Go.RowKit
set_option maxRecDepth 100000
set_option maxHeartbeats 1000000
theorem impl_DiffKeys_c {w:World} {H:Nat→Prop} {a:List CellD} {a_a:Option Addr} {a_n a_c:Nat} {b:List CellD} {b_a:Option Addr} {b_n b_c:Nat} (v_a:Rd 2 encC okC H w (.slice a_a a_n a_c) a) (v_b:Rd 2 encC okC H w (.slice b_a b_n b_c) b) (tab0:Tb 0 H w) (tab1:Tb 1 H w) (tab2:Tb 2 H w) (p0:a_n≤137438953472) (p1:b_n≤137438953472) :
 Calls Tryz.prog 116 #[.slice a_a a_n a_c,.slice b_a b_n b_c] w fun e w'=>∃ (r0_a:Option Addr),∃ (r0_n:Nat),∃ (r0_c:Nat),e=.returned (.slice r0_a r0_n r0_c)∧Mv [] w [ow 9 1 encS okS (.slice r0_a r0_n r0_c) (diffL a b)] w':=by
 have hT:=tbO_of tab0 tab1 tab2
 refine (diffKeys_k hT v_a v_b p0 p1).mono ?_
 rintro e w' ⟨s,rfl,m,hs⟩
 exact ⟨s.a,s.n,s.c,rfl,by rw [← hs];exact m⟩
theorem impl_Changes_c {w:World} {H:Nat→Prop} {a:List CellD} {a_a:Option Addr} {a_n a_c:Nat} {b:List CellD} {b_a:Option Addr} {b_n b_c:Nat} (v_a:Rd 2 encC okC H w (.slice a_a a_n a_c) a) (v_b:Rd 2 encC okC H w (.slice b_a b_n b_c) b) (tab0:Tb 0 H w) (tab1:Tb 1 H w) (tab2:Tb 2 H w) (p0:a_n≤137438953472) (p1:b_n≤137438953472) :
 Calls Tryz.prog 67 #[.slice a_a a_n a_c,.slice b_a b_n b_c] w fun e w'=>∃ (r0_a:Option Addr),∃ (r0_n:Nat),∃ (r0_c:Nat),e=.returned (.slice r0_a r0_n r0_c)∧Mv [] w [ow 91 2 encC okC (.slice r0_a r0_n r0_c) (changesD a b)] w':=by
 have hdl:=diffL_len a b
 have V_v_a:=Rd.start v_a zN
 obtain ⟨ln_a,le_a,mx_a,ni_a⟩:=Rd.inv v_a
 have V_v_b:=Rd.start v_b zN
 obtain ⟨ln_b,le_b,mx_b,ni_b⟩:=Rd.inv v_b
 have V_tab0:=Tb.start tab0 zN
 have V_tab1:=Tb.start tab1 zN
 have V_tab2:=Tb.start tab2 zN
 refine ze fun _ F=>?_
 refine zz F (impl_DiffKeys_c (a:=a) (b:=b) V_v_a V_v_b V_tab0 V_tab1 V_tab2 zI8 zI8) ?_
 rintro _ w5 ⟨Q1,Q0,Q2,rfl,m5⟩
 refine zt fun _ F=>?_
 have S5:Mv _ _ [_] _:=At.frame (At.nil w) [] rfl m5
 obtain ⟨Q4,Q5,Q6⟩:=At.ownInv S5.at' ET_44.hk 0 rfl
 clear m5
 have S10:Mv [ow 9 1 encS okS (.slice Q1 Q0 Q2) (diffL a b)] w5 [ow 91 2 encC okC (.slice none 0 0) ([]:List CellD),ow 9 1 encS okS (.slice Q1 Q0 Q2) (diffL a b)] w5:=mv_nil S5.at'
 refine x_lp (fun (k:Nat) aZ wZ=>∃ (D:List CellD),∃ (oa:Option Addr),∃ (on:Nat),∃ (oc:Nat),Fr 26 [(12,.int .i64 ((k:Nat):Int)),(11,.int .i64 ((Q0:Nat):Int)),(10,.slice Q1 Q0 Q2),(5,.slice oa on oc),(1,.slice b_a b_n b_c)] aZ∧Mv [ow 91 2 encC okC (.slice none 0 0) ([]:List CellD),ow 9 1 encS okS (.slice Q1 Q0 Q2) (diffL a b)] w5 [ow 91 2 encC okC (.slice oa on oc) D,ow 9 1 encS okS (.slice Q1 Q0 Q2) (diffL a b)] wZ∧(k≤(diffL a b).length)∧(D=((diffL a b).take k).map (chgD b))) (fun (k:Nat)=>(diffL a b).length - k) (0) ?_ ?_
 ·exact ⟨([]:List CellD),none,0,0,F.cut rfl,(Mv.refl S10.at'),by omega,by rw [List.take_zero];rfl⟩
 ·rintro k a9 w9 ⟨D,oa,on,oc,F,S9,hk_0,hk_1⟩
  have hDl:D.length≤k:=by rw [hk_1,List.length_map,List.length_take];omega
  refine zr fun _ F=>?_
  refine zc F (k < Q0) fun _ F=>?_
  refine zi F (fun h12=>?_) fun h12=>?_
  ·refine zr fun _ F=>?_
   obtain ⟨B13,O13,x1,ad13,hx1,okx1,ln13,cl13⟩:=Rd.at (At.rd S9.at' ET_44.hk 1 rfl) k zIa
   clear ln13
   refine zv F (r_indexAddr (i:=k) ET_44 rfl ((F.ev 10 rfl).trans (by rw [ad13])) (F.g rfl) (by omega) zIa) fun _ F=>?_
   refine zv (v:=.string x1) F (r_load (cs:=[.string x1]) TI_9 rfl (F.g rfl) rfl (fun _=>rfl) (elem_sub (f:=0) cl13 [.string x1] rfl)) fun _ F=>?_
   refine zz F (impl_GetKey_c (s:=b) (key:=x1) (Rd.mq V_v_b (S5.trans (S10.trans S9))) okx1) ?_
   rintro _ w21 ⟨rfl,m21,Q3⟩
   refine zt fun _ F=>?_
   have S21:=At.frame0 S9.at' m21
   clear m21
   refine zv (v:=.agg #[.string x1,.string (getKey b x1)]) F (r_build BI_91 rfl (lc (pr2 (F.g rfl)) (lc (pr2 (F.g rfl)) rfl)) rfl) fun _ F=>?_
   refine l_op (f_buildSl (ok:=okC) (vs:=[.agg #[.string x1,.string (getKey b x1)]]) F S21.at' ([(⟨x1,(getKey b x1)⟩:CellD)]) ET_28 rfl rfl rfl rfl rfl rfl (lc (pr2 (F.g rfl)) rfl) rfl rfl (fun x hx=>(List.mem_singleton.1 hx) ▸ ⟨okx1,Q3⟩) fun b24 _ w24 F S24=>?_)
   refine l_op (f_app (news:=[(⟨x1,(getKey b x1)⟩:CellD)]) F S24.at' 1 ET_28 rfl rfl rfl rfl rfl rfl (F.g rfl) (F.g rfl) ((At.rd S24.at' ET_28.hk 0 rfl)).1 zI9 fun A26 N26 C26 _ w26 F S26 l26=>?_)
   have S28:=At.drop S26.at' 1
   refine zr fun _ F=>?_
   have T30:Mv _ _ [_,_] _:=S28
   refine zq F ((k+1:Nat):Int) fun _ F=>?_
   exact ⟨k+1,zD,D++([(⟨x1,(getKey b x1)⟩:CellD)]),A26,N26,C26,F.cut rfl,((S9.trans (S21.trans (S24.trans (S26.trans T30)))).pick [0,1] rfl),by omega,mapS (f:=chgD b) hk_1 hx1⟩
  ·refine zr fun _ F=>?_
   refine x_done F (results_1 rfl (zta F)) ?_
   exact ⟨oa,on,oc,rfl,(Mv.cast (Mv.pick (S5.trans (S10.trans S9)) [0] rfl) (lc (zOw (by exact mapE hk_1 (by omega))) rfl))⟩
theorem impl_RecordSize_c {w:World} {H:Nat→Prop} {list:List CellD} {Q0:Option Addr} {Q2 Q1:Nat} (Q3:Rd 2 encC okC H w (.slice Q0 Q2 Q1) list) (tab0:Tb 0 H w) (p0:list.length≤4294967280) :
 Calls Tryz.prog 66 #[.slice Q0 Q2 Q1] w fun e w'=>e=.returned (.int .i64 (((recT 100000 list).size:Nat):Int))∧Mv [] w [] w':=by
 have V_v_list:=Rd.start Q3 zN
 obtain ⟨Q5,Q4,Q6,Q7⟩:=Rd.inv Q3
 have V_tab0:=Tb.start tab0 zN
 refine ze fun _ F=>?_
 refine zz F (impl_RecordText_c (seq:=100000) (list:=list) zI7 V_v_list V_tab0 zI8) ?_
 rintro _ w3 ⟨rfl,m3,Q8⟩
 refine zt fun _ F=>?_
 have S3:=At.frame0 (At.nil w) m3
 clear m3
 refine x_done F (results_1 rfl (zta F)) ?_
 exact ⟨rfl,(Mv.pick S3 [] rfl)⟩
theorem spec_RecordSize_c {w:World} {H:Nat→Prop} {list:List CellD} {Q0:Option Addr} {Q2 Q1:Nat} (Q3:Rd 2 encC okC H w (.slice Q0 Q2 Q1) list) (p0:list.length≤4294967280) :
 Calls Tryz.prog 58 #[.slice Q0 Q2 Q1] w fun e w'=>e=.returned (.int .i64 (((recT 100000 list).size:Nat):Int))∧Mv [] w [] w':=by
 have V_v_list:=Rd.start Q3 zN
 obtain ⟨Q5,Q4,Q6,Q7⟩:=Rd.inv Q3
 refine ze fun _ F=>?_
 refine zz F (spec_RecordText_c (seq:=100000) (list:=list) zI7 V_v_list zI8) ?_
 rintro _ w3 ⟨rfl,m3,Q8⟩
 refine zt fun _ F=>?_
 have S3:=At.frame0 (At.nil w) m3
 clear m3
 refine x_done F (results_1 rfl (zta F)) ?_
 exact ⟨rfl,(Mv.pick S3 [] rfl)⟩
set_option maxRecDepth 100000
set_option maxHeartbeats 1000000
theorem impl_SerialRun_c {w:World} {H:Nat→Prop} {s:List CellD} {s_a:Option Addr} {s_n s_c:Nat} {steps:List StepD} {Q0:Option Addr} {Q2 Q1:Nat} {P:Int} {cs:List CallD} (v_s:Rd 2 encC okC H w (.slice s_a s_n s_c) s) (Q3:Rd 7 encStep okStep H w (.slice Q0 Q2 Q1) steps) (tab0:Tb 0 H w) (tab1:Tb 1 H w) (tab2:Tb 2 H w) (p0:steps=cs.map (stepD P)) (p1:cellsOk s) (p2:s.length≤1048576) (p3:cs.length≤1048576) (p4:i64ok P) :
 Calls Tryz.prog 118 #[.slice s_a s_n s_c,.slice Q0 Q2 Q1] w fun e w'=>∃ (A:List AnsD),∃ (r0_a:Option Addr),∃ (r0_n:Nat),∃ (r0_c:Nat),∃ (r1_a:Option Addr),∃ (r1_n:Nat),∃ (r1_c:Nat),e=.returned (.tuple #[.slice r0_a r0_n r0_c,.slice r1_a r1_n r1_c])∧Mv [] w [ow 91 2 encC okC (.slice r0_a r0_n r0_c) (runS s P cs),ow 155 3 encR okR (.slice r1_a r1_n r1_c) A] w'∧(runS s P cs).length≤400000000:=by
 have hT:=tbO_of tab0 tab1 tab2
 have hn:=v_s.inv.1
 have hq:=Q3.inv.1
 subst p0
 rw [List.length_map] at hq
 refine (serialRun_k (X:=uni0 s P) (cs:=cs) hT v_s Q3 (uni0_un p1 p2) (by omega) (by omega) (by omega) p4).mono ?_
 rintro e w' ⟨sa,sn,sc,A,rfl,m,hl⟩
 exact ⟨A.l,sa,sn,sc,A.a,A.n,A.c,rfl,m,Nat.le_trans hl (by omega)⟩
theorem impl_TxView_c {w:World} {H:Nat→Prop} {s:List CellD} {s_a:Option Addr} {s_n s_c:Nat} {x:TxD} {Q8:Option Addr} {Q10 Q9:Nat} {Q5:Option Addr} {Q7 Q6:Nat} {x_Ra:Option Addr} {x_Rn x_Rc:Nat} {x_Wa:Option Addr} {x_Wn x_Wc:Nat} {Q11:Option Addr} {Q13 Q12:Nat} (v_s:Rd 2 encC okC H w (.slice s_a s_n s_c) s) (Q19:i64ok x.id) (Q17:i64ok x.age) (Q20:i64ok x.proc) (Q18:i64ok x.began) (Q1:Rd 6 encK okK H w (.slice Q8 Q10 Q9) x.calls) (Q0:Rd 3 encR okR H w (.slice Q5 Q7 Q6) x.answers) (Q3:Rd 1 encS okS H w (.slice x_Ra x_Rn x_Rc) x.touch.reads) (Q4:Rd 1 encS okS H w (.slice x_Wa x_Wn x_Wc) x.touch.writes) (Q2:Rd 1 encI okI H w (.slice Q11 Q13 Q12) x.marks) (Q21:i64ok x.state) (tab0:Tb 0 H w) (tab1:Tb 1 H w) (tab2:Tb 2 H w) (p0:cellsOk s) (p1:s.length≤1048576) (p2:x.calls.length≤1048576) (p3:i64ok x.proc) :
 Calls Tryz.prog 68 #[.slice s_a s_n s_c,.agg #[.int .i64 x.id,.int .i64 x.age,.int .i64 x.proc,.int .i64 x.began,.slice Q8 Q10 Q9,.slice Q5 Q7 Q6,.slice x_Ra x_Rn x_Rc,.slice x_Wa x_Wn x_Wc,.slice Q11 Q13 Q12,.int .i64 x.state]] w fun e w'=>∃ (r0_a:Option Addr),∃ (r0_n:Nat),∃ (r0_c:Nat),e=.returned (.slice r0_a r0_n r0_c)∧Mv [] w [ow 91 2 encC okC (.slice r0_a r0_n r0_c) (runS s x.proc x.calls)] w'∧(runS s x.proc x.calls).length≤400000000:=by
 have V_v_s:=Rd.start v_s zN
 obtain ⟨ln_s,le_s,mx_s,ni_s⟩:=Rd.inv v_s
 have V_v_x_calls:=Rd.start Q1 zN
 obtain ⟨Q28,Q23,Q42,Q47⟩:=Rd.inv Q1
 have V_v_x_answers:=Rd.start Q0 zN
 obtain ⟨Q27,Q22,Q41,Q46⟩:=Rd.inv Q0
 have V_v_x_touch_reads:=Rd.start Q3 zN
 obtain ⟨Q30,Q25,Q44,Q49⟩:=Rd.inv Q3
 have V_v_x_touch_writes:=Rd.start Q4 zN
 obtain ⟨Q31,Q26,Q45,Q50⟩:=Rd.inv Q4
 have V_v_x_marks:=Rd.start Q2 zN
 obtain ⟨Q29,Q24,Q43,Q48⟩:=Rd.inv Q2
 have V_tab0:=Tb.start tab0 zN
 have V_tab1:=Tb.start tab1 zN
 have V_tab2:=Tb.start tab2 zN
 refine ze fun _ F=>?_
 refine l_op (f_box F (At.nil w) rfl rfl rfl (F.g rfl) rfl rfl fun b1 _ w1 F S1=>?_)
 refine zr fun _ F=>?_
 refine zw F S1.at' 0 fun _ F=>?_
 refine zz F (impl_TxSteps_c (tx:=x) zI5 zI5 zI5 zI5 (Rd.mq V_v_x_calls S1) (Rd.mq V_v_x_answers S1) (Rd.mq V_v_x_touch_reads S1) (Rd.mq V_v_x_touch_writes S1) (Rd.mq V_v_x_marks S1) zI5 zI8 zI8) ?_
 rintro _ w6 ⟨Q51,Q53,Q52,rfl,m6⟩
 refine zt fun _ F=>?_
 have S6:Mv _ _ [_,bx _ [_,_,_,_,_,_,_,_,_,_] _] _:=At.frame S1.at' [] rfl m6
 obtain ⟨Q32,Q35,Q38⟩:=At.ownInv S6.at' ET_151.hk 0 rfl
 clear m6
 refine zz F (impl_SerialRun_c (H:=fun _=>True) (P:=x.proc) (cs:=x.calls) (s:=s) (steps:=stepsD x) (Rd.top (Rd.mq V_v_s (S1.trans S6))) (At.rd S6.at' ET_151.hk 0 rfl) (Tb.top (Tb.mv V_tab0 (S1.trans S6))) (Tb.top (Tb.mv V_tab1 (S1.trans S6))) (Tb.top (Tb.mv V_tab2 (S1.trans S6))) (by first|rfl|assumption) (by first|rfl|assumption) (by first|rfl|assumption) (by first|rfl|assumption) (by first|rfl|assumption)) ?_
 rintro _ w8 ⟨A_8,Q14,Q16,Q15,Q54,Q56,Q55,rfl,m8,q8_0⟩
 refine zt fun _ F=>?_
 have S8:Mv _ _ [_,_,_,bx _ [_,_,_,_,_,_,_,_,_,_] _] _:=At.frame S6.at' [] rfl m8
 obtain ⟨Q33,Q36,Q39⟩:=At.ownInv S8.at' ET_28.hk 0 rfl
 obtain ⟨Q34,Q37,Q40⟩:=At.ownInv S8.at' ET_55.hk 1 rfl
 clear m8
 refine x_done F (results_1 rfl (zta F)) ?_
 exact ⟨Q14,Q16,Q15,rfl,(Mv.pick (S1.trans (S6.trans S8)) [0] rfl),zIa⟩
set_option maxRecDepth 100000
set_option maxHeartbeats 1000000
theorem impl_BytesOf_c {w:World} {H:Nat→Prop} {s:List CellD} {s_a:Option Addr} {s_n s_c:Nat} {x:TxD} {Q8:Option Addr} {Q10 Q9:Nat} {Q5:Option Addr} {Q7 Q6:Nat} {x_Ra:Option Addr} {x_Rn x_Rc:Nat} {x_Wa:Option Addr} {x_Wn x_Wc:Nat} {Q11:Option Addr} {Q13 Q12:Nat} (v_s:Rd 2 encC okC H w (.slice s_a s_n s_c) s) (Q16:i64ok x.id) (Q14:i64ok x.age) (Q17:i64ok x.proc) (Q15:i64ok x.began) (Q1:Rd 6 encK okK H w (.slice Q8 Q10 Q9) x.calls) (Q0:Rd 3 encR okR H w (.slice Q5 Q7 Q6) x.answers) (Q3:Rd 1 encS okS H w (.slice x_Ra x_Rn x_Rc) x.touch.reads) (Q4:Rd 1 encS okS H w (.slice x_Wa x_Wn x_Wc) x.touch.writes) (Q2:Rd 1 encI okI H w (.slice Q11 Q13 Q12) x.marks) (Q18:i64ok x.state) (tab0:Tb 0 H w) (tab1:Tb 1 H w) (tab2:Tb 2 H w) (p0:cellsOk s) (p1:s.length≤1048576) (p2:x.calls.length≤1048576) (p3:i64ok x.proc) :
 Calls Tryz.prog 20 #[.slice s_a s_n s_c,.agg #[.int .i64 x.id,.int .i64 x.age,.int .i64 x.proc,.int .i64 x.began,.slice Q8 Q10 Q9,.slice Q5 Q7 Q6,.slice x_Ra x_Rn x_Rc,.slice x_Wa x_Wn x_Wc,.slice Q11 Q13 Q12,.int .i64 x.state]] w fun e w'=>e=.returned (.int .i64 ((bytesD s x:Nat):Int))∧Mv [] w [] w':=by
 have V_v_s:=Rd.start v_s zN
 obtain ⟨ln_s,le_s,mx_s,ni_s⟩:=Rd.inv v_s
 have V_v_x_calls:=Rd.start Q1 zN
 obtain ⟨Q25,Q20,Q36,Q41⟩:=Rd.inv Q1
 have V_v_x_answers:=Rd.start Q0 zN
 obtain ⟨Q24,Q19,Q35,Q40⟩:=Rd.inv Q0
 have V_v_x_touch_reads:=Rd.start Q3 zN
 obtain ⟨Q27,Q22,Q38,Q43⟩:=Rd.inv Q3
 have V_v_x_touch_writes:=Rd.start Q4 zN
 obtain ⟨Q28,Q23,Q39,Q44⟩:=Rd.inv Q4
 have V_v_x_marks:=Rd.start Q2 zN
 obtain ⟨Q26,Q21,Q37,Q42⟩:=Rd.inv Q2
 have V_tab0:=Tb.start tab0 zN
 have V_tab1:=Tb.start tab1 zN
 have V_tab2:=Tb.start tab2 zN
 refine ze fun _ F=>?_
 refine l_op (f_box F (At.nil w) rfl rfl rfl (F.g rfl) rfl rfl fun b1 _ w1 F S1=>?_)
 refine zr fun _ F=>?_
 refine zw F S1.at' 0 fun _ F=>?_
 refine zz F (impl_TxView_c (s:=s) (x:=x) (Rd.mq V_v_s S1) zI5 zI5 zI5 zI5 (Rd.mq V_v_x_calls S1) (Rd.mq V_v_x_answers S1) (Rd.mq V_v_x_touch_reads S1) (Rd.mq V_v_x_touch_writes S1) (Rd.mq V_v_x_marks S1) zI5 (Tb.mv V_tab0 S1) (Tb.mv V_tab1 S1) (Tb.mv V_tab2 S1) zI8 zI8 zI8 zI8) ?_
 rintro _ w7 ⟨Q45,Q49,Q47,rfl,m7,q7_0⟩
 refine zt fun _ F=>?_
 have S7:Mv _ _ [_,bx _ [_,_,_,_,_,_,_,_,_,_] _] _:=At.frame S1.at' [] rfl m7
 obtain ⟨Q29,Q31,Q33⟩:=At.ownInv S7.at' ET_28.hk 0 rfl
 clear m7
 refine zz F (impl_Changes_c (H:=fun _=>True) (a:=s) (b:=runS s x.proc x.calls) (Rd.top (Rd.mq V_v_s (S1.trans S7))) (At.rd S7.at' ET_28.hk 0 rfl) (Tb.top (Tb.mv V_tab0 (S1.trans S7))) (Tb.top (Tb.mv V_tab1 (S1.trans S7))) (Tb.top (Tb.mv V_tab2 (S1.trans S7))) zI8 zI8) ?_
 rintro _ w9 ⟨Q46,Q50,Q48,rfl,m9⟩
 refine zt fun _ F=>?_
 have S9:Mv _ _ [_,_,bx _ [_,_,_,_,_,_,_,_,_,_] _] _:=At.frame S7.at' [] rfl m9
 obtain ⟨Q30,Q32,Q34⟩:=At.ownInv S9.at' ET_28.hk 0 rfl
 clear m9
 refine zz F (impl_RecordSize_c (H:=fun _=>True) (list:=changesD s (runS s x.proc x.calls)) (At.rd S9.at' ET_28.hk 0 rfl) (Tb.top (Tb.mv V_tab0 (S1.trans (S7.trans S9)))) (by unfold changesD;rw [List.length_map];have hz:=diffL_len s (runS s x.proc x.calls);omega)) ?_
 rintro _ w11 ⟨rfl,m11⟩
 refine zt fun _ F=>?_
 have S11:=At.frame0 S9.at' m11
 clear m11
 have T14:Mv _ _ [_,_,bx _ [_,_,_,_,_,_,_,_,_,_] _] _:=S11
 refine x_done F (results_1 rfl (zta F)) ?_
 exact ⟨rfl,(Mv.pick (S1.trans (S7.trans (S9.trans T14))) [] rfl)⟩
set_option maxRecDepth 100000
set_option maxHeartbeats 1000000
section
set_option maxHeartbeats 8000000
variable {X:Uni} {w:World} {b u:Nat} {v:MV} {D:List CellD} {H:Nat→Prop}
theorem size_s {id:Int} (hT:TbO w []) (hm:RM X H w v D u) (hu:u+1≤68718428160:=by omega) (h_id:i64ok id:=by exact zI6) :
 Calls Tryz.prog 344 #[v.val,.int .i64 id] w (PS X H w (fun v (r:Int) (s:Unit)=>.tuple #[v.val,.int .i64 r]) (numI D (kIs id)) D (u+1) (fun (r:Int) (_:Unit)=>0≤r∧r≤999)):=by
 have M:=Sp.start hT hm
 refine zE (f:=344) fun _ F=>?_
 refine l_op (kBx F M [_,_,_] (k:=fun b1 w M=>zk fun _ F=>?_))
 refine l_op (kAl F M ZI_210 [_,_,_] (k:=fun b2 w M=>zk fun _ F=>?_))
 refine x_rdS [(_,[_,_,_],_)] [] [] [0,1,2,3,4,5,6,7] M (HdK.none (HdS.cons M.at' 1 rfl HdS.nil)) mixed (by kernel_rfl) fun w M hS=>?_
 refine zr2 fun _ F=>?_
 refine n_op rfl rfl (kQ F M (hc:=keyNum_s M.st.nil.tb) (k:=fun s3 w q3 m M=>kB m (zkN fun _ F=>?_)))
 refine n_op rfl rfl (kS F M (hc:=num_s M.tb M.v) (k:=fun v s4 w q4 M=>kF (zkN fun _ F=>?_)))
 refine n_op rfl rfl (kW F M 0 [_,_,_] [_,_] (k:=fun w M=>kF (zkN fun _ F=>?_)))
 refine x_done F (results_2 rfl (zca F M.at' 0) (zta F)) ?_
 exact zfS M _ () (⟨by omega,by omega⟩) (rfl)
theorem send_si {id:Int} {n:Int} (hT:TbO w []) (hm:RM X H w v D u) (hu:u+0≤68718428160:=by omega) (h_id:i64ok id:=by exact zI6) (h_n:i64ok n:=by exact zI6) (p0:sgK X id:=by assumption) :
 Calls Tryz.prog 224 #[v.val,.int .i64 id,.int .i64 n] w (PS X H w (fun v (r:Unit) (s:Int)=>.tuple #[v.val,.int .i64 s]) () (sgS D id n) u (fun (_:Unit) (s:Int)=>i64ok s)):=by
 have M:=Sp.start hT hm
 refine zE (f:=224) fun _ F=>?_
 refine l_op (kBx F M [_,_,_] (k:=fun b1 w M=>zk fun _ F=>?_))
 refine l_op (kAl F M ZI_210 [_,_,_] (k:=fun b2 w M=>zk fun _ F=>?_))
 refine l_op (kS F M (hc:=state_si M.tb M.v (p0:=p0)) (k:=fun v s3 w q3 M=>zk fun _ F=>?_))
 refine l_op (kW F M 1 [_,_,_] [_,_] (k:=fun w M=>zk fun _ F=>?_))
 refine zi F (fun h4=>?_) fun h4=>?_
 ·refine zr2 fun _ F=>?_
  refine l_op (kW F M 1 [_,_,_] [_,_] (k:=fun w M=>zk fun _ F=>?_))
  refine x_done F (results_2 rfl (zca F M.at' 0) (zta F)) ?_
  exact zfS M () _ zI1 (by rw [sgS,if_pos h4])
 ·refine zr2 fun _ F=>?_
  refine l_op (kQ F M (hc:=within_s M.st.nil.tb) (k:=fun s5 w q5 m M=>zk fun _ F=>?_))
  refine zib F (fun h6=>?_) fun h6=>?_
  ·refine zr2 fun _ F=>?_
   refine l_op (kW F M 1 [_,_,_] [_,_] (k:=fun w M=>zk fun _ F=>?_))
   refine x_done F (results_2 rfl (zca F M.at' 0) (zta F)) ?_
   exact zfS M () _ zI1 (by rw [sgS,if_neg h4,if_pos h6])
  ·have hi6:=inB_bd (nf h6);refine zr2 fun _ F=>?_
   refine x_rdS [(_,[_,_,_],_)] [] [] [0,1,2,3,4,5,6,7,8] M (HdK.none (HdS.cons M.at' 0 rfl HdS.nil)) mixed (by kernel_rfl) fun w M hS=>?_
   refine zr2 fun _ F=>?_
   refine n_op rfl rfl (kQ F M (hc:=l10Key_s M.st.nil.tb) (k:=fun s7 w q7 m M=>kB m (zkN fun _ F=>?_)))
   refine n_op rfl rfl (kS F M (hc:=num_si M.tb M.v (p0:=.inl p0.2.1)) (k:=fun v s8 w q8 M=>kF (zkN fun _ F=>?_)))
   refine n_op rfl rfl (kW F M 0 [_,_,_] [_,_] (k:=fun w M=>kF (zkN fun _ F=>?_)))
   refine x_rdS [(_,[_,_,_],_)] [] [] [0,1,2,3,4,5,6,7,8] M (HdK.none (HdS.cons M.at' 0 rfl HdS.nil)) mixed (by kernel_rfl) fun w M hS=>?_
   refine zr2 fun _ F=>?_
   refine n_op rfl rfl (kQ F M (hc:=l10Key_s M.st.nil.tb) (k:=fun s9 w q9 m M=>kB m (zkN fun _ F=>?_)))
   refine n_op rfl rfl (kS F M (hc:=num_si M.tb M.v (p0:=.inl p0.2.2.1)) (k:=fun v s10 w q10 M=>kF (zkN fun _ F=>?_)))
   refine n_op rfl rfl (kW F M 0 [_,_,_] [_,_] (k:=fun w M=>kF (zkN fun _ F=>?_)))
   refine zi F (fun h11=>?_) fun h11=>?_
   ·refine zr2 fun _ F=>?_
    refine l_op (kW F M 1 [_,_,_] [_,_] (k:=fun w M=>zk fun _ F=>?_))
    refine x_done F (results_2 rfl (zca F M.at' 0) (zta F)) ?_
    exact zfS M () _ zI1 (by rw [sgS,if_neg h4,iFb h6,if_pos h11])
   ·refine zr2 fun _ F=>?_
    refine zi F (fun h12=>?_) fun h12=>?_
    ·refine zr2 fun _ F=>?_
     refine l_op (kW F M 1 [_,_,_] [_,_] (k:=fun w M=>zk fun _ F=>?_))
     refine x_done F (results_2 rfl (zca F M.at' 0) (zta F)) ?_
     exact zfS M () _ zI1 (by rw [sgS,if_neg h4,iFb h6,if_neg h11,if_pos h12])
    ·refine zr2 fun _ F=>?_
     refine x_rdS [(_,[_,_,_],_)] [] [] [0,1,3,4,2,5,6] M (HdK.none (HdS.cons M.at' 0 rfl HdS.nil)) mixed (by kernel_rfl) fun w M hS=>?_
     refine zr2 fun _ F=>?_
     refine n_op rfl rfl (kQ F M (hc:=l10Key_s M.st.nil.tb) (k:=fun s13 w q13 m M=>kB m (zkN fun _ F=>?_)))
     refine n_op rfl rfl (kS F M (hc:=setNum_si M.tb M.v (p0:=.inl p0.2.1)) (k:=fun v s14 w q14 M=>kF (zkN fun _ F=>?_)))
     refine n_op rfl rfl (kW F M 0 [_,_,_] [_,_] (k:=fun w M=>kF (zkN fun _ F=>?_)))
     refine x_rdS [(_,[_,_,_],_)] [] [] [0,1,2,3,5,4,6,7,8] M (HdK.none (HdS.cons M.at' 0 rfl HdS.nil)) mixed (by kernel_rfl) fun w M hS=>?_
     refine zr2 fun _ F=>?_
     refine n_op rfl rfl (kQ F M (hc:=l10Signal_s M.st.nil.tb) (k:=fun s15 w q15 m M=>kB m (zkN fun _ F=>?_)))
     refine n_op rfl rfl (kS F M (hc:=setNum_si M.tb M.v (p0:=.inl (p0.2.2.2 _ (by omega) (by omega)))) (k:=fun v s16 w q16 M=>kF (zkN fun _ F=>?_)))
     refine n_op rfl rfl (kW F M 1 [_,_,_] [_,_] (k:=fun w M=>kF (zkN fun _ F=>?_)))
     refine x_done F (results_2 rfl (zca F M.at' 0) (zta F)) ?_
     exact zfS M () _ zI1 (by rw [sgS,if_neg h4,iFb h6,if_neg h11,if_neg h12])
theorem block_s {id:Int} {p:Int} (hT:TbO w []) (hm:RM X H w v D u) (hu:u+1≤68718428160:=by omega) (h_id:i64ok id:=by exact zI6) (h_p:i64ok p:=by exact zI6) :
 Calls Tryz.prog 345 #[v.val,.int .i64 id,.int .i64 p] w (PS X H w (fun v (r:ByteArray) (s:Unit)=>.tuple #[v.val,.string r]) (blkT D id p) D (u+1) (fun (r:ByteArray) (_:Unit)=>okS r)):=by
 have M:=Sp.start hT hm
 refine zE (f:=345) fun _ F=>?_
 refine l_op (kBx F M [_,_,_] (k:=fun b1 w M=>zk fun _ F=>?_))
 refine l_op (kAl F M ZI_210 [_,_,_] (k:=fun b2 w M=>zk fun _ F=>?_))
 refine x_rdS [(_,[_,_,_],_)] [] [] [0,1,2,3,4,5,6,7,8,9] M (HdK.none (HdS.cons M.at' 1 rfl HdS.nil)) mixed (by kernel_rfl) fun w M hS=>?_
 refine zr2 fun _ F=>?_
 refine n_op rfl rfl (kQ F M (hc:=l07Block_s M.st.nil.tb) (k:=fun s3 w q3 m M=>kB m (zkN fun _ F=>?_)))
 refine n_op rfl rfl (kS F M (hc:=look_s M.tb M.v) (k:=fun v s4 w q4 M=>kF (zkN fun _ F=>?_)))
 refine n_op rfl rfl (kW F M 1 [_,_,_] [_,_] (k:=fun w M=>kF (zkN fun _ F=>?_)))
 refine l_op (kQ F M (hc:=unhex_s M.st.nil.tb) (k:=fun s5 w q5 m M=>zk fun _ F=>?_))
 refine zib F (fun h6=>?_) fun h6=>?_
 ·refine zr2 fun _ F=>?_
  refine l_op (kW F M 1 [_,_,_] [_,_] (k:=fun w M=>zk fun _ F=>?_))
  refine x_done F (results_2 rfl (zca F M.at' 0) (zta F)) ?_
  exact zfS M _ () ((by first|assumption|exact zU)) (by rw [blkT,unhexT_n h6])
 ·refine zr2 fun _ F=>?_
  refine l_op (kW F M 1 [_,_,_] [_,_] (k:=fun w M=>zk fun _ F=>?_))
  refine x_done F (results_2 rfl (zca F M.at' 0) (zta F)) ?_
  exact zfS M _ () ((by first|assumption|exact zU)) (by rw [blkT])
theorem lay07_s {id:Int} {p:Int} {x:ByteArray} (hT:TbO w []) (hm:RM X H w v D u) (hu:u+1≤68718428160:=by omega) (h_id:i64ok id:=by exact zI6) (h_p:i64ok p:=by exact zI6) (h_x:okS x:=by exact zI4) (p0:x.size≤20000:=by omega) :
 Calls Tryz.prog 346 #[v.val,.int .i64 id,.int .i64 p,.string x] w (PS X H w (fun v (r:Unit) (s:Unit)=>v.val) () (putKey D (kIb id p) (hexS x)) (u+1) noq):=by
 have M:=Sp.start hT hm
 refine zE (f:=346) fun _ F=>?_
 refine l_op (kBx F M [_,_,_] (k:=fun b1 w M=>zk fun _ F=>?_))
 refine l_op (kAl F M ZI_210 [_,_,_] (k:=fun b2 w M=>zk fun _ F=>?_))
 refine l_op (kQ F M (hc:=hex_s M.st.nil.tb) (k:=fun s3 w q3 m M=>zk fun _ F=>?_))
 refine x_rdS [(_,[_,_,_],_)] [] [] [0,1,2,4,3,5,6] M (HdK.none (HdS.cons M.at' 1 rfl HdS.nil)) mixed (by kernel_rfl) fun w M hS=>?_
 refine zr2 fun _ F=>?_
 refine n_op rfl rfl (kQ F M (hc:=l07Block_s M.st.nil.tb) (k:=fun s4 w q4 m M=>kB m (zkN fun _ F=>?_)))
 refine n_op rfl rfl (kS F M (hc:=lay_s nmp M.tb M.v) (k:=fun v s5 w q5 M=>kF (zkN fun _ F=>?_)))
 refine n_op rfl rfl (kW F M 0 [_,_,_] [_,_] (k:=fun w M=>kF (zkN fun _ F=>?_)))
 refine x_done F (results_1 rfl (zca F M.at' 0)) ?_
 exact zfS M () () (trivial) (rfl)
end
end Go.Proofs.YtipdbeklopjbmaaGreatDoor
