/-
  Texts laid together: GenBy, Eng13, DatRd, Eng15, Eng16, DatRe.
-/
import Derived.Test.YtipdbeklopjbmaaGreatDoorP10
import Derived.Test.YtipdbeklopjbmaaGreatDoorP18
import Derived.Test.YtipdbeklopjbmaaGreatDoorP08
import Derived.Test.YtipdbeklopjbmaaGreatDoorP06
import Derived.Test.YtipdbeklopjbmaaGreatDoorP09
import Derived.RangeFuncIn
import Derived.RangeFuncRecord
import Derived.RangeFuncSeq
import Derived.RangeFuncCalls
import Derived.Test.YtipdbeklopjbmaaGreatDoorP02
import Derived.Shelf.Strings.BuilderF
import Derived.Test.YtipdbeklopjbmaaGreatDoorP03
set_option linter.unusedVariables false
set_option linter.unusedSimpArgs false
namespace Go.Proofs.YtipdbeklopjbmaaGreatDoor
open Go.ChangeShapes Go.WideShapes Go.ChangeAt Go.RowKit
set_option maxRecDepth 100000
set_option maxHeartbeats 1000000
theorem impl_TxSteps_c {w:World} {H:Nat→Prop} {tx:TxD} {Q1:Option Addr} {Q0 Q2:Nat} {Q9:Option Addr} {Q11 Q10:Nat} {Q3:Option Addr} {Q5 Q4:Nat} {Q6:Option Addr} {Q8 Q7:Nat} {Q12:Option Addr} {Q14 Q13:Nat} (Q22:i64ok tx.id) (Q20:i64ok tx.age) (Q23:i64ok tx.proc) (Q21:i64ok tx.began) (Q16:Rd 6 encK okK H w (.slice Q1 Q0 Q2) tx.calls) (Q15:Rd 3 encR okR H w (.slice Q9 Q11 Q10) tx.answers) (Q18:Rd 1 encS okS H w (.slice Q3 Q5 Q4) tx.touch.reads) (Q19:Rd 1 encS okS H w (.slice Q6 Q8 Q7) tx.touch.writes) (Q17:Rd 1 encI okI H w (.slice Q12 Q14 Q13) tx.marks) (Q24:i64ok tx.state) (p0:tx.calls.length≤1048576) (p1:i64ok tx.proc) :
 Calls Tryz.prog 119 #[.agg #[.int .i64 tx.id,.int .i64 tx.age,.int .i64 tx.proc,.int .i64 tx.began,.slice Q1 Q0 Q2,.slice Q9 Q11 Q10,.slice Q3 Q5 Q4,.slice Q6 Q8 Q7,.slice Q12 Q14 Q13,.int .i64 tx.state]] w fun e w'=>∃ (r0_a:Option Addr),∃ (r0_n:Nat),∃ (r0_c:Nat),e=.returned (.slice r0_a r0_n r0_c)∧Mv [] w [ow 191 7 encStep okStep (.slice r0_a r0_n r0_c) (stepsD tx)] w':=by
 have V_v_tx_calls:=Rd.start Q16 zN
 obtain ⟨Q31,Q26,Q36,Q41⟩:=Rd.inv Q16
 have V_v_tx_answers:=Rd.start Q15 zN
 obtain ⟨Q30,Q25,Q35,Q40⟩:=Rd.inv Q15
 have V_v_tx_touch_reads:=Rd.start Q18 zN
 obtain ⟨Q33,Q28,Q38,Q43⟩:=Rd.inv Q18
 have V_v_tx_touch_writes:=Rd.start Q19 zN
 obtain ⟨Q34,Q29,Q39,Q44⟩:=Rd.inv Q19
 have V_v_tx_marks:=Rd.start Q17 zN
 obtain ⟨Q32,Q27,Q37,Q42⟩:=Rd.inv Q17
 refine ze fun _ F=>?_
 refine l_op (f_box F (At.nil w) rfl rfl rfl (F.g rfl) rfl rfl fun b1 _ w1 F S1=>?_)
 refine zr fun _ F=>?_
 refine zl F S1.at' 0 fun _ F=>?_
 have S10:Mv [bx b1 [.int .i64 tx.id,.int .i64 tx.age,.int .i64 tx.proc,.int .i64 tx.began,.slice Q1 Q0 Q2,.slice Q9 Q11 Q10,.slice Q3 Q5 Q4,.slice Q6 Q8 Q7,.slice Q12 Q14 Q13,.int .i64 tx.state] 58] w1 [ow 191 7 encStep okStep (.slice none 0 0) ([]:List StepD),bx b1 [.int .i64 tx.id,.int .i64 tx.age,.int .i64 tx.proc,.int .i64 tx.began,.slice Q1 Q0 Q2,.slice Q9 Q11 Q10,.slice Q3 Q5 Q4,.slice Q6 Q8 Q7,.slice Q12 Q14 Q13,.int .i64 tx.state] 58] w1:=mv_nil S1.at'
 refine x_lp (fun (k:Nat) aZ wZ=>∃ (D:List StepD),∃ (oa:Option Addr),∃ (on:Nat),∃ (oc:Nat),Fr 22 [(9,.int .i64 ((k:Nat):Int)),(8,.int .i64 ((Q0:Nat):Int)),(7,.slice Q1 Q0 Q2),(3,.slice oa on oc),(1,.pointer (some ⟨b1,0,none⟩))] aZ∧Mv [ow 191 7 encStep okStep (.slice none 0 0) ([]:List StepD),bx b1 [.int .i64 tx.id,.int .i64 tx.age,.int .i64 tx.proc,.int .i64 tx.began,.slice Q1 Q0 Q2,.slice Q9 Q11 Q10,.slice Q3 Q5 Q4,.slice Q6 Q8 Q7,.slice Q12 Q14 Q13,.int .i64 tx.state] 58] w1 [ow 191 7 encStep okStep (.slice oa on oc) D,bx b1 [.int .i64 tx.id,.int .i64 tx.age,.int .i64 tx.proc,.int .i64 tx.began,.slice Q1 Q0 Q2,.slice Q9 Q11 Q10,.slice Q3 Q5 Q4,.slice Q6 Q8 Q7,.slice Q12 Q14 Q13,.int .i64 tx.state] 58] wZ∧(k≤tx.calls.length)∧(D=(tx.calls.take k).map (stepD tx.proc))) (fun (k:Nat)=>tx.calls.length - k) (0) ?_ ?_
 ·exact ⟨([]:List StepD),none,0,0,F.cut rfl,(Mv.refl S10.at'),by omega,by rw [List.take_zero];rfl⟩
 ·rintro k a9 w9 ⟨D,oa,on,oc,F,S9,hk_0,hk_1⟩
  have hDl:D.length≤k:=by rw [hk_1,List.length_map,List.length_take];omega
  refine zr fun _ F=>?_
  refine zc F (k < Q0) fun _ F=>?_
  refine zi F (fun h12=>?_) fun h12=>?_
  ·refine zr fun _ F=>?_
   obtain ⟨B13,O13,x1,ad13,hx1,okx1,ln13,cl13⟩:=Rd.at (Rd.mq V_v_tx_calls (S1.trans (S10.trans S9))) k zIa
   clear ln13
   refine zv F (r_indexAddr (i:=k) ET_54 rfl ((F.ev 7 rfl).trans (by rw [ad13])) (F.g rfl) (by omega) zIa) fun _ F=>?_
   refine zv (v:=.agg #[.int .i64 x1.kind,.string x1.name,.string x1.to_,.int .i64 x1.a,.int .i64 x1.b,.string x1.text]) F (r_load (cs:=[.int .i64 x1.kind,.string x1.name,.string x1.to_,.int .i64 x1.a,.int .i64 x1.b,.string x1.text]) TI_153 rfl (F.g rfl) rfl (fun h=>nomatch h) (elem_sub (f:=0) cl13 [.int .i64 x1.kind,.string x1.name,.string x1.to_,.int .i64 x1.a,.int .i64 x1.b,.string x1.text] rfl)) fun _ F=>?_
   refine l_op (f_alloc F S9.at' ZI_153 rfl rfl rfl rfl rfl fun b16 _ w16 F S16=>?_)
   refine l_op (s_store S16.at' 0 TI_153 rfl rfl rfl rfl rfl (F.g rfl) (F.g rfl) rfl rfl rfl rfl rfl fun w18 S18=>?_)
   have T19:Mv _ _ [bx _ [_,_,_,_,_,_] _,_,bx _ [_,_,_,_,_,_,_,_,_,_] _] _:=S18
   refine zr fun _ F=>?_
   refine zl F T19.at' 2 fun _ F=>?_
   refine zw F T19.at' 0 fun _ F=>?_
   refine zv (v:=.agg #[.int .i64 tx.proc,.int .i64 x1.kind,.string x1.name,.string x1.to_,.int .i64 x1.a,.int .i64 x1.b,.string x1.text]) F (r_build BI_191 rfl (lc (pr2 (F.g rfl)) (lc (pr2 (F.g rfl)) rfl)) rfl) fun _ F=>?_
   refine l_op (f_buildSl (ok:=okStep) (vs:=[.agg #[.int .i64 tx.proc,.int .i64 x1.kind,.string x1.name,.string x1.to_,.int .i64 x1.a,.int .i64 x1.b,.string x1.text]]) F T19.at' ([(⟨tx.proc,x1⟩:StepD)]) ET_151 rfl rfl rfl rfl rfl rfl (lc (pr2 (F.g rfl)) rfl) rfl rfl (fun x hx=>(List.mem_singleton.1 hx) ▸ ⟨(show i64ok tx.proc from by first|assumption|exact ⟨by omega,by omega⟩),okx1.1,okx1.2.1,okx1.2.2.1,okx1.2.2.2.1,okx1.2.2.2.2.1,okx1.2.2.2.2.2⟩) fun b25 _ w25 F S25=>?_)
   refine l_op (f_app (news:=[(⟨tx.proc,x1⟩:StepD)]) F S25.at' 2 ET_151 rfl rfl rfl rfl rfl rfl (F.g rfl) (F.g rfl) ((At.rd S25.at' ET_151.hk 0 rfl)).1 zI9 fun A27 N27 C27 _ w27 F S27 l27=>?_)
   have S29:=At.drop S27.at' 1
   refine zr fun _ F=>?_
   refine zq F ((k+1:Nat):Int) fun _ F=>?_
   exact ⟨k+1,zD,D++([(⟨tx.proc,x1⟩:StepD)]),A27,N27,C27,F.cut rfl,((S9.trans (S16.trans (T19.trans (S25.trans (S27.trans S29))))).pick [0,2] rfl),by omega,mapS (f:=stepD tx.proc) hk_1 hx1⟩
  ·refine zr fun _ F=>?_
   refine x_done F (results_1 rfl (zta F)) ?_
   exact ⟨oa,on,oc,rfl,(Mv.cast (Mv.pick (S1.trans (S10.trans S9)) [0] rfl) (lc (zOw (by exact mapE hk_1 (by omega))) rfl))⟩
theorem spec_TxSteps_c {w:World} {H:Nat→Prop} {tx:TxD} {Q1:Option Addr} {Q0 Q2:Nat} {Q9:Option Addr} {Q11 Q10:Nat} {Q3:Option Addr} {Q5 Q4:Nat} {Q6:Option Addr} {Q8 Q7:Nat} {Q12:Option Addr} {Q14 Q13:Nat} (Q22:i64ok tx.id) (Q20:i64ok tx.age) (Q23:i64ok tx.proc) (Q21:i64ok tx.began) (Q16:Rd 6 encK okK H w (.slice Q1 Q0 Q2) tx.calls) (Q15:Rd 3 encR okR H w (.slice Q9 Q11 Q10) tx.answers) (Q18:Rd 1 encS okS H w (.slice Q3 Q5 Q4) tx.touch.reads) (Q19:Rd 1 encS okS H w (.slice Q6 Q8 Q7) tx.touch.writes) (Q17:Rd 1 encI okI H w (.slice Q12 Q14 Q13) tx.marks) (Q24:i64ok tx.state) (p0:tx.calls.length≤1048576) (p1:i64ok tx.proc) :
 Calls Tryz.prog 111 #[.agg #[.int .i64 tx.id,.int .i64 tx.age,.int .i64 tx.proc,.int .i64 tx.began,.slice Q1 Q0 Q2,.slice Q9 Q11 Q10,.slice Q3 Q5 Q4,.slice Q6 Q8 Q7,.slice Q12 Q14 Q13,.int .i64 tx.state]] w fun e w'=>∃ (r0_a:Option Addr),∃ (r0_n:Nat),∃ (r0_c:Nat),e=.returned (.slice r0_a r0_n r0_c)∧Mv [] w [ow 191 7 encStep okStep (.slice r0_a r0_n r0_c) (stepsD tx)] w':=by
 have V_v_tx_calls:=Rd.start Q16 zN
 obtain ⟨Q31,Q26,Q39,Q44⟩:=Rd.inv Q16
 have V_v_tx_answers:=Rd.start Q15 zN
 obtain ⟨Q30,Q25,Q38,Q43⟩:=Rd.inv Q15
 have V_v_tx_touch_reads:=Rd.start Q18 zN
 obtain ⟨Q33,Q28,Q41,Q46⟩:=Rd.inv Q18
 have V_v_tx_touch_writes:=Rd.start Q19 zN
 obtain ⟨Q34,Q29,Q42,Q47⟩:=Rd.inv Q19
 have V_v_tx_marks:=Rd.start Q17 zN
 obtain ⟨Q32,Q27,Q40,Q45⟩:=Rd.inv Q17
 refine ze fun _ F=>?_
 refine l_op (f_box F (At.nil w) rfl rfl rfl (F.g rfl) rfl rfl fun b1 _ w1 F S1=>?_)
 refine zr fun _ F=>?_
 refine l_op (f_buildSl (ok:=okStep) (vs:=[]) F S1.at' (([]:List StepD)) ET_151 rfl rfl rfl rfl rfl rfl rfl rfl rfl (by simp) fun b4 _ w4 F S4=>?_)
 refine zr fun _ F=>?_
 refine x_lp (fun (k:Nat) aZ wZ=>∃ (D:List StepD),∃ (oa:Option Addr),∃ (on:Nat),∃ (oc:Nat),Fr 25 [(4,.int .i64 ((k:Nat):Int)),(3,.slice oa on oc),(1,.pointer (some ⟨b1,0,none⟩))] aZ∧Mv [ow 191 7 encStep okStep (.slice (some ⟨b4,0,none⟩) 0 0) ([]:List StepD),bx b1 [.int .i64 tx.id,.int .i64 tx.age,.int .i64 tx.proc,.int .i64 tx.began,.slice Q1 Q0 Q2,.slice Q9 Q11 Q10,.slice Q3 Q5 Q4,.slice Q6 Q8 Q7,.slice Q12 Q14 Q13,.int .i64 tx.state] 58] w4 [ow 191 7 encStep okStep (.slice oa on oc) D,bx b1 [.int .i64 tx.id,.int .i64 tx.age,.int .i64 tx.proc,.int .i64 tx.began,.slice Q1 Q0 Q2,.slice Q9 Q11 Q10,.slice Q3 Q5 Q4,.slice Q6 Q8 Q7,.slice Q12 Q14 Q13,.int .i64 tx.state] 58] wZ∧(k≤tx.calls.length)∧(D=(tx.calls.take k).map (stepD tx.proc))) (fun (k:Nat)=>tx.calls.length - k) (0) ?_ ?_
 ·exact ⟨([]:List StepD),(some ⟨b4,0,none⟩),0,0,F.cut rfl,(Mv.refl S4.at'),by omega,by rw [List.take_zero];rfl⟩
 ·rintro k a8 w8 ⟨D,oa,on,oc,F,S8,hk_0,hk_1⟩
  have hDl:D.length≤k:=by rw [hk_1,List.length_map,List.length_take];omega
  refine zr fun _ F=>?_
  refine zl F S8.at' 1 fun _ F=>?_
  refine zc F (k < Q0) fun _ F=>?_
  refine zi F (fun h14=>?_) fun h14=>?_
  ·refine zr fun _ F=>?_
   obtain ⟨x1,hx1,okx1⟩:=Rd.elem (Rd.mq V_v_tx_calls (S1.trans (S4.trans S8))) k zIa
   refine x_draw (fun aZ wZ=>∃ (b27:Nat),∃ (A29:Option Addr),∃ (N29:Nat),∃ (C29:Nat),Fr 25 [(1,.pointer (some ⟨b1,0,none⟩)),(3,.slice A29 N29 C29),(4,.int .i64 ((k:Nat):Int))] aZ∧Mv [ow 191 7 encStep okStep (.slice oa on oc) D,bx b1 [.int .i64 tx.id,.int .i64 tx.age,.int .i64 tx.proc,.int .i64 tx.began,.slice Q1 Q0 Q2,.slice Q9 Q11 Q10,.slice Q3 Q5 Q4,.slice Q6 Q8 Q7,.slice Q12 Q14 Q13,.int .i64 tx.state] 58] w8 [bx b1 [.int .i64 tx.id,.int .i64 tx.age,.int .i64 tx.proc,.int .i64 tx.began,.slice Q1 Q0 Q2,.slice Q9 Q11 Q10,.slice Q3 Q5 Q4,.slice Q6 Q8 Q7,.slice Q12 Q14 Q13,.int .i64 tx.state] 58,ow 191 7 encStep okStep (.slice A29 N29 C29) (D++([(⟨tx.proc,x1⟩:StepD)]))] wZ) [bx b1 [.int .i64 tx.id,.int .i64 tx.age,.int .i64 tx.proc,.int .i64 tx.began,.slice Q1 Q0 Q2,.slice Q9 Q11 Q10,.slice Q3 Q5 Q4,.slice Q6 Q8 Q7,.slice Q12 Q14 Q13,.int .i64 tx.state] 58] mixed S8.at' (listed:=#[false,false,false,false,false,false,false,false,false,false,false,false]) rfl (fun w16 S16=>?_) [1] rfl ?_
   ·refine g_take F rfl (i:=0) (listed':=#[true,false,false,false,false,false,false,false,false,false,false,false]) rfl (by kernel_rfl) (by kernel_rfl) (by kernel_rfl) (fun _ _ _ h=>h) (Sd.of (Mv.refl S16.at') [1] rfl) rfl rfl rfl rfl (fun _ hz=>(r_move rfl (F.g rfl))) fun _ F=>?_
    refine g_take F rfl (i:=1) (listed':=#[true,true,false,false,false,false,false,false,false,false,false,false]) rfl (by kernel_rfl) (by kernel_rfl) (by kernel_rfl) (fun _ _ _ h=>h) (Sd.of (Mv.refl S16.at') [1] rfl) rfl rfl rfl rfl (fun _ hz=>(r_field FI_58_2 rfl (F.g rfl) rfl)) fun _ F=>?_
    refine g_take (v:=.int .i64 tx.proc) F rfl (i:=2) (listed':=#[true,true,true,false,false,false,false,false,false,false,false,false]) rfl (by kernel_rfl) (by kernel_rfl) (by kernel_rfl) (fun _ _ _ h=>h) (Sd.of (Mv.refl S16.at') [1] rfl) rfl rfl rfl rfl (fun _ hz=>(r_loadX (hz.bx 0 rfl) TI_3 rfl (F.g rfl) rfl rfl (fun _=>rfl) rfl)) fun _ F=>?_
    refine g_take F rfl (i:=3) (listed':=#[true,true,true,true,false,false,false,false,false,false,false,false]) rfl (by kernel_rfl) (by kernel_rfl) (by kernel_rfl) (fun _ _ _ h=>h) (Sd.of (Mv.refl S16.at') [1] rfl) rfl rfl rfl rfl (fun _ hz=>(r_field FI_58_4 rfl (F.g rfl) rfl)) fun _ F=>?_
    refine g_take (v:=.slice Q1 Q0 Q2) F rfl (i:=4) (listed':=#[true,true,true,true,true,false,false,false,false,false,false,false]) rfl (by kernel_rfl) (by kernel_rfl) (by kernel_rfl) (fun _ _ _ h=>h) (Sd.of (Mv.refl S16.at') [1] rfl) rfl rfl rfl rfl (fun _ hz=>(r_loadX (hz.bx 0 rfl) TI_54 rfl (F.g rfl) rfl rfl (fun _=>rfl) rfl)) fun _ F=>?_
    refine g_take F rfl (i:=5) (listed':=#[true,true,true,true,true,true,false,false,false,false,false,false]) rfl (by kernel_rfl) (by kernel_rfl) (by kernel_rfl) (fun _ _ _ h=>h) (Sd.of (Mv.refl S16.at') [1] rfl) rfl rfl rfl rfl (fun _ hz=>(r_move rfl (F.g rfl))) fun _ F=>?_
    obtain ⟨B23,O23,y23,ad23,hy23,oky23,ln23,cl23⟩:=Rd.atK (Nat.succ_pos _) (Rd.mq V_v_tx_calls (S1.trans (S4.trans (S8.trans S16)))) k zIa
    clear ln23
    obtain rfl:=Option.some.inj (hx1.symm.trans hy23)
    clear hy23 oky23
    refine g_take F rfl (i:=6) (listed':=#[true,true,true,true,true,true,true,false,false,false,false,false]) rfl (by kernel_rfl) (by kernel_rfl) (by kernel_rfl) (fun _ _ _ h=>h) (Sd.of (Mv.refl S16.at') [1] rfl) rfl rfl rfl rfl (fun _ hz=>(r_indexAddr (i:=k) ET_54 rfl ((F.ev 17 rfl).trans (by rw [ad23])) (F.g rfl) (by omega) zIa)) fun _ F=>?_
    refine g_take (v:=.agg #[.int .i64 x1.kind,.string x1.name,.string x1.to_,.int .i64 x1.a,.int .i64 x1.b,.string x1.text]) F rfl (i:=7) (listed':=#[true,true,true,true,true,true,true,true,false,false,false,false]) rfl (by kernel_rfl) (by kernel_rfl) (by kernel_rfl) (fun _ _ _ h=>h) (Sd.of (Mv.refl S16.at') [1] rfl) rfl rfl rfl rfl (fun _ hz=>(r_load (cs:=[.int .i64 x1.kind,.string x1.name,.string x1.to_,.int .i64 x1.a,.int .i64 x1.b,.string x1.text]) TI_153 rfl (F.g rfl) rfl (fun h=>nomatch h) (elem_sub (f:=0) (cl23 _ hz.kp) [.int .i64 x1.kind,.string x1.name,.string x1.to_,.int .i64 x1.a,.int .i64 x1.b,.string x1.text] rfl))) fun _ F=>?_
    refine g_take (v:=.agg #[.int .i64 tx.proc,.int .i64 x1.kind,.string x1.name,.string x1.to_,.int .i64 x1.a,.int .i64 x1.b,.string x1.text]) F rfl (i:=8) (listed':=#[true,true,true,true,true,true,true,true,true,false,false,false]) rfl (by kernel_rfl) (by kernel_rfl) (by kernel_rfl) (fun _ _ _ h=>h) (Sd.of (Mv.refl S16.at') [1] rfl) rfl rfl rfl rfl (fun _ hz=>(r_build BI_191 rfl (lc (pr2 (F.g rfl)) (lc (pr2 (F.g rfl)) rfl)) rfl)) fun _ F=>?_
    refine d_one (i:=9) (listed':=#[true,true,true,true,true,true,true,true,true,true,false,false]) rfl (by kernel_rfl) rfl rfl ?_
    refine f_buildSl (ok:=okStep) (vs:=[.agg #[.int .i64 tx.proc,.int .i64 x1.kind,.string x1.name,.string x1.to_,.int .i64 x1.a,.int .i64 x1.b,.string x1.text]]) F S16.at' ([(⟨tx.proc,x1⟩:StepD)]) ET_151 rfl rfl rfl rfl rfl rfl (lc (pr2 (F.g rfl)) rfl) rfl rfl (fun x hx=>(List.mem_singleton.1 hx) ▸ ⟨(show i64ok tx.proc from by first|assumption|exact ⟨by omega,by omega⟩),okx1.1,okx1.2.1,okx1.2.2.1,okx1.2.2.2.1,okx1.2.2.2.2.1,okx1.2.2.2.2.2⟩) fun b27 _ w27 F S27=>?_
    refine ⟨Sd.of S27 [2] rfl,?_⟩
    refine d_one (i:=10) (listed':=#[true,true,true,true,true,true,true,true,true,true,true,false]) rfl (by kernel_rfl) rfl rfl ?_
    refine f_app (news:=[(⟨tx.proc,x1⟩:StepD)]) F S27.at' 1 ET_151 rfl rfl rfl rfl rfl rfl (F.g rfl) (F.g rfl) ((At.rd S27.at' ET_151.hk 0 rfl)).1 zI9 fun A29 N29 C29 _ w29 F S29 l29=>?_
    have S31:=At.drop S29.at' 1
    refine ⟨Sd.of (S27.trans (S29.trans S31)) [1] rfl,?_⟩
    refine g_take F rfl (i:=11) (listed':=#[true,true,true,true,true,true,true,true,true,true,true,true]) rfl (by kernel_rfl) (by kernel_rfl) (by kernel_rfl) (fun _ _ _ h=>h) (Sd.of (S27.trans (S29.trans S31)) [1] rfl) rfl rfl rfl rfl (fun _ hz=>(r_assign rfl (F.g rfl))) fun _ F=>?_
    refine wpAnyH_done (by kernel_rfl) (x_normal ?_) _
    exact ⟨b27,A29,N29,C29,F.cut rfl,((S16.trans (S27.trans (S29.trans S31))).pick [1,0] rfl)⟩
   ·rintro a33 w33 ⟨b27,A29,N29,C29,F,S33⟩
    obtain ⟨Q35,Q36,Q37⟩:=At.ownInv S33.at' ET_151.hk 1 rfl
    refine zr fun _ F=>?_
    refine zq F ((k+1:Nat):Int) fun _ F=>?_
    exact ⟨k+1,zD,D++([(⟨tx.proc,x1⟩:StepD)]),A29,N29,C29,F.cut rfl,((S8.trans S33).pick [1,0] rfl),by omega,mapS (f:=stepD tx.proc) hk_1 hx1⟩
  ·refine zr fun _ F=>?_
   refine x_done F (results_1 rfl (zta F)) ?_
   exact ⟨oa,on,oc,rfl,(Mv.cast (Mv.pick (S1.trans (S4.trans S8)) [0] rfl) (lc (zOw (by exact mapE hk_1 (by omega))) rfl))⟩
theorem spec_Changes_c {w:World} {H:Nat→Prop} {a:List CellD} {a_a:Option Addr} {a_n a_c:Nat} {b:List CellD} {b_a:Option Addr} {b_n b_c:Nat} (v_a:Rd 2 encC okC H w (.slice a_a a_n a_c) a) (v_b:Rd 2 encC okC H w (.slice b_a b_n b_c) b) (p0:a_n≤137438953472) (p1:b_n≤137438953472) :
 Calls Tryz.prog 59 #[.slice a_a a_n a_c,.slice b_a b_n b_c] w fun e w'=>∃ (r0_a:Option Addr),∃ (r0_n:Nat),∃ (r0_c:Nat),e=.returned (.slice r0_a r0_n r0_c)∧Mv [] w [ow 91 2 encC okC (.slice r0_a r0_n r0_c) (changesD a b)] w':=by
 have hdl:=diffL_len a b
 have V_v_a:=Rd.start v_a zN
 obtain ⟨ln_a,le_a,mx_a,ni_a⟩:=Rd.inv v_a
 have V_v_b:=Rd.start v_b zN
 obtain ⟨ln_b,le_b,mx_b,ni_b⟩:=Rd.inv v_b
 refine ze fun _ F=>?_
 refine l_op (f_buildSl (ok:=okC) (vs:=[]) F (At.nil w) (([]:List CellD)) ET_28 rfl rfl rfl rfl rfl rfl rfl rfl rfl (by simp) fun b2 _ w2 F S2=>?_)
 refine zr fun _ F=>?_
 refine zz F (spec_DiffKeys_c (a:=a) (b:=b) (Rd.mq V_v_a S2) (Rd.mq V_v_b S2) zI8 zI8) ?_
 rintro _ w7 ⟨Q1,Q0,Q2,rfl,m7,v7_0⟩
 refine zt fun _ F=>?_
 have S7:=At.frame0 S2.at' m7
 have V7_0:=Rd.got0 S2.at' (S2.kp.size) v7_0 S7
 obtain ⟨ln7_0,le7_0,mx7_0,ni7_0⟩:=Rd.inv V7_0
 clear m7 v7_0
 refine x_lp (fun (k:Nat) aZ wZ=>∃ (D:List CellD),∃ (oa:Option Addr),∃ (on:Nat),∃ (oc:Nat),Fr 33 [(7,.int .i64 ((k:Nat):Int)),(6,.slice Q1 Q0 Q2),(5,.slice oa on oc),(1,.slice b_a b_n b_c)] aZ∧Mv [ow 91 2 encC okC (.slice (some ⟨b2,0,none⟩) 0 0) ([]:List CellD)] w7 [ow 91 2 encC okC (.slice oa on oc) D] wZ∧(k≤(diffL a b).length)∧(D=((diffL a b).take k).map (chgD b))) (fun (k:Nat)=>(diffL a b).length - k) (0) ?_ ?_
 ·exact ⟨([]:List CellD),(some ⟨b2,0,none⟩),0,0,F.cut rfl,(Mv.refl S7.at'),by omega,by rw [List.take_zero];rfl⟩
 ·rintro k a11 w11 ⟨D,oa,on,oc,F,S11,hk_0,hk_1⟩
  have hDl:D.length≤k:=by rw [hk_1,List.length_map,List.length_take];omega
  refine zr fun _ F=>?_
  refine zc F (k < Q0) fun _ F=>?_
  refine zi F (fun h16=>?_) fun h16=>?_
  ·refine zr fun _ F=>?_
   obtain ⟨x1,hx1,okx1⟩:=Rd.elem (Rd.mq V7_0 S11) k zIa
   refine x_draw (fun aZ wZ=>∃ (b34:Nat),∃ (A36:Option Addr),∃ (N36:Nat),∃ (C36:Nat),Fr 33 [(1,.slice b_a b_n b_c),(5,.slice A36 N36 C36),(6,.slice Q1 Q0 Q2),(7,.int .i64 ((k:Nat):Int))] aZ∧Mv [ow 91 2 encC okC (.slice oa on oc) D] w11 [ow 91 2 encC okC (.slice A36 N36 C36) (D++([(⟨x1,(getKey b x1)⟩:CellD)]))] wZ) [] mixed S11.at' (listed:=#[false,false,false,false,false,false,false,false,false,false,false,false,false,false,false]) rfl (fun w18 S18=>?_) [] rfl ?_
   ·refine g_take F rfl (i:=0) (listed':=#[true,false,false,false,false,false,false,false,false,false,false,false,false,false,false]) rfl (by kernel_rfl) (by kernel_rfl) (by kernel_rfl) (fun _ _ _ h=>h) (Sd.of (Mv.refl S18.at') [] rfl) rfl rfl rfl rfl (fun _ hz=>(r_move rfl (F.g rfl))) fun _ F=>?_
    refine g_take F rfl (i:=1) (listed':=#[true,true,false,false,false,false,false,false,false,false,false,false,false,false,false]) rfl (by kernel_rfl) (by kernel_rfl) (by kernel_rfl) (fun _ _ _ h=>h) (Sd.of (Mv.refl S18.at') [] rfl) rfl rfl rfl rfl (fun _ hz=>(r_move rfl (F.g rfl))) fun _ F=>?_
    refine g_take F rfl (i:=2) (listed':=#[true,true,true,false,false,false,false,false,false,false,false,false,false,false,false]) rfl (by kernel_rfl) (by kernel_rfl) (by kernel_rfl) (fun _ _ _ h=>h) (Sd.of (Mv.refl S18.at') [] rfl) rfl rfl rfl rfl (fun _ hz=>(r_move rfl (F.g rfl))) fun _ F=>?_
    obtain ⟨B22,O22,y22,ad22,hy22,oky22,ln22,cl22⟩:=Rd.atK (Nat.succ_pos _) (Rd.mq V7_0 (S11.trans S18)) k zIa
    clear ln22
    obtain rfl:=Option.some.inj (hx1.symm.trans hy22)
    clear hy22 oky22
    refine g_take F rfl (i:=3) (listed':=#[true,true,true,true,false,false,false,false,false,false,false,false,false,false,false]) rfl (by kernel_rfl) (by kernel_rfl) (by kernel_rfl) (fun _ _ _ h=>h) (Sd.of (Mv.refl S18.at') [] rfl) rfl rfl rfl rfl (fun _ hz=>(r_indexAddr (i:=k) ET_44 rfl ((F.ev 19 rfl).trans (by rw [ad22])) (F.g rfl) (by omega) zIa)) fun _ F=>?_
    refine g_take (v:=.string x1) F rfl (i:=4) (listed':=#[true,true,true,true,true,false,false,false,false,false,false,false,false,false,false]) rfl (by kernel_rfl) (by kernel_rfl) (by kernel_rfl) (fun _ _ _ h=>h) (Sd.of (Mv.refl S18.at') [] rfl) rfl rfl rfl rfl (fun _ hz=>(r_load (cs:=[.string x1]) TI_9 rfl (F.g rfl) rfl (fun _=>rfl) (elem_sub (f:=0) (cl22 _ hz.kp) [.string x1] rfl))) fun _ F=>?_
    refine g_take F rfl (i:=5) (listed':=#[true,true,true,true,true,true,false,false,false,false,false,false,false,false,false]) rfl (by kernel_rfl) (by kernel_rfl) (by kernel_rfl) (fun _ _ _ h=>h) (Sd.of (Mv.refl S18.at') [] rfl) rfl rfl rfl rfl (fun _ hz=>(r_move rfl (F.g rfl))) fun _ F=>?_
    refine g_take F rfl (i:=6) (listed':=#[true,true,true,true,true,true,true,false,false,false,false,false,false,false,false]) rfl (by kernel_rfl) (by kernel_rfl) (by kernel_rfl) (fun _ _ _ h=>h) (Sd.of (Mv.refl S18.at') [] rfl) rfl rfl rfl rfl (fun _ hz=>(r_move rfl (F.g rfl))) fun _ F=>?_
    refine g_take F rfl (i:=7) (listed':=#[true,true,true,true,true,true,true,true,false,false,false,false,false,false,false]) rfl (by kernel_rfl) (by kernel_rfl) (by kernel_rfl) (fun _ _ _ h=>h) (Sd.of (Mv.refl S18.at') [] rfl) rfl rfl rfl rfl (fun _ hz=>(r_move rfl (F.g rfl))) fun _ F=>?_
    obtain ⟨B28,O28,y28,ad28,hy28,oky28,ln28,cl28⟩:=Rd.atK (Nat.succ_pos _) (Rd.mq V7_0 (S11.trans S18)) k zIa
    clear ln28
    obtain rfl:=Option.some.inj (hx1.symm.trans hy28)
    clear hy28 oky28
    refine g_take F rfl (i:=8) (listed':=#[true,true,true,true,true,true,true,true,true,false,false,false,false,false,false]) rfl (by kernel_rfl) (by kernel_rfl) (by kernel_rfl) (fun _ _ _ h=>h) (Sd.of (Mv.refl S18.at') [] rfl) rfl rfl rfl rfl (fun _ hz=>(r_indexAddr (i:=k) ET_44 rfl ((F.ev 24 rfl).trans (by rw [ad28])) (F.g rfl) (by omega) zIa)) fun _ F=>?_
    refine g_take (v:=.string x1) F rfl (i:=9) (listed':=#[true,true,true,true,true,true,true,true,true,true,false,false,false,false,false]) rfl (by kernel_rfl) (by kernel_rfl) (by kernel_rfl) (fun _ _ _ h=>h) (Sd.of (Mv.refl S18.at') [] rfl) rfl rfl rfl rfl (fun _ hz=>(r_load (cs:=[.string x1]) TI_9 rfl (F.g rfl) rfl (fun _=>rfl) (elem_sub (f:=0) (cl28 _ hz.kp) [.string x1] rfl))) fun _ F=>?_
    refine d_one (i:=10) (listed':=#[true,true,true,true,true,true,true,true,true,true,true,false,false,false,false]) rfl (by kernel_rfl) rfl rfl ?_
    refine f_call F CF_109 rfl rfl rfl rfl (lc (F.g rfl) (lc (F.g rfl) rfl)) (spec_GetKey_c (s:=b) (key:=x1) (Rd.mq V_v_b (S2.trans (S7.trans (S11.trans S18)))) okx1) ?_
    rintro _ w31 ⟨rfl,m31,Q3⟩
    refine ⟨_,rfl,fun _ F=>?_⟩
    have S31:=At.frame0 S18.at' m31
    clear m31
    refine ⟨Sd.of S31 [] rfl,?_⟩
    refine g_take (v:=.agg #[.string x1,.string (getKey b x1)]) F rfl (i:=11) (listed':=#[true,true,true,true,true,true,true,true,true,true,true,true,false,false,false]) rfl (by kernel_rfl) (by kernel_rfl) (by kernel_rfl) (fun _ _ _ h=>h) (Sd.of S31 [] rfl) rfl rfl rfl rfl (fun _ hz=>(r_build BI_91 rfl (lc (pr2 (F.g rfl)) (lc (pr2 (F.g rfl)) rfl)) rfl)) fun _ F=>?_
    refine d_one (i:=12) (listed':=#[true,true,true,true,true,true,true,true,true,true,true,true,true,false,false]) rfl (by kernel_rfl) rfl rfl ?_
    refine f_buildSl (ok:=okC) (vs:=[.agg #[.string x1,.string (getKey b x1)]]) F S31.at' ([(⟨x1,(getKey b x1)⟩:CellD)]) ET_28 rfl rfl rfl rfl rfl rfl (lc (pr2 (F.g rfl)) rfl) rfl rfl (fun x hx=>(List.mem_singleton.1 hx) ▸ ⟨okx1,Q3⟩) fun b34 _ w34 F S34=>?_
    refine ⟨Sd.of (S31.trans S34) [] rfl,?_⟩
    refine d_one (i:=13) (listed':=#[true,true,true,true,true,true,true,true,true,true,true,true,true,true,false]) rfl (by kernel_rfl) rfl rfl ?_
    refine f_app (news:=[(⟨x1,(getKey b x1)⟩:CellD)]) F S34.at' 1 ET_28 rfl rfl rfl rfl rfl rfl (F.g rfl) (F.g rfl) ((At.rd S34.at' ET_28.hk 0 rfl)).1 zI9 fun A36 N36 C36 _ w36 F S36 l36=>?_
    have S38:=At.drop S36.at' 1
    refine ⟨Sd.of (S31.trans (S34.trans (S36.trans S38))) [] rfl,?_⟩
    refine g_take F rfl (i:=14) (listed':=#[true,true,true,true,true,true,true,true,true,true,true,true,true,true,true]) rfl (by kernel_rfl) (by kernel_rfl) (by kernel_rfl) (fun _ _ _ h=>h) (Sd.of (S31.trans (S34.trans (S36.trans S38))) [] rfl) rfl rfl rfl rfl (fun _ hz=>(r_assign rfl (F.g rfl))) fun _ F=>?_
    refine wpAnyH_done (by kernel_rfl) (x_normal ?_) _
    exact ⟨b34,A36,N36,C36,F.cut rfl,((S18.trans (S31.trans (S34.trans (S36.trans S38)))).pick [0] rfl)⟩
   ·rintro a40 w40 ⟨b34,A36,N36,C36,F,S40⟩
    obtain ⟨Q4,Q5,Q6⟩:=At.ownInv S40.at' ET_28.hk 0 rfl
    refine zr fun _ F=>?_
    refine zq F ((k+1:Nat):Int) fun _ F=>?_
    exact ⟨k+1,zD,D++([(⟨x1,(getKey b x1)⟩:CellD)]),A36,N36,C36,F.cut rfl,((S11.trans S40).pick [0] rfl),by omega,mapS (f:=chgD b) hk_1 hx1⟩
  ·refine zr fun _ F=>?_
   refine x_done F (results_1 rfl (zta F)) ?_
   exact ⟨oa,on,oc,rfl,(Mv.cast (Mv.pick (S2.trans (S7.trans S11)) [0] rfl) (lc (zOw (by exact mapE hk_1 (by omega))) rfl))⟩
end Go.Proofs.YtipdbeklopjbmaaGreatDoor
namespace Go.Proofs.YtipdbeklopjbmaaGreatDoor
open Go.ChangeShapes Go.WideShapes Go.ChangeAt Go.RowKit Go.Shelf Go.Lib
section
end
end Go.Proofs.YtipdbeklopjbmaaGreatDoor
namespace Go.Proofs.YtipdbeklopjbmaaGreatDoor
open Go.ChangeShapes Go.WideShapes Go.ChangeAt Go.RowKit
set_option maxRecDepth 100000
set_option maxHeartbeats 1000000
section
variable {w w':World} {E L L' X:List Atom}
theorem mv_in (A:At w (E++(L++X))) (m:Mv L w L' w'):Mv (E++(L++X)) w (E++(L'++X)) w':=by
 have a1:=List.pairwise_append.1 A.apart
 have a2:=List.pairwise_append.1 a1.2.1
 have hm:∀ B,B ∈ E∨B ∈ X→B ∈ E++(L++X):=fun B hB=>hB.elim (List.mem_append_left _) fun h=>List.mem_append_right _ (List.mem_append_right _ h)
 have hn:∀ B,B ∈ E∨B ∈ X→∀ b,B.fp b→b < w.heap.size∧¬ fps L b:=fun B hB b hb=>⟨A.lt b ⟨B,hm B hB,hb⟩,fun ⟨C,hC,hc⟩=>hB.elim (fun h=>a1.2.2 B h C (List.mem_append_left _ hC) b hb hc) fun h=>a2.2.2 C hC B h b hc hb⟩
 have hok:∀ B,B ∈ E∨B ∈ X→B.ok w':=fun B hB=>B.st w w' (fun b hb=>m.kp.block b (hn B hB b hb).1 (hn B hB b hb).2) (A.ok B (hm B hB))
 have hx:∀ B,B ∈ E∨B ∈ X→∀ C ∈ L',∀ b,B.fp b→¬ C.fp b:=fun B hB C hC b hb hc=>(m.fresh b ⟨C,hC,hc⟩).elim (hn B hB b hb).2 fun h=>by have:=(hn B hB b hb).1;omega
 have hc:∀ b,fps (E++(L'++X)) b→(∃ B,(B ∈ E∨B ∈ X)∧B.fp b)∨fps L' b:=fun b ⟨B,hB,hb⟩=>by
  rcases List.mem_append.1 hB with h|h
  ·exact .inl ⟨B,.inl h,hb⟩
  ·rcases List.mem_append.1 h with h|h
   ·exact .inr ⟨B,h,hb⟩
   ·exact .inl ⟨B,.inr h,hb⟩
 refine ⟨⟨fun B hB=>?_,fun b hb=>?_,?_⟩,fun b hb=>?_,⟨m.kp.os,m.kp.tape,m.kp.output,m.kp.size,fun k hk h=>m.kp.block k hk fun q=>h (fps_append.2 (.inr (fps_append.2 (.inl q))))⟩⟩
 ·rcases List.mem_append.1 hB with h|h
  ·exact hok B (.inl h)
  ·rcases List.mem_append.1 h with h|h
   ·exact m.at'.ok B h
   ·exact hok B (.inr h)
 ·rcases hc b hb with ⟨B,hB,h⟩|h
  ·have:=(hn B hB b h).1
   have:=m.kp.size
   omega
  ·exact m.at'.lt b h
 ·refine List.pairwise_append.2 ⟨a1.1,List.pairwise_append.2 ⟨m.at'.apart,a2.2.1,fun C hC B hB b hc hb=>hx B (.inr hB) C hC b hb hc⟩,fun B hB C hC b hb hc=>?_⟩
  rcases List.mem_append.1 hC with h|h
  ·exact hx B (.inl hB) C h b hb hc
  ·exact a1.2.2 B hB C (List.mem_append_right _ h) b hb hc
 ·rcases hc b hb with ⟨B,hB,h⟩|h
  ·exact .inl ⟨B,hm B hB,h⟩
  ·exact (m.fresh b h).imp (fun q=>fps_append.2 (.inr (fps_append.2 (.inl q)))) id
theorem mv_left (A:At w (L++X)) (m:Mv L w L' w'):Mv (L++X) w (L'++X) w':=mv_in (E:=[]) A m
end
end Go.Proofs.YtipdbeklopjbmaaGreatDoor
namespace Go.Proofs.YtipdbeklopjbmaaGreatDoor
open Go.ChangeShapes Go.WideShapes Go.ChangeAt Go.RowKit Go.Shelf
theorem extraW:Builder.X72 Tryz.prog laysBWr_ren:={ sizeBuilder:=by kernel_rfl,liesBuilder:=by kernel_rfl }
theorem extraS:Builder.Extra Tryz.prog laysBStr_ren:=
 { sizeBuilder:=by kernel_rfl,liesBuilder:=by kernel_rfl,t5:=laysIndex.t5,a5:=laysIndex.a5,z5:=laysIndex.z5,v5:=laysIndex.v5,infoByte:=by kernel_rfl,cellsByte:=by kernel_rfl,sizeByte:=by kernel_rfl,neB5:=by decide }
theorem bx_at {w:World} {b:Nat} {cs:List Value} {T:TypeId} {X:List Atom} (A:At w (bx b cs T::X)):w.heap[b]? = some (.cells cs.toArray T (0,0)):=A.ok _ (List.mem_cons_self ..)
theorem shape_bx {w:World} {b:Nat} {cs:Array Value} {T:TypeId} {mk:Nat × Nat} (h:w.heap[b]? = some (.cells cs T mk)):w.shape? b=some (T,cs.size):=by simp [World.shape?,h]
theorem OwnB.bytes {e:Nat} {w:World} {v:Value} {l:List Nat} (h:OwnB e w v l):∀ x ∈ l,x < 256:=by
 rcases h with ⟨_,rfl⟩|⟨g,cap,cur,mk,e1,h1,h2,h3,h4,h5,h6,h7,h8⟩
 ·exact fun _ h=>by cases h
 ·exact h7
theorem OwnB.len {e:Nat} {w:World} {v:Value} {l:List Nat} (h:OwnB e w v l):l.length≤maxLen:=by
 rcases h with ⟨_,rfl⟩|⟨g,cap,cur,mk,e1,h1,h2,h3,h4,h5,h6,h7,h8⟩
 ·exact Nat.zero_le _
 ·omega
theorem bld_set {w:World} {b:Nat} {T:TypeId} {v:Value} {X:List Atom} (p:Value) (A:At w (bx b [.pointer none,v] T::X)):Mv (bx b [.pointer none,v] T::X) w (bx b [p,v] T::X) (w.setCell ⟨b,0,none⟩ p):=by
 have hb:w.heap[b]? = some (.cells [.pointer none,v].toArray T (0,0)):=A.ok _ (List.mem_cons_self ..)
 have hlt:=(Array.getElem?_eq_some_iff.1 hb).1
 have h1:=heap_setCells [p] 0 w [.pointer none,v] hb (by simp)
 obtain ⟨s1,s2,s3,s4,s5⟩:=setX_all b [p] 0 w
 have e:w.setCells b 0 [p]=w.setCell ⟨b,0,none⟩ p:=rfl
 rw [e] at h1 s1 s2 s3 s4 s5
 have hM:Mv [bx b [.pointer none,v] T] w [bx b [p,v] T] (w.setCell ⟨b,0,none⟩ p):=⟨At.one h1 (fun c hc=>by have:c=b:=hc;subst this;omega),fun c hc=>.inl (by rw [fps_one] at hc ⊢;exact hc),⟨s1,s2,s3,by omega,fun k _ hk=>s5 k fun e=>hk (fps_one.2 e)⟩⟩
 exact mv_left (L:=[bx b [.pointer none,v] T]) (L':=[bx b [p,v] T]) A hM
section
variable {P:Program} {ρ:Ren}
set_option maxHeartbeats 2000000 in
set_option maxRecDepth 100000 in
theorem bld_string (L:Lays.n169 P ρ) (X:Builder.Extra P ρ) {b g cap:Nat} {cur:Array Value} {mk:Nat × Nat} {p:Value} (l:List UInt8) (w:World) (hbk:w.heap[b]? = some (.cells #[p,.slice (some ⟨g,0,none⟩) l.length cap] (ρ.t 72) (0,0)))
 (hg:w.heap[g]? = some (.cells cur (ρ.t 5) mk)) (h0:l≠[]) (hnc:l.length≤cap) (hcm:cap≤maxLen) (hcs:cur.size=cap) (hc:∀ j (x:UInt8),l[j]? = some x→w.cell? ⟨g,j,none⟩=some (.int .u8 ((x.toNat:Nat):Int))) :
 Calls P (ρ.f 169) #[.pointer (some ⟨b,0,none⟩)] w fun e w'=>e=.returned (.string ⟨l.toArray⟩)∧w'=w.drew.freeze ⟨g,0,none⟩ l.length:=by
 have hl0:l.length≠0:=by simpa using h0
 have c1:w.drew.cell? ⟨b,1,none⟩=some (.slice (some ⟨g,0,none⟩) l.length cap):=by
  have:w.drew.heap[b]? = some (.cells #[p,.slice (some ⟨g,0,none⟩) l.length cap] (ρ.t 72) (0,0)):=hbk
  rw [Lib.cell_of_heap this];rfl
 have hSD:(Builtin.unsafeSliceData_ #[(ρ.t 37)] (ρ.t 127) #[.slice (some ⟨g,0,none⟩) l.length cap]).run P w.drew=.ok (.pointer (some ⟨g,0,none⟩)) w.drew:=
  Lib.run_unsafeSliceData_row _ _ _ _ _ _ (by omega)
 have hUS:(Builtin.unsafeString_ #[(ρ.t 127),(ρ.t 3)] (ρ.t 9) #[.pointer (some ⟨g,0,none⟩),.int .i64 l.length]).run P w.drew=.ok (.string ⟨l.toArray⟩) (w.drew.freeze ⟨g,0,none⟩ l.length):=by
  refine Lib.run_unsafeString_row w.drew (ρ.t 127) (ρ.t 3) (ρ.t 9) (ρ.t 5) L.t127 X.cellsByte g cur.size (by have hg':w.drew.heap[g]? = some (.cells cur (ρ.t 5) mk):=hg;simp [World.shape?,hg']) l h0 (by omega) (by unfold maxLen at hcm;omega) ?_
  intro j x hx
  rw [add_flat,Nat.zero_add]
  exact hc j x hx
 have mixed:=L.mixed
 have t72:=L.t72;have a72:=L.a72;have z72:=L.z72;have v72:=L.v72;have u72:=run_underlying L.t72
 have t70:=L.t70;have a70:=L.a70;have z70:=L.z70;have v70:=L.v70;have u70:=run_underlying L.t70
 have t37:=L.t37;have a37:=L.a37;have z37:=L.z37;have v37:=L.v37;have u37:=run_underlying L.t37
 have t127:=L.t127;have a127:=L.a127;have z127:=L.z127;have v127:=L.v127;have u127:=run_underlying L.t127
 have t3:=L.t3;have a3:=L.a3;have z3:=L.z3;have v3:=L.v3;have u3:=run_underlying L.t3
 have t9:=L.t9;have a9:=L.a9;have z9:=L.z9;have v9:=L.v9;have u9:=run_underlying L.t9
 have t5:=X.t5;have a5:=X.a5;have z5:=X.z5;have v5:=X.v5;have u5:=run_underlying X.t5
 go_enter L.f169,Body.n169_ntmps ρ
 go_wp2
 go_region_o
 all_goals (go_wp2;go_ret;exact ⟨rfl,rfl⟩)
theorem bld_str_c (L:Lays.n169 P ρ) (X:Builder.Extra P ρ) {w:World} {b n cap:Nat} {a:Option Addr} {p:Value} (l:List UInt8) (h0:l≠[]) (A:At w [bx b [p,.slice a n cap] (ρ.t 72),owB (ρ.t 5) (.slice a n cap) (l.map (·.toNat))]) :
 Calls P (ρ.f 169) #[.pointer (some ⟨b,0,none⟩)] w fun e w'=>e=.returned (.string ⟨l.toArray⟩)∧Mv [bx b [p,.slice a n cap] (ρ.t 72),owB (ρ.t 5) (.slice a n cap) (l.map (·.toNat))] w [bx b [p,.slice a n cap] (ρ.t 72),owB (ρ.t 5) (.slice a n cap) (l.map (·.toNat))] w':=by
 have hO:OwnB (ρ.t 5) w (.slice a n cap) (l.map (·.toNat)):=A.ok _ (nth_mem (i:=1) rfl)
 have hb:w.heap[b]? = some (.cells [p,.slice a n cap].toArray (ρ.t 72) (0,0)):=A.ok _ (nth_mem (i:=0) rfl)
 have hO1:=hO
 rcases hO with ⟨_,h⟩|⟨g,cap',cur,mk,e1,h1,h2,h3,h4,h5,h6,h7,h8⟩
 ·exact absurd (List.map_eq_nil_iff.1 h) h0
 cases e1
 rw [List.length_map] at hb h2 h6 h8
 refine (bld_string L X l w hb h1 h0 h2 h3 (by simpa using h5) fun j x hx=>hO1.cellAt j x.toNat (by rw [List.getElem?_map,hx];rfl)).mono ?_
 rintro e w' ⟨rfl,rfl⟩
 refine ⟨rfl,?_⟩
 have m1:=At.frame0 A (Mv.of_bl ((Bl.refl w).drew))
 have m2:=mv_froze m1.at' 1 (g:=g) (cap:=cap) rfl rfl rfl
 have m3:=(m1.trans m2).pick [1,0] rfl
 have e:w.drew.freeze ⟨g,0,none⟩ (l.map (·.toNat)).length=w.drew.freeze ⟨g,0,none⟩ l.length:=by rw [List.length_map]
 rw [← e]
 exact m3
end
end Go.Proofs.YtipdbeklopjbmaaGreatDoor
namespace Go.Proofs.YtipdbeklopjbmaaGreatDoor
open Go.ChangeShapes Go.WideShapes Go.ChangeAt Go.RowKit
set_option maxRecDepth 100000
set_option maxHeartbeats 1000000
structure BldD where
 addr:Unit
 buf:List Nat
theorem rec_stepB {seq:Int} {list:List CellD} {D:List Nat} {k:Nat} {c:CellD} (hD:D=recN seq (list.take k)) (h:nth list k=some c):D++bytesN ((((⟨#[32]⟩:ByteArray)++hexS c.key)++(⟨#[61]⟩:ByteArray))++hexS c.val)=recN seq (list.take (k+1)):=by
 rw [bytesN_cat,bytesN_cat,bytesN_cat,← rec_step hD h]
 show D++((([32]++_)++[61])++_)=_
 simp only [List.append_assoc]
theorem rec_startB (seq:Int) (list:List CellD):([]:List Nat)++bytesN (decS seq)=recN seq (list.take 0):=by
 unfold recN
 rw [List.take_zero,List.flatMap_nil,List.append_nil,List.nil_append]
theorem decDigits_ne (u:Nat):Lib.decDigits u≠[]:=by
 rw [Lib.decDigits]
 split <;> simp
theorem recN_ne {seq:Int} {list:List CellD} (h:0≤seq):recN seq list≠[]:=fun e=>by
 obtain ⟨n,rfl⟩:=Int.eq_ofNat_of_zero_le h
 unfold recN at e
 have e1:=(List.append_eq_nil_iff.1 e).1
 unfold bytesN at e1
 have e2:=List.map_eq_nil_iff.1 e1
 have e3:=decS_toList n
 exact decDigits_ne n (e3.symm.trans e2)
theorem recD_ne {seq:Int} {list:List CellD} {D:List Nat} (h:(!inB seq 1 100000)=false) (hD:D=recN seq list):D≠[]:=by
 rw [hD]
 exact recN_ne (by have:=inB_bd (nf h);omega)
section
end
end Go.Proofs.YtipdbeklopjbmaaGreatDoor
