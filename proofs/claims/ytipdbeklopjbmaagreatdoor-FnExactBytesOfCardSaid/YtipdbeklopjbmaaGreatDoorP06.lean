/-
  Texts laid together: GenXb, Dat7, CellEq, DatB, Shelf.
-/
import Derived.Test.YtipdbeklopjbmaaGreatDoorGenXa
import Derived.Test.YtipdbeklopjbmaaGreatDoorP04
import Derived.Test.YtipdbeklopjbmaaGreatDoorP02
import Derived.Laws.StructEq
import Derived.Shelf.Strconv.Itoa3
import Derived.Shelf.Strconv.AtoiAll
import Derived.Shelf.Hex.More
import Derived.Shelf.Hex.Decode
import Derived.Shelf.Strings.Split
import Derived.Shelf.Strings.Cut
import Derived.Shelf.Strings.Search3
import Derived.Shelf.Strings.BuilderF
import Derived.Test.YtipdbeklopjbmaaGreatDoorChecked
import Derived.KernelRfl
set_option linter.unusedVariables false
set_option linter.unusedSimpArgs false
namespace Go.Proofs.YtipdbeklopjbmaaGreatDoor
open Go.ChangeShapes Go.WideShapes Go.ChangeAt Go.RowKit
set_option maxRecDepth 100000
set_option maxHeartbeats 1000000
theorem laws_szTx_c {w:World} {H:Nat→Prop} {a:TxD} {Q3:Option Addr} {Q5 Q4:Nat} {Q0:Option Addr} {Q2 Q1:Nat} {a_Ra:Option Addr} {a_Rn a_Rc:Nat} {a_Wa:Option Addr} {a_Wn a_Wc:Nat} {Q6:Option Addr} {Q8 Q7:Nat} {left:Int} (Q17:i64ok a.id) (Q15:i64ok a.age) (Q18:i64ok a.proc) (Q16:i64ok a.began) (Q10:RdA 6 encK okK H w (.slice Q3 Q5 Q4) a.calls) (Q9:RdA 3 encR okR H w (.slice Q0 Q2 Q1) a.answers) (Q12:RdA 1 encS okS H w (.slice a_Ra a_Rn a_Rc) a.touch.reads) (Q13:RdA 1 encS okS H w (.slice a_Wa a_Wn a_Wc) a.touch.writes) (Q11:RdA 1 encI okI H w (.slice Q6 Q8 Q7) a.marks) (Q19:i64ok a.state) (Q14:i64ok left) (p0:0≤left) (p1:left≤1048576) :
 Calls Tryz.prog 16 #[.agg #[.int .i64 a.id,.int .i64 a.age,.int .i64 a.proc,.int .i64 a.began,.slice Q3 Q5 Q4,.slice Q0 Q2 Q1,.slice a_Ra a_Rn a_Rc,.slice a_Wa a_Wn a_Wc,.slice Q6 Q8 Q7,.int .i64 a.state],.int .i64 left] w fun e w'=>e=.returned (.int .i64 (subOr left (szTxD a)))∧Mv [] w [] w'∧i64ok (subOr left (szTxD a)):=by
 have V_v_a_calls:=RdA.start Q10 zN
 obtain ⟨Q26,Q21,Q31,Q36⟩:=RdA.inv Q10
 have V_v_a_answers:=RdA.start Q9 zN
 obtain ⟨Q25,Q20,Q30,Q35⟩:=RdA.inv Q9
 have V_v_a_touch_reads:=RdA.start Q12 zN
 obtain ⟨Q28,Q23,Q33,Q38⟩:=RdA.inv Q12
 have V_v_a_touch_writes:=RdA.start Q13 zN
 obtain ⟨Q29,Q24,Q34,Q39⟩:=RdA.inv Q13
 have V_v_a_marks:=RdA.start Q11 zN
 obtain ⟨Q27,Q22,Q32,Q37⟩:=RdA.inv Q11
 refine ze fun _ F=>?_
 refine l_op (f_box F (At.nil w) rfl rfl rfl (F.g rfl) rfl rfl fun b1 _ w1 F S1=>?_)
 refine zr fun _ F=>?_
 refine zl F S1.at' 0 fun _ F=>?_
 refine zz F (laws_szCallS_c (a:=a.calls) (left:=left) (RdA.mv (Nat.succ_pos _) V_v_a_calls S1) Q14 zI8 zI8) ?_
 rintro _ w7 ⟨rfl,m7,q7_0⟩
 refine zt fun _ F=>?_
 have S7:=At.frame0 S1.at' m7
 clear m7
 refine zc F ((subOr left (szCalls a.calls)) < 0) fun _ F=>?_
 refine zi F (fun h12=>?_) fun h12=>?_
 ·refine zr fun _ F=>?_
  refine x_done F (results_1 rfl (zta F)) ?_
  exact ⟨(zV1 (zVi (by unfold szTxD;first|exact sz4_a ‹_›|exact sz4_b ‹_› ‹_›|exact sz4_c ‹_› ‹_› ‹_›|exact sz4_d ‹_› ‹_› ‹_›|(rw [← sz4_d ‹_› ‹_› ‹_›];exact subOr_neg1 ‹_›)))),(Mv.pick (S1.trans S7) [] rfl),subOr_i64 p0 p1⟩
 ·refine zr fun _ F=>?_
  refine zl F S7.at' 0 fun _ F=>?_
  refine zz F (laws_szAnswerS_c (a:=a.answers) (left:=(subOr left (szCalls a.calls))) (RdA.mv (Nat.succ_pos _) V_v_a_answers (S1.trans S7)) zI7 zI8 (by have q1:=subOr_bd left (szCalls a.calls) p0;omega)) ?_
  rintro _ w17 ⟨rfl,m17,q17_0⟩
  refine zt fun _ F=>?_
  have S17:=At.frame0 S7.at' m17
  clear m17
  refine zc F ((subOr (subOr left (szCalls a.calls)) (szAnss a.answers)) < 0) fun _ F=>?_
  refine zi F (fun h22=>?_) fun h22=>?_
  ·refine zr fun _ F=>?_
   refine x_done F (results_1 rfl (zta F)) ?_
   exact ⟨(zV1 (zVi (by unfold szTxD;first|exact sz4_a ‹_›|exact sz4_b ‹_› ‹_›|exact sz4_c ‹_› ‹_› ‹_›|exact sz4_d ‹_› ‹_› ‹_›|(rw [← sz4_d ‹_› ‹_› ‹_›];exact subOr_neg1 ‹_›)))),(Mv.pick (S1.trans (S7.trans S17)) [] rfl),subOr_i64 p0 p1⟩
  ·refine zr fun _ F=>?_
   refine zv (v:=.agg #[.slice a_Ra a_Rn a_Rc,.slice a_Wa a_Wn a_Wc]) F (r_loadB S17.at' 0 TI_46 rfl rfl (F.g rfl) rfl rfl (fun h=>nomatch h) rfl) fun _ F=>?_
   refine zz F (laws_szTouch_c (a:=a.touch) (left:=(subOr (subOr left (szCalls a.calls)) (szAnss a.answers))) (RdA.mv (Nat.succ_pos _) V_v_a_touch_reads (S1.trans (S7.trans S17))) (RdA.mv (Nat.succ_pos _) V_v_a_touch_writes (S1.trans (S7.trans S17))) zI7 zI8 (by have q1:=subOr_bd left (szCalls a.calls) p0;have q2:=subOr_bd (subOr left (szCalls a.calls)) (szAnss a.answers) (by omega);omega)) ?_
   rintro _ w27 ⟨rfl,m27,q27_0⟩
   refine zt fun _ F=>?_
   have S27:=At.frame0 S17.at' m27
   clear m27
   have T30:Mv _ _ [bx _ [_,_,_,_,_,_,_,_,_,_] _] _:=S27
   refine zc F ((subOr (subOr (subOr left (szCalls a.calls)) (szAnss a.answers)) (szTouchD a.touch)) < 0) fun _ F=>?_
   refine zi F (fun h33=>?_) fun h33=>?_
   ·refine zr fun _ F=>?_
    refine x_done F (results_1 rfl (zta F)) ?_
    exact ⟨(zV1 (zVi (by unfold szTxD;first|exact sz4_a ‹_›|exact sz4_b ‹_› ‹_›|exact sz4_c ‹_› ‹_› ‹_›|exact sz4_d ‹_› ‹_› ‹_›|(rw [← sz4_d ‹_› ‹_› ‹_›];exact subOr_neg1 ‹_›)))),(Mv.pick (S1.trans (S7.trans (S17.trans T30))) [] rfl),subOr_i64 p0 p1⟩
   ·refine zr fun _ F=>?_
    refine zl F T30.at' 0 fun _ F=>?_
    refine zz F (laws_szIntS_c (a:=a.marks) (left:=(subOr (subOr (subOr left (szCalls a.calls)) (szAnss a.answers)) (szTouchD a.touch))) (RdA.mv (Nat.succ_pos _) V_v_a_marks (S1.trans (S7.trans (S17.trans T30)))) zI7 zI8 (by have q1:=subOr_bd left (szCalls a.calls) p0;have q2:=subOr_bd (subOr left (szCalls a.calls)) (szAnss a.answers) (by omega);have q3:=subOr_bd (subOr (subOr left (szCalls a.calls)) (szAnss a.answers)) (szTouchD a.touch) (by omega);omega)) ?_
    rintro _ w38 ⟨rfl,m38,q38_0⟩
    refine zt fun _ F=>?_
    have S38:=At.frame0 T30.at' m38
    clear m38
    refine zc F ((subOr (subOr (subOr (subOr left (szCalls a.calls)) (szAnss a.answers)) (szTouchD a.touch)) a.marks.length) < 0) fun _ F=>?_
    refine zi F (fun h43=>?_) fun h43=>?_
    ·refine zr fun _ F=>?_
     refine x_done F (results_1 rfl (zta F)) ?_
     exact ⟨(zV1 (zVi (by unfold szTxD;first|exact sz4_a ‹_›|exact sz4_b ‹_› ‹_›|exact sz4_c ‹_› ‹_› ‹_›|exact sz4_d ‹_› ‹_› ‹_›|(rw [← sz4_d ‹_› ‹_› ‹_›];exact subOr_neg1 ‹_›)))),(Mv.pick (S1.trans (S7.trans (S17.trans (T30.trans S38)))) [] rfl),subOr_i64 p0 p1⟩
    ·refine zr fun _ F=>?_
     refine x_done F (results_1 rfl (zta F)) ?_
     exact ⟨(zV1 (zVi (by unfold szTxD;first|exact sz4_a ‹_›|exact sz4_b ‹_› ‹_›|exact sz4_c ‹_› ‹_› ‹_›|exact sz4_d ‹_› ‹_› ‹_›|(rw [← sz4_d ‹_› ‹_› ‹_›];exact subOr_neg1 ‹_›)))),(Mv.pick (S1.trans (S7.trans (S17.trans (T30.trans S38)))) [] rfl),subOr_i64 p0 p1⟩
theorem laws_toTx_c {w:World} {H:Nat→Prop} {a:TxD} {Q3:Option Addr} {Q5 Q4:Nat} {Q0:Option Addr} {Q2 Q1:Nat} {a_Ra:Option Addr} {a_Rn a_Rc:Nat} {a_Wa:Option Addr} {a_Wn a_Wc:Nat} {Q6:Option Addr} {Q8 Q7:Nat} (Q46:i64ok a.id) (Q44:i64ok a.age) (Q47:i64ok a.proc) (Q45:i64ok a.began) (Q25:RdA 6 encK okK H w (.slice Q3 Q5 Q4) a.calls) (Q24:RdA 3 encR okR H w (.slice Q0 Q2 Q1) a.answers) (Q27:RdA 1 encS okS H w (.slice a_Ra a_Rn a_Rc) a.touch.reads) (Q28:RdA 1 encS okS H w (.slice a_Wa a_Wn a_Wc) a.touch.writes) (Q26:RdA 1 encI okI H w (.slice Q6 Q8 Q7) a.marks) (Q48:i64ok a.state) (p0:a.calls.length≤1048576) (p1:a.answers.length≤1048576) (p2:a.touch.reads.length≤1048576) (p3:a.touch.writes.length≤1048576) (p4:a.marks.length≤1048576) :
 Calls Tryz.prog 19 #[.agg #[.int .i64 a.id,.int .i64 a.age,.int .i64 a.proc,.int .i64 a.began,.slice Q3 Q5 Q4,.slice Q0 Q2 Q1,.slice a_Ra a_Rn a_Rc,.slice a_Wa a_Wn a_Wc,.slice Q6 Q8 Q7,.int .i64 a.state]] w fun e w'=>∃ (Q18:Option Addr),∃ (Q20:Nat),∃ (Q19:Nat),∃ (Q15:Option Addr),∃ (Q17:Nat),∃ (Q16:Nat),∃ (Q9:Option Addr),∃ (Q11:Nat),∃ (Q10:Nat),∃ (Q12:Option Addr),∃ (Q14:Nat),∃ (Q13:Nat),∃ (Q21:Option Addr),∃ (Q23:Nat),∃ (Q22:Nat),e=.returned (.agg #[.int .i64 a.id,.int .i64 a.age,.int .i64 a.proc,.int .i64 a.began,.slice Q18 Q20 Q19,.slice Q15 Q17 Q16,.slice Q9 Q11 Q10,.slice Q12 Q14 Q13,.slice Q21 Q23 Q22,.int .i64 a.state])∧Mv [] w [ow 153 6 encK okK (.slice Q18 Q20 Q19) a.calls,ow 155 3 encR okR (.slice Q15 Q17 Q16) a.answers,ow 9 1 encS okS (.slice Q9 Q11 Q10) a.touch.reads,ow 9 1 encS okS (.slice Q12 Q14 Q13) a.touch.writes,ow 3 1 encI okI (.slice Q21 Q23 Q22) a.marks] w':=by
 have V_v_a_calls:=RdA.start Q25 zN
 obtain ⟨Q55,Q50,Q75,Q80⟩:=RdA.inv Q25
 have V_v_a_answers:=RdA.start Q24 zN
 obtain ⟨Q54,Q49,Q74,Q79⟩:=RdA.inv Q24
 have V_v_a_touch_reads:=RdA.start Q27 zN
 obtain ⟨Q57,Q52,Q77,Q82⟩:=RdA.inv Q27
 have V_v_a_touch_writes:=RdA.start Q28 zN
 obtain ⟨Q58,Q53,Q78,Q83⟩:=RdA.inv Q28
 have V_v_a_marks:=RdA.start Q26 zN
 obtain ⟨Q56,Q51,Q76,Q81⟩:=RdA.inv Q26
 refine ze fun _ F=>?_
 refine l_op (f_box F (At.nil w) rfl rfl rfl (F.g rfl) rfl rfl fun b1 _ w1 F S1=>?_)
 refine l_op (f_alloc F S1.at' ZI_58 rfl rfl rfl rfl rfl fun b3 _ w3 F S3=>?_)
 refine zr fun _ F=>?_
 refine l_op (f_alloc F S3.at' ZI_58 rfl rfl rfl rfl rfl fun b5 _ w5 F S5=>?_)
 refine zr fun _ F=>?_
 refine zl F S5.at' 2 fun _ F=>?_
 refine l_op (s_store S5.at' 0 TI_3 rfl rfl rfl rfl rfl (F.g rfl) (F.g rfl) rfl rfl rfl rfl rfl fun w10 S10=>?_)
 have T11:Mv _ _ [bx _ [_,_,_,_,_,_,_,_,_,_] _,bx _ [_,_,_,_,_,_,_,_,_,_] _,bx _ [_,_,_,_,_,_,_,_,_,_] _] _:=S10
 refine zr fun _ F=>?_
 refine zl F T11.at' 2 fun _ F=>?_
 refine l_op (s_store T11.at' 0 TI_3 rfl rfl rfl rfl rfl (F.g rfl) (F.g rfl) rfl rfl rfl rfl rfl fun w15 S15=>?_)
 refine zr fun _ F=>?_
 refine zl F S15.at' 2 fun _ F=>?_
 refine l_op (s_store S15.at' 0 TI_3 rfl rfl rfl rfl rfl (F.g rfl) (F.g rfl) rfl rfl rfl rfl rfl fun w19 S19=>?_)
 refine zr fun _ F=>?_
 refine zl F S19.at' 2 fun _ F=>?_
 refine l_op (s_store S19.at' 0 TI_3 rfl rfl rfl rfl rfl (F.g rfl) (F.g rfl) rfl rfl rfl rfl rfl fun w23 S23=>?_)
 refine zr fun _ F=>?_
 refine zl F S23.at' 2 fun _ F=>?_
 refine zz F (laws_toCallS_c (a:=a.calls) (RdA.mv (Nat.succ_pos _) V_v_a_calls (S1.trans (S3.trans (S5.trans (T11.trans (S15.trans (S19.trans S23))))))) zI8) ?_
 rintro _ w26 ⟨Q35,Q41,Q38,rfl,m26⟩
 refine zt fun _ F=>?_
 have S26:Mv _ _ [_,bx _ [_,_,_,_,_,_,_,_,_,_] _,bx _ [_,_,_,_,_,_,_,_,_,_] _,bx _ [_,_,_,_,_,_,_,_,_,_] _] _:=At.frame S23.at' [] rfl m26
 obtain ⟨Q59,Q64,Q69⟩:=At.ownInv S26.at' ET_54.hk 0 rfl
 clear m26
 refine l_op (s_store S26.at' 1 TI_54 rfl rfl rfl rfl rfl (F.g rfl) (F.g rfl) rfl rfl rfl rfl rfl fun w29 S29=>?_)
 have T30:Mv _ _ [bx _ [_,_,_,_,_,_,_,_,_,_] _,_,bx _ [_,_,_,_,_,_,_,_,_,_] _,bx _ [_,_,_,_,_,_,_,_,_,_] _] _:=S29
 refine zr fun _ F=>?_
 refine zl F T30.at' 3 fun _ F=>?_
 refine zz F (laws_toAnswerS_c (a:=a.answers) (RdA.mv (Nat.succ_pos _) V_v_a_answers (S1.trans (S3.trans (S5.trans (T11.trans (S15.trans (S19.trans (S23.trans (S26.trans T30))))))))) zI8) ?_
 rintro _ w33 ⟨Q36,Q42,Q39,rfl,m33⟩
 refine zt fun _ F=>?_
 have S33:Mv _ _ [_,bx _ [_,_,_,_,_,_,_,_,_,_] _,_,bx _ [_,_,_,_,_,_,_,_,_,_] _,bx _ [_,_,_,_,_,_,_,_,_,_] _] _:=At.frame T30.at' [] rfl m33
 obtain ⟨Q60,Q65,Q70⟩:=At.ownInv S33.at' ET_55.hk 0 rfl
 clear m33
 refine l_op (s_store S33.at' 1 TI_55 rfl rfl rfl rfl rfl (F.g rfl) (F.g rfl) rfl rfl rfl rfl rfl fun w36 S36=>?_)
 refine zr fun _ F=>?_
 refine zv (v:=.agg #[.slice a_Ra a_Rn a_Rc,.slice a_Wa a_Wn a_Wc]) F (r_loadB S36.at' 4 TI_46 rfl rfl (F.g rfl) rfl rfl (fun h=>nomatch h) rfl) fun _ F=>?_
 refine zz F (laws_toTouch_c (a:=a.touch) (RdA.mv (Nat.succ_pos _) V_v_a_touch_reads (S1.trans (S3.trans (S5.trans (T11.trans (S15.trans (S19.trans (S23.trans (S26.trans (T30.trans (S33.trans S36))))))))))) (RdA.mv (Nat.succ_pos _) V_v_a_touch_writes (S1.trans (S3.trans (S5.trans (T11.trans (S15.trans (S19.trans (S23.trans (S26.trans (T30.trans (S33.trans S36))))))))))) zI8 zI8) ?_
 rintro _ w39 ⟨Q29,Q31,Q30,Q32,Q34,Q33,rfl,m39⟩
 refine zt fun _ F=>?_
 have S39:Mv _ _ [_,_,bx _ [_,_,_,_,_,_,_,_,_,_] _,_,_,bx _ [_,_,_,_,_,_,_,_,_,_] _,bx _ [_,_,_,_,_,_,_,_,_,_] _] _:=At.frame S36.at' [] rfl m39
 obtain ⟨Q61,Q66,Q71⟩:=At.ownInv S39.at' ET_44.hk 0 rfl
 obtain ⟨Q62,Q67,Q72⟩:=At.ownInv S39.at' ET_44.hk 1 rfl
 clear m39
 refine l_op (s_store S39.at' 2 TI_56 rfl rfl rfl rfl rfl (F.g rfl) (F.g rfl) rfl rfl rfl rfl rfl fun w42 S42=>?_)
 have T43:Mv _ _ [bx _ [_,_,_,_,_,_,_,_,_,_] _,_,_,_,_,bx _ [_,_,_,_,_,_,_,_,_,_] _,bx _ [_,_,_,_,_,_,_,_,_,_] _] _:=S42
 refine zr fun _ F=>?_
 refine zl F T43.at' 6 fun _ F=>?_
 refine zz F (laws_toIntS_c (a:=a.marks) (RdA.mv (Nat.succ_pos _) V_v_a_marks (S1.trans (S3.trans (S5.trans (T11.trans (S15.trans (S19.trans (S23.trans (S26.trans (T30.trans (S33.trans (S36.trans (S39.trans T43))))))))))))) zI8) ?_
 rintro _ w46 ⟨Q37,Q43,Q40,rfl,m46⟩
 refine zt fun _ F=>?_
 have S46:Mv _ _ [_,bx _ [_,_,_,_,_,_,_,_,_,_] _,_,_,_,_,bx _ [_,_,_,_,_,_,_,_,_,_] _,bx _ [_,_,_,_,_,_,_,_,_,_] _] _:=At.frame T43.at' [] rfl m46
 obtain ⟨Q63,Q68,Q73⟩:=At.ownInv S46.at' ET_47.hk 0 rfl
 clear m46
 refine l_op (s_store S46.at' 1 TI_47 rfl rfl rfl rfl rfl (F.g rfl) (F.g rfl) rfl rfl rfl rfl rfl fun w49 S49=>?_)
 refine zr fun _ F=>?_
 refine zl F S49.at' 7 fun _ F=>?_
 refine l_op (s_store S49.at' 0 TI_3 rfl rfl rfl rfl rfl (F.g rfl) (F.g rfl) rfl rfl rfl rfl rfl fun w53 S53=>?_)
 refine zr fun _ F=>?_
 refine zw F S53.at' 0 fun _ F=>?_
 refine l_op (s_store S53.at' 6 TI_58 rfl rfl rfl rfl rfl (F.g rfl) (F.g rfl) rfl rfl rfl rfl rfl fun w55 S55=>?_)
 have T56:Mv _ _ [bx _ [_,_,_,_,_,_,_,_,_,_] _,bx _ [_,_,_,_,_,_,_,_,_,_] _,_,_,_,_,_,bx _ [_,_,_,_,_,_,_,_,_,_] _] _:=S55
 refine zr fun _ F=>?_
 refine x_done F (results_1 rfl (zca F T56.at' 0)) ?_
 exact ⟨Q35,Q41,Q38,Q36,Q42,Q39,Q29,Q31,Q30,Q32,Q34,Q33,Q37,Q43,Q40,rfl,(Mv.pick (S1.trans (S3.trans (S5.trans (T11.trans (S15.trans (S19.trans (S23.trans (S26.trans (T30.trans (S33.trans (S36.trans (S39.trans (T43.trans (S46.trans (S49.trans (S53.trans T56)))))))))))))))) [6,5,3,4,2] rfl)⟩
theorem laws_eqTx_c {w:World} {H:Nat→Prop} {a:TxD} {Q3:Option Addr} {Q5 Q4:Nat} {Q0:Option Addr} {Q2 Q1:Nat} {a_Ra:Option Addr} {a_Rn a_Rc:Nat} {a_Wa:Option Addr} {a_Wn a_Wc:Nat} {Q6:Option Addr} {Q8 Q7:Nat} {b:TxD} {Q12:Option Addr} {Q14 Q13:Nat} {Q9:Option Addr} {Q11 Q10:Nat} {b_Ra:Option Addr} {b_Rn b_Rc:Nat} {b_Wa:Option Addr} {b_Wn b_Wc:Nat} {Q15:Option Addr} {Q17 Q16:Nat} (Q30:i64ok a.id) (Q28:i64ok a.age) (Q31:i64ok a.proc) (Q29:i64ok a.began) (Q19:Rd 6 encK okK H w (.slice Q3 Q5 Q4) a.calls) (Q18:Rd 3 encR okR H w (.slice Q0 Q2 Q1) a.answers) (Q21:Rd 1 encS okS H w (.slice a_Ra a_Rn a_Rc) a.touch.reads) (Q22:Rd 1 encS okS H w (.slice a_Wa a_Wn a_Wc) a.touch.writes) (Q20:Rd 1 encI okI H w (.slice Q6 Q8 Q7) a.marks) (Q32:i64ok a.state) (Q35:i64ok b.id) (Q33:i64ok b.age) (Q36:i64ok b.proc) (Q34:i64ok b.began) (Q24:Rd 6 encK okK H w (.slice Q12 Q14 Q13) b.calls) (Q23:Rd 3 encR okR H w (.slice Q9 Q11 Q10) b.answers) (Q26:Rd 1 encS okS H w (.slice b_Ra b_Rn b_Rc) b.touch.reads) (Q27:Rd 1 encS okS H w (.slice b_Wa b_Wn b_Wc) b.touch.writes) (Q25:Rd 1 encI okI H w (.slice Q15 Q17 Q16) b.marks) (Q37:i64ok b.state) (p0:a=b) :
 Calls Tryz.prog 21 #[.agg #[.int .i64 a.id,.int .i64 a.age,.int .i64 a.proc,.int .i64 a.began,.slice Q3 Q5 Q4,.slice Q0 Q2 Q1,.slice a_Ra a_Rn a_Rc,.slice a_Wa a_Wn a_Wc,.slice Q6 Q8 Q7,.int .i64 a.state],.agg #[.int .i64 b.id,.int .i64 b.age,.int .i64 b.proc,.int .i64 b.began,.slice Q12 Q14 Q13,.slice Q9 Q11 Q10,.slice b_Ra b_Rn b_Rc,.slice b_Wa b_Wn b_Wc,.slice Q15 Q17 Q16,.int .i64 b.state]] w fun e w'=>e=.returned (.bool true)∧Mv [] w [] w':=by
 have V_v_a_calls:=Rd.start Q19 zN
 obtain ⟨Q49,Q39,Q59,Q69⟩:=Rd.inv Q19
 have V_v_a_answers:=Rd.start Q18 zN
 obtain ⟨Q48,Q38,Q58,Q68⟩:=Rd.inv Q18
 have V_v_a_touch_reads:=Rd.start Q21 zN
 obtain ⟨Q51,Q41,Q61,Q71⟩:=Rd.inv Q21
 have V_v_a_touch_writes:=Rd.start Q22 zN
 obtain ⟨Q52,Q42,Q62,Q72⟩:=Rd.inv Q22
 have V_v_a_marks:=Rd.start Q20 zN
 obtain ⟨Q50,Q40,Q60,Q70⟩:=Rd.inv Q20
 have V_v_b_calls:=Rd.start Q24 zN
 obtain ⟨Q54,Q44,Q64,Q74⟩:=Rd.inv Q24
 have V_v_b_answers:=Rd.start Q23 zN
 obtain ⟨Q53,Q43,Q63,Q73⟩:=Rd.inv Q23
 have V_v_b_touch_reads:=Rd.start Q26 zN
 obtain ⟨Q56,Q46,Q66,Q76⟩:=Rd.inv Q26
 have V_v_b_touch_writes:=Rd.start Q27 zN
 obtain ⟨Q57,Q47,Q67,Q77⟩:=Rd.inv Q27
 have V_v_b_marks:=Rd.start Q25 zN
 obtain ⟨Q55,Q45,Q65,Q75⟩:=Rd.inv Q25
 refine ze fun _ F=>?_
 refine l_op (f_box F (At.nil w) rfl rfl rfl (F.g rfl) rfl rfl fun b1 _ w1 F S1=>?_)
 refine l_op (f_box F S1.at' rfl rfl rfl (F.g rfl) rfl rfl fun b3 _ w3 F S3=>?_)
 refine zr fun _ F=>?_
 refine zl F S3.at' 1 fun _ F=>?_
 refine zl F S3.at' 0 fun _ F=>?_
 refine zc F (a.id≠b.id) fun _ F=>?_
 rw [show (decide (a.id≠b.id))=false from decide_eq_false (fun h=>h (by rw [p0]))] at F
 refine zr fun _ F=>?_
 refine zl F S3.at' 1 fun _ F=>?_
 refine zl F S3.at' 0 fun _ F=>?_
 refine zc F (a.age≠b.age) fun _ F=>?_
 rw [show (decide (a.age≠b.age))=false from decide_eq_false (fun h=>h (by rw [p0]))] at F
 refine zr fun _ F=>?_
 refine zl F S3.at' 1 fun _ F=>?_
 refine zl F S3.at' 0 fun _ F=>?_
 refine zc F (a.proc≠b.proc) fun _ F=>?_
 rw [show (decide (a.proc≠b.proc))=false from decide_eq_false (fun h=>h (by rw [p0]))] at F
 refine zr fun _ F=>?_
 refine zl F S3.at' 1 fun _ F=>?_
 refine zl F S3.at' 0 fun _ F=>?_
 refine zc F (a.began≠b.began) fun _ F=>?_
 rw [show (decide (a.began≠b.began))=false from decide_eq_false (fun h=>h (by rw [p0]))] at F
 refine zr fun _ F=>?_
 refine zl F S3.at' 1 fun _ F=>?_
 refine zl F S3.at' 0 fun _ F=>?_
 refine zz F (laws_eqCallS_c (a:=a.calls) (b:=b.calls) (Rd.mq V_v_a_calls (S1.trans S3)) (Rd.mq V_v_b_calls (S1.trans S3)) (by rw [p0])) ?_
 rintro _ w30 ⟨rfl,m30⟩
 refine zt fun _ F=>?_
 have S30:=At.frame0 S3.at' m30
 clear m30
 refine zv F (r_not rfl (F.g rfl)) fun _ F=>?_
 refine zl F S30.at' 1 fun _ F=>?_
 refine zl F S30.at' 0 fun _ F=>?_
 refine zz F (laws_eqAnswerS_c (a:=a.answers) (b:=b.answers) (Rd.mq V_v_a_answers (S1.trans (S3.trans S30))) (Rd.mq V_v_b_answers (S1.trans (S3.trans S30))) (by rw [p0])) ?_
 rintro _ w37 ⟨rfl,m37⟩
 refine zt fun _ F=>?_
 have S37:=At.frame0 S30.at' m37
 clear m37
 refine zv F (r_not rfl (F.g rfl)) fun _ F=>?_
 have T40:Mv _ _ [bx _ [_,_,_,_,_,_,_,_,_,_] _,bx _ [_,_,_,_,_,_,_,_,_,_] _] _:=S37
 refine zv (v:=.agg #[.slice a_Ra a_Rn a_Rc,.slice a_Wa a_Wn a_Wc]) F (r_loadB T40.at' 1 TI_56 rfl rfl (F.g rfl) rfl rfl (fun h=>nomatch h) rfl) fun _ F=>?_
 refine zv (v:=.agg #[.slice b_Ra b_Rn b_Rc,.slice b_Wa b_Wn b_Wc]) F (r_loadB T40.at' 0 TI_56 rfl rfl (F.g rfl) rfl rfl (fun h=>nomatch h) rfl) fun _ F=>?_
 refine zz F (laws_eqTouch_c (a:=a.touch) (b:=b.touch) (Rd.mq V_v_a_touch_reads (S1.trans (S3.trans (S30.trans T40)))) (Rd.mq V_v_a_touch_writes (S1.trans (S3.trans (S30.trans T40)))) (Rd.mq V_v_b_touch_reads (S1.trans (S3.trans (S30.trans T40)))) (Rd.mq V_v_b_touch_writes (S1.trans (S3.trans (S30.trans T40)))) (by rw [p0])) ?_
 rintro _ w45 ⟨rfl,m45⟩
 refine zt fun _ F=>?_
 have S45:=At.frame0 T40.at' m45
 clear m45
 refine zv F (r_not rfl (F.g rfl)) fun _ F=>?_
 refine zl F S45.at' 1 fun _ F=>?_
 refine zl F S45.at' 0 fun _ F=>?_
 refine zz F (laws_eqIntS_c (a:=a.marks) (b:=b.marks) (Rd.mq V_v_a_marks (S1.trans (S3.trans (S30.trans (T40.trans S45))))) (Rd.mq V_v_b_marks (S1.trans (S3.trans (S30.trans (T40.trans S45))))) (by rw [p0])) ?_
 rintro _ w52 ⟨rfl,m52⟩
 refine zt fun _ F=>?_
 have S52:=At.frame0 S45.at' m52
 clear m52
 refine zv F (r_not rfl (F.g rfl)) fun _ F=>?_
 refine zl F S52.at' 1 fun _ F=>?_
 refine zl F S52.at' 0 fun _ F=>?_
 refine zc F (a.state≠b.state) fun _ F=>?_
 rw [show (decide (a.state≠b.state))=false from decide_eq_false (fun h=>h (by rw [p0]))] at F
 refine zr fun _ F=>?_
 refine x_done F (results_1 rfl (zta F)) ?_
 exact ⟨rfl,(Mv.pick (S1.trans (S3.trans (S30.trans (T40.trans (S45.trans S52))))) [] rfl)⟩
def hasSuf (s p:ByteArray):Bool:=decide (p.size≤s.size∧s.extract (s.size - p.size) s.size=p)
def cutSuf (s p:ByteArray):ByteArray:=if hasSuf s p then s.extract 0 (s.size - p.size) else s
theorem hasSuf_le {s p:ByteArray} (h:hasSuf s p=true):p.size≤s.size:=(of_decide_eq_true h).1
theorem cutSuf_yes {s p:ByteArray} (h:hasSuf s p=true):cutSuf s p=s.extract 0 (s.size - p.size):=if_pos h
theorem cutSuf_no {s p:ByteArray} (h:hasSuf s p=false):cutSuf s p=s:=if_neg (by rw [h];decide)
theorem putL_mem {l:List ByteArray} {x y:ByteArray} : y ∈ putL l x ↔ y ∈ l∨y=x:=by
 unfold putL
 split
 ·rename_i h
  have hx:x ∈ l:=List.mem_of_getElem? h
  exact ⟨.inl,fun h=>h.elim id (fun e=>e ▸ hx)⟩
 ·unfold insAt
  rw [List.mem_append,List.mem_cons]
  have:y ∈ l ↔ y ∈ l.take (l.findIdx (geS x))∨y ∈ l.drop (l.findIdx (geS x)):=by rw [← List.mem_append,List.take_append_drop]
  rw [this]
  constructor
  ·rintro (h|h|h)
   ·exact .inl (.inl h)
   ·exact .inr h
   ·exact .inl (.inr h)
  ·rintro ((h|h)|h)
   ·exact .inl h
   ·exact .inr (.inr h)
   ·exact .inr (.inl h)
theorem ltS_self (x:ByteArray):ltS x x=false:=by
 have h:∀ l:List UInt8,Op.bytesLess l l=false:=by
  intro l
  induction l with
  | nil=>rfl
  | cons a l ih=>simp [Op.bytesLess,ih]
 exact h _
def diffStep (a b:List CellD) (o:List ByteArray) (c:CellD):List ByteArray:=if getKey a c.key≠getKey b c.key then putL o c.key else o
def diffK (a b:List CellD) (k:Nat):List ByteArray:=((a++b).take k).foldl (diffStep a b) []
def diffL (a b:List CellD):List ByteArray:=(a++b).foldl (diffStep a b) []
theorem diffK_length (a b:List CellD) (k:Nat):(diffK a b k).length≤k:=by
 have h:∀ (l:List CellD) (o:List ByteArray),(l.foldl (diffStep a b) o).length≤o.length+l.length:=by
  intro l
  induction l with
  | nil=>intro o;simp
  | cons c l ih=>
   intro o
   have h1:=ih (diffStep a b o c)
   have h2:(diffStep a b o c).length≤o.length+1:=by
    unfold diffStep
    split
    ·exact putL_length ..
    ·omega
   simp only [List.foldl_cons,List.length_cons];omega
 have:=h ((a++b).take k) []
 unfold diffK
 rw [List.length_take] at this
 simp only [List.length_nil] at this
 omega
theorem diffK_snoc {a b:List CellD} {k:Nat} {x:CellD} (hx:nth (a++b) k=some x):diffK a b (k+1)=diffStep a b (diffK a b k) x:=by
 unfold diffK
 rw [nth_take_snoc hx,List.foldl_append];rfl
theorem nth_left {α:Type} {a b:List α} {k:Nat} {x:α} (hx:nth a k=some x):nth (a++b) k=some x:=by
 have:=nth_lt hx
 rw [nth_eq] at *
 rw [List.getElem?_append_left this];exact hx
theorem nth_right {α:Type} {a b:List α} {k n:Nat} {x:α} (hn:n=a.length) (h:¬ k < n) (hx:nth b (k - n)=some x):nth (a++b) k=some x:=by
 subst hn
 rw [nth_eq] at *
 rw [List.getElem?_append_right (by omega)];exact hx
theorem diff_t {a b:List CellD} {k:Nat} {x:CellD} (hx:nth (a++b) k=some x) (h:getKey a x.key≠getKey b x.key):putL (diffK a b k) x.key=diffK a b (k+1):=by
 rw [diffK_snoc hx];unfold diffStep;rw [if_pos h]
theorem diff_f {a b:List CellD} {k:Nat} {x:CellD} (hx:nth (a++b) k=some x) (h:¬ getKey a x.key≠getKey b x.key):diffK a b k=diffK a b (k+1):=by
 rw [diffK_snoc hx];unfold diffStep;rw [if_neg h]
theorem diffK_all {a b:List CellD} {k m n:Nat} (ha:m=a.length) (hb:n=b.length) (h:¬ k < m+n):diffK a b k=diffL a b:=by
 unfold diffK diffL
 rw [List.take_of_length_le (by rw [List.length_append];omega)]
theorem keysUnder_mem {l:List CellD} {p k:ByteArray} : k ∈ keysUnder l p ↔ (∃ c ∈ l,c.key=k)∧begins k p=true:=by
 simp only [keysUnder,List.mem_map,List.mem_filter]
 constructor
 ·rintro ⟨c,⟨h1,h2⟩,rfl⟩;exact ⟨⟨c,h1,rfl⟩,h2⟩
 ·rintro ⟨⟨c,h1,rfl⟩,h2⟩;exact ⟨c,⟨h1,h2⟩,rfl⟩
theorem delKey_mem {s:List CellD} {key:ByteArray} {c:CellD} : c ∈ delKey s key ↔ c ∈ s∧c.key≠key:=by
 unfold delKey
 rw [List.mem_filter]
 simp
end Go.Proofs.YtipdbeklopjbmaaGreatDoor
namespace Go.Proofs.YtipdbeklopjbmaaGreatDoor
set_option maxRecDepth 100000
def laysItoa_ren:Go.Shelf.Ren:=⟨fun|171=>182|243=>233|246=>304|283=>349|284=>350|285=>351|286=>352|129=>315|317=>369|318=>370|319=>371|320=>372|337=>379|338=>380|n=>n,fun|3=>3|9=>9|2=>2|4=>4|171=>352|0=>0|53=>331|37=>62|5=>5|173=>354|212=>367|51=>329|20=>20|213=>368|46=>214|232=>374|233=>375|n=>n,fun|17=>6|18=>7|19=>8|n=>n⟩
theorem laysItoa:Go.Proofs.LaysM.n171 Tryz.prog laysItoa_ren where
 mixed:=by kernel_rfl
 f129:=Tryz.func315.trans (congrArg some (by kernel_rfl))
 f171:=Tryz.func182.trans (congrArg some (by kernel_rfl))
 f243:=Tryz.func233.trans (congrArg some (by kernel_rfl))
 f246:=Tryz.func304.trans (congrArg some (by kernel_rfl))
 f283:=Tryz.func349.trans (congrArg some (by kernel_rfl))
 f284:=Tryz.func350.trans (congrArg some (by kernel_rfl))
 f285:=Tryz.func351.trans (congrArg some (by kernel_rfl))
 f286:=Tryz.func352.trans (congrArg some (by kernel_rfl))
 f317:=Tryz.func369.trans (congrArg some (by kernel_rfl))
 f318:=Tryz.func370.trans (congrArg some (by kernel_rfl))
 f319:=Tryz.func371.trans (congrArg some (by kernel_rfl))
 f320:=Tryz.func372.trans (congrArg some (by kernel_rfl))
 f337:=Tryz.func379.trans (congrArg some (by kernel_rfl))
 f338:=Tryz.func380.trans (congrArg some (by kernel_rfl))
 t0:=Tryz.underlying0
 a0:=Tryz.isAgg0
 z0:=Tryz.sizeOf0
 v0:=Tryz.zeroValue0
 t2:=Tryz.underlying2
 a2:=Tryz.isAgg2
 z2:=Tryz.sizeOf2
 v2:=Tryz.zeroValue2
 t3:=Tryz.underlying3
 a3:=Tryz.isAgg3
 z3:=Tryz.sizeOf3
 v3:=Tryz.zeroValue3
 t4:=Tryz.underlying4
 a4:=Tryz.isAgg4
 z4:=Tryz.sizeOf4
 v4:=Tryz.zeroValue4
 t5:=Tryz.underlying5
 a5:=Tryz.isAgg5
 z5:=Tryz.sizeOf5
 v5:=Tryz.zeroValue5
 t9:=Tryz.underlying9
 a9:=Tryz.isAgg9
 z9:=Tryz.sizeOf9
 v9:=Tryz.zeroValue9
 t20:=Tryz.underlying20
 a20:=Tryz.isAgg20
 z20:=Tryz.sizeOf20
 v20:=Tryz.zeroValue20
 t37:=Tryz.underlying62
 a37:=Tryz.isAgg62
 z37:=Tryz.sizeOf62
 v37:=Tryz.zeroValue62
 t46:=Tryz.underlying214
 a46:=Tryz.isAgg214
 z46:=Tryz.sizeOf214
 v46:=Tryz.zeroValue214
 t51:=Tryz.underlying329
 a51:=Tryz.isAgg329
 z51:=Tryz.sizeOf329
 v51:=Tryz.zeroValue329
 t53:=Tryz.underlying331
 a53:=Tryz.isAgg331
 z53:=Tryz.sizeOf331
 v53:=Tryz.zeroValue331
 t171:=Tryz.underlying352
 a171:=Tryz.isAgg352
 z171:=Tryz.sizeOf352
 v171:=Tryz.zeroValue352
 t173:=Tryz.underlying354
 a173:=Tryz.isAgg354
 z173:=Tryz.sizeOf354
 v173:=Tryz.zeroValue354
 t212:=Tryz.underlying367
 a212:=Tryz.isAgg367
 z212:=Tryz.sizeOf367
 v212:=Tryz.zeroValue367
 t213:=Tryz.underlying368
 a213:=Tryz.isAgg368
 z213:=Tryz.sizeOf368
 t232:=Tryz.underlying374
 a232:=Tryz.isAgg374
 z232:=Tryz.sizeOf374
 v232:=Tryz.zeroValue374
 t233:=Tryz.underlying375
 a233:=Tryz.isAgg375
 z233:=Tryz.sizeOf375
 v233:=Tryz.zeroValue375
 g17:=by kernel_rfl
 g18:=by kernel_rfl
 g19:=by kernel_rfl
 i0:=by kernel_rfl
 i2:=by kernel_rfl
 i3:=by kernel_rfl
 i4:=by kernel_rfl
 i5:=by kernel_rfl
 i9:=by kernel_rfl
 i20:=by kernel_rfl
 i37:=by kernel_rfl
 i46:=by kernel_rfl
 i51:=by kernel_rfl
 i53:=by kernel_rfl
 i171:=by kernel_rfl
 i173:=by kernel_rfl
 i212:=by kernel_rfl
 i232:=by kernel_rfl
 i233:=by kernel_rfl
 m17:=by kernel_rfl
 m18:=by kernel_rfl
 m19:=by kernel_rfl
def laysAtoi_ren:Go.Shelf.Ren:=⟨fun|172=>172|244=>205|245=>206|247=>272|279=>273|280=>274|281=>275|282=>276|287=>339|316=>340|171=>182|205=>341|321=>366|322=>367|243=>233|246=>304|283=>349|284=>350|285=>351|286=>352|129=>315|317=>369|318=>370|319=>371|320=>372|337=>379|338=>380|n=>n,fun|9=>9|3=>3|75=>197|76=>198|4=>4|5=>5|167=>296|37=>62|0=>0|85=>297|2=>2|168=>299|53=>331|175=>342|46=>214|210=>345|127=>228|145=>365|143=>363|21=>21|171=>352|173=>354|212=>367|51=>329|20=>20|213=>368|232=>374|233=>375|80=>202|n=>n,fun|15=>4|16=>5|17=>6|18=>7|19=>8|n=>n⟩
theorem laysAtoi:Go.Proofs.LaysC.n172 Tryz.prog laysAtoi_ren where
 mixed:=by kernel_rfl
 f129:=Tryz.func315.trans (congrArg some (by kernel_rfl))
 f171:=Tryz.func182.trans (congrArg some (by kernel_rfl))
 f172:=Tryz.func172.trans (congrArg some (by kernel_rfl))
 f205:=Tryz.func341.trans (congrArg some (by kernel_rfl))
 f243:=Tryz.func233.trans (congrArg some (by kernel_rfl))
 f244:=Tryz.func205.trans (congrArg some (by kernel_rfl))
 f245:=Tryz.func206.trans (congrArg some (by kernel_rfl))
 f246:=Tryz.func304.trans (congrArg some (by kernel_rfl))
 f247:=Tryz.func272.trans (congrArg some (by kernel_rfl))
 f279:=Tryz.func273.trans (congrArg some (by kernel_rfl))
 f280:=Tryz.func274.trans (congrArg some (by kernel_rfl))
 f281:=Tryz.func275.trans (congrArg some (by kernel_rfl))
 f282:=Tryz.func276.trans (congrArg some (by kernel_rfl))
 f283:=Tryz.func349.trans (congrArg some (by kernel_rfl))
 f284:=Tryz.func350.trans (congrArg some (by kernel_rfl))
 f285:=Tryz.func351.trans (congrArg some (by kernel_rfl))
 f286:=Tryz.func352.trans (congrArg some (by kernel_rfl))
 f287:=Tryz.func339.trans (congrArg some (by kernel_rfl))
 f316:=Tryz.func340.trans (congrArg some (by kernel_rfl))
 f317:=Tryz.func369.trans (congrArg some (by kernel_rfl))
 f318:=Tryz.func370.trans (congrArg some (by kernel_rfl))
 f319:=Tryz.func371.trans (congrArg some (by kernel_rfl))
 f320:=Tryz.func372.trans (congrArg some (by kernel_rfl))
 f321:=Tryz.func366.trans (congrArg some (by kernel_rfl))
 f322:=Tryz.func367.trans (congrArg some (by kernel_rfl))
 f337:=Tryz.func379.trans (congrArg some (by kernel_rfl))
 f338:=Tryz.func380.trans (congrArg some (by kernel_rfl))
 t0:=Tryz.underlying0
 a0:=Tryz.isAgg0
 z0:=Tryz.sizeOf0
 v0:=Tryz.zeroValue0
 t2:=Tryz.underlying2
 a2:=Tryz.isAgg2
 z2:=Tryz.sizeOf2
 v2:=Tryz.zeroValue2
 t3:=Tryz.underlying3
 a3:=Tryz.isAgg3
 z3:=Tryz.sizeOf3
 v3:=Tryz.zeroValue3
 t4:=Tryz.underlying4
 a4:=Tryz.isAgg4
 z4:=Tryz.sizeOf4
 v4:=Tryz.zeroValue4
 t5:=Tryz.underlying5
 a5:=Tryz.isAgg5
 z5:=Tryz.sizeOf5
 v5:=Tryz.zeroValue5
 t9:=Tryz.underlying9
 a9:=Tryz.isAgg9
 z9:=Tryz.sizeOf9
 v9:=Tryz.zeroValue9
 t20:=Tryz.underlying20
 a20:=Tryz.isAgg20
 z20:=Tryz.sizeOf20
 v20:=Tryz.zeroValue20
 t21:=Tryz.underlying21
 a21:=Tryz.isAgg21
 z21:=Tryz.sizeOf21
 v21:=Tryz.zeroValue21
 t37:=Tryz.underlying62
 a37:=Tryz.isAgg62
 z37:=Tryz.sizeOf62
 v37:=Tryz.zeroValue62
 t46:=Tryz.underlying214
 a46:=Tryz.isAgg214
 z46:=Tryz.sizeOf214
 v46:=Tryz.zeroValue214
 t51:=Tryz.underlying329
 a51:=Tryz.isAgg329
 z51:=Tryz.sizeOf329
 v51:=Tryz.zeroValue329
 t53:=Tryz.underlying331
 a53:=Tryz.isAgg331
 z53:=Tryz.sizeOf331
 v53:=Tryz.zeroValue331
 t75:=Tryz.underlying197
 a75:=Tryz.isAgg197
 z75:=Tryz.sizeOf197
 v75:=Tryz.zeroValue197
 t76:=Tryz.underlying198
 a76:=Tryz.isAgg198
 z76:=Tryz.sizeOf198
 v76:=Tryz.zeroValue198
 t85:=Tryz.underlying297
 a85:=Tryz.isAgg297
 z85:=Tryz.sizeOf297
 v85:=Tryz.zeroValue297
 t127:=Tryz.underlying228
 a127:=Tryz.isAgg228
 z127:=Tryz.sizeOf228
 v127:=Tryz.zeroValue228
 t143:=Tryz.underlying363
 a143:=Tryz.isAgg363
 z143:=Tryz.sizeOf363
 v143:=Tryz.zeroValue363
 t145:=Tryz.underlying365
 a145:=Tryz.isAgg365
 z145:=Tryz.sizeOf365
 v145:=Tryz.zeroValue365
 t167:=Tryz.underlying296
 a167:=Tryz.isAgg296
 z167:=Tryz.sizeOf296
 v167:=Tryz.zeroValue296
 t168:=Tryz.underlying299
 a168:=Tryz.isAgg299
 z168:=Tryz.sizeOf299
 v168:=Tryz.zeroValue299
 t171:=Tryz.underlying352
 a171:=Tryz.isAgg352
 z171:=Tryz.sizeOf352
 v171:=Tryz.zeroValue352
 t173:=Tryz.underlying354
 a173:=Tryz.isAgg354
 z173:=Tryz.sizeOf354
 v173:=Tryz.zeroValue354
 t175:=Tryz.underlying342
 a175:=Tryz.isAgg342
 z175:=Tryz.sizeOf342
 v175:=Tryz.zeroValue342
 t210:=Tryz.underlying345
 a210:=Tryz.isAgg345
 z210:=Tryz.sizeOf345
 v210:=Tryz.zeroValue345
 t212:=Tryz.underlying367
 a212:=Tryz.isAgg367
 z212:=Tryz.sizeOf367
 v212:=Tryz.zeroValue367
 t213:=Tryz.underlying368
 a213:=Tryz.isAgg368
 z213:=Tryz.sizeOf368
 t232:=Tryz.underlying374
 a232:=Tryz.isAgg374
 z232:=Tryz.sizeOf374
 v232:=Tryz.zeroValue374
 t233:=Tryz.underlying375
 a233:=Tryz.isAgg375
 z233:=Tryz.sizeOf375
 v233:=Tryz.zeroValue375
 g15:=by kernel_rfl
 g16:=by kernel_rfl
 g17:=by kernel_rfl
 g18:=by kernel_rfl
 g19:=by kernel_rfl
 t80:=Tryz.underlying202
 a80:=Tryz.isAgg202
 z80:=Tryz.sizeOf202
 v80:=Tryz.zeroValue202
 i0:=by kernel_rfl
 i2:=by kernel_rfl
 i3:=by kernel_rfl
 i4:=by kernel_rfl
 i5:=by kernel_rfl
 i9:=by kernel_rfl
 i20:=by kernel_rfl
 i21:=by kernel_rfl
 i37:=by kernel_rfl
 i46:=by kernel_rfl
 i51:=by kernel_rfl
 i53:=by kernel_rfl
 i75:=by kernel_rfl
 i76:=by kernel_rfl
 i80:=by kernel_rfl
 i85:=by kernel_rfl
 i127:=by kernel_rfl
 i143:=by kernel_rfl
 i145:=by kernel_rfl
 i167:=by kernel_rfl
 i168:=by kernel_rfl
 i171:=by kernel_rfl
 i173:=by kernel_rfl
 i175:=by kernel_rfl
 i210:=by kernel_rfl
 i212:=by kernel_rfl
 i232:=by kernel_rfl
 i233:=by kernel_rfl
 m15:=by kernel_rfl
 m16:=by kernel_rfl
 m17:=by kernel_rfl
 m18:=by kernel_rfl
 m19:=by kernel_rfl
 c0:=by kernel_rfl
 c2:=by kernel_rfl
 c3:=by kernel_rfl
 c4:=by kernel_rfl
 c5:=by kernel_rfl
 c9:=by kernel_rfl
 c20:=by kernel_rfl
 c21:=by kernel_rfl
 c37:=by kernel_rfl
 c46:=by kernel_rfl
 c51:=by kernel_rfl
 c53:=by kernel_rfl
 c75:=by kernel_rfl
 c76:=by kernel_rfl
 c80:=by kernel_rfl
 c85:=by kernel_rfl
 c127:=by kernel_rfl
 c143:=by kernel_rfl
 c145:=by kernel_rfl
 c167:=by kernel_rfl
 c168:=by kernel_rfl
 c171:=by kernel_rfl
 c173:=by kernel_rfl
 c175:=by kernel_rfl
 c210:=by kernel_rfl
 c212:=by kernel_rfl
 c213:=by kernel_rfl
 c232:=by kernel_rfl
 c233:=by kernel_rfl
def laysHex_ren:Go.Shelf.Ren:=⟨fun|39=>175|41=>210|40=>211|n=>n,fun|30=>62|9=>9|3=>3|0=>0|5=>5|46=>214|n=>n,fun|n=>n⟩
theorem laysHex:Go.Proofs.Lays.ph39 Tryz.prog laysHex_ren where
 mixed:=by kernel_rfl
 f39:=Tryz.func175.trans (congrArg some (by kernel_rfl))
 f40:=Tryz.func211.trans (congrArg some (by kernel_rfl))
 f41:=Tryz.func210.trans (congrArg some (by kernel_rfl))
 t0:=Tryz.underlying0
 a0:=Tryz.isAgg0
 z0:=Tryz.sizeOf0
 v0:=Tryz.zeroValue0
 t3:=Tryz.underlying3
 a3:=Tryz.isAgg3
 z3:=Tryz.sizeOf3
 v3:=Tryz.zeroValue3
 t5:=Tryz.underlying5
 a5:=Tryz.isAgg5
 z5:=Tryz.sizeOf5
 v5:=Tryz.zeroValue5
 t9:=Tryz.underlying9
 a9:=Tryz.isAgg9
 z9:=Tryz.sizeOf9
 v9:=Tryz.zeroValue9
 t30:=Tryz.underlying62
 a30:=Tryz.isAgg62
 z30:=Tryz.sizeOf62
 v30:=Tryz.zeroValue62
 t46:=Tryz.underlying214
 a46:=Tryz.isAgg214
 z46:=Tryz.sizeOf214
 v46:=Tryz.zeroValue214
 info5:=by kernel_rfl
def laysUnhex_ren:Go.Shelf.Ren:=⟨fun|43=>174|42=>208|44=>209|n=>n,fun|9=>9|30=>62|35=>197|3=>3|38=>198|4=>4|0=>0|5=>5|47=>302|46=>214|45=>202|n=>n,fun|0=>1|n=>n⟩
theorem laysUnhex:Go.Proofs.Lays.ph43 Tryz.prog laysUnhex_ren where
 mixed:=by kernel_rfl
 f42:=Tryz.func208.trans (congrArg some (by kernel_rfl))
 f43:=Tryz.func174.trans (congrArg some (by kernel_rfl))
 f44:=Tryz.func209.trans (congrArg some (by kernel_rfl))
 t0:=Tryz.underlying0
 a0:=Tryz.isAgg0
 z0:=Tryz.sizeOf0
 v0:=Tryz.zeroValue0
 t3:=Tryz.underlying3
 a3:=Tryz.isAgg3
 z3:=Tryz.sizeOf3
 v3:=Tryz.zeroValue3
 t4:=Tryz.underlying4
 a4:=Tryz.isAgg4
 z4:=Tryz.sizeOf4
 v4:=Tryz.zeroValue4
 t5:=Tryz.underlying5
 a5:=Tryz.isAgg5
 z5:=Tryz.sizeOf5
 v5:=Tryz.zeroValue5
 t9:=Tryz.underlying9
 a9:=Tryz.isAgg9
 z9:=Tryz.sizeOf9
 v9:=Tryz.zeroValue9
 t30:=Tryz.underlying62
 a30:=Tryz.isAgg62
 z30:=Tryz.sizeOf62
 v30:=Tryz.zeroValue62
 t35:=Tryz.underlying197
 a35:=Tryz.isAgg197
 z35:=Tryz.sizeOf197
 v35:=Tryz.zeroValue197
 t38:=Tryz.underlying198
 a38:=Tryz.isAgg198
 z38:=Tryz.sizeOf198
 v38:=Tryz.zeroValue198
 t45:=Tryz.underlying202
 a45:=Tryz.isAgg202
 z45:=Tryz.sizeOf202
 v45:=Tryz.zeroValue202
 t46:=Tryz.underlying214
 a46:=Tryz.isAgg214
 z46:=Tryz.sizeOf214
 v46:=Tryz.zeroValue214
 t47:=Tryz.underlying302
 a47:=Tryz.isAgg302
 z47:=Tryz.sizeOf302
 v47:=Tryz.zeroValue302
 g0:=by kernel_rfl
 info5:=by kernel_rfl
def laysCut_ren:Go.Shelf.Ren:=⟨fun|145=>140|220=>173|219=>207|217=>277|225=>278|224=>279|267=>280|266=>342|314=>343|n=>n,fun|9=>9|4=>4|59=>183|3=>3|5=>5|46=>214|146=>347|51=>329|n=>n,fun|1=>0|n=>n⟩
def laysIndex_ren:Go.Shelf.Ren:=⟨fun|143=>202|219=>207|217=>277|225=>278|224=>279|267=>280|266=>342|314=>343|n=>n,fun|9=>9|3=>3|4=>4|5=>5|46=>214|146=>347|51=>329|n=>n,fun|1=>0|n=>n⟩
theorem laysIndex:Go.Proofs.Lays.n143 Tryz.prog laysIndex_ren where
 mixed:=by kernel_rfl
 f143:=Tryz.func202.trans (congrArg some (by kernel_rfl))
 f217:=Tryz.func277.trans (congrArg some (by kernel_rfl))
 f219:=Tryz.func207.trans (congrArg some (by kernel_rfl))
 f224:=Tryz.func279.trans (congrArg some (by kernel_rfl))
 f225:=Tryz.func278.trans (congrArg some (by kernel_rfl))
 f266:=Tryz.func342.trans (congrArg some (by kernel_rfl))
 f267:=Tryz.func280.trans (congrArg some (by kernel_rfl))
 f314:=Tryz.func343.trans (congrArg some (by kernel_rfl))
 t3:=Tryz.underlying3
 a3:=Tryz.isAgg3
 z3:=Tryz.sizeOf3
 v3:=Tryz.zeroValue3
 t4:=Tryz.underlying4
 a4:=Tryz.isAgg4
 z4:=Tryz.sizeOf4
 v4:=Tryz.zeroValue4
 t5:=Tryz.underlying5
 a5:=Tryz.isAgg5
 z5:=Tryz.sizeOf5
 v5:=Tryz.zeroValue5
 t9:=Tryz.underlying9
 a9:=Tryz.isAgg9
 z9:=Tryz.sizeOf9
 v9:=Tryz.zeroValue9
 t46:=Tryz.underlying214
 a46:=Tryz.isAgg214
 z46:=Tryz.sizeOf214
 v46:=Tryz.zeroValue214
 t51:=Tryz.underlying329
 a51:=Tryz.isAgg329
 z51:=Tryz.sizeOf329
 v51:=Tryz.zeroValue329
 t146:=Tryz.underlying347
 a146:=Tryz.isAgg347
 z146:=Tryz.sizeOf347
 v146:=Tryz.zeroValue347
 g1:=by kernel_rfl
def laysBStr_ren:Go.Shelf.Ren:=⟨fun|169=>154|n=>n,fun|70=>193|9=>9|0=>0|72=>195|37=>62|127=>228|3=>3|5=>5|n=>n,fun|n=>n⟩
theorem laysBStr:Go.Proofs.Lays.n169 Tryz.prog laysBStr_ren where
 mixed:=by kernel_rfl
 f169:=Tryz.func154.trans (congrArg some (by kernel_rfl))
 t0:=Tryz.underlying0
 a0:=Tryz.isAgg0
 z0:=Tryz.sizeOf0
 v0:=Tryz.zeroValue0
 t3:=Tryz.underlying3
 a3:=Tryz.isAgg3
 z3:=Tryz.sizeOf3
 v3:=Tryz.zeroValue3
 t9:=Tryz.underlying9
 a9:=Tryz.isAgg9
 z9:=Tryz.sizeOf9
 v9:=Tryz.zeroValue9
 t37:=Tryz.underlying62
 a37:=Tryz.isAgg62
 z37:=Tryz.sizeOf62
 v37:=Tryz.zeroValue62
 t70:=Tryz.underlying193
 a70:=Tryz.isAgg193
 z70:=Tryz.sizeOf193
 v70:=Tryz.zeroValue193
 t72:=Tryz.underlying195
 a72:=Tryz.isAgg195
 z72:=Tryz.sizeOf195
 v72:=Tryz.zeroValue195
 t127:=Tryz.underlying228
 a127:=Tryz.isAgg228
 z127:=Tryz.sizeOf228
 v127:=Tryz.zeroValue228
def laysBWr_ren:Go.Shelf.Ren:=⟨fun|166=>150|240=>181|276=>232|n=>n,fun|70=>193|9=>9|3=>3|75=>197|0=>0|72=>195|37=>62|4=>4|164=>271|80=>202|5=>5|n=>n,fun|n=>n⟩
theorem laysBWr:Go.Proofs.Lays.n166 Tryz.prog laysBWr_ren where
 mixed:=by kernel_rfl
 f166:=Tryz.func150.trans (congrArg some (by kernel_rfl))
 f240:=Tryz.func181.trans (congrArg some (by kernel_rfl))
 f276:=Tryz.func232.trans (congrArg some (by kernel_rfl))
 t0:=Tryz.underlying0
 a0:=Tryz.isAgg0
 z0:=Tryz.sizeOf0
 v0:=Tryz.zeroValue0
 t3:=Tryz.underlying3
 a3:=Tryz.isAgg3
 z3:=Tryz.sizeOf3
 v3:=Tryz.zeroValue3
 t4:=Tryz.underlying4
 a4:=Tryz.isAgg4
 z4:=Tryz.sizeOf4
 v4:=Tryz.zeroValue4
 t9:=Tryz.underlying9
 a9:=Tryz.isAgg9
 z9:=Tryz.sizeOf9
 v9:=Tryz.zeroValue9
 t20:=Tryz.underlying20
 a20:=Tryz.isAgg20
 z20:=Tryz.sizeOf20
 v20:=Tryz.zeroValue20
 t37:=Tryz.underlying62
 a37:=Tryz.isAgg62
 z37:=Tryz.sizeOf62
 v37:=Tryz.zeroValue62
 t70:=Tryz.underlying193
 a70:=Tryz.isAgg193
 z70:=Tryz.sizeOf193
 v70:=Tryz.zeroValue193
 t72:=Tryz.underlying195
 a72:=Tryz.isAgg195
 z72:=Tryz.sizeOf195
 v72:=Tryz.zeroValue195
 t75:=Tryz.underlying197
 a75:=Tryz.isAgg197
 z75:=Tryz.sizeOf197
 v75:=Tryz.zeroValue197
 t164:=Tryz.underlying271
 a164:=Tryz.isAgg271
 z164:=Tryz.sizeOf271
 v164:=Tryz.zeroValue271
end Go.Proofs.YtipdbeklopjbmaaGreatDoor
