/-
  Walks: calls, answers and marks in the laws' hands.
-/
import Derived.Test.YtipdbeklopjbmaaGreatDoorP04
import Derived.Test.YtipdbeklopjbmaaGreatDoorP05
import Derived.Test.YtipdbeklopjbmaaGreatDoorGenE
set_option linter.unusedVariables false
set_option linter.unusedSimpArgs false
namespace Go.Proofs.YtipdbeklopjbmaaGreatDoor
open Go.ChangeShapes Go.WideShapes Go.ChangeAt Go.RowKit
set_option maxRecDepth 100000
set_option maxHeartbeats 1000000
theorem laws_szCall_c {w:World} {H:Nat→Prop} {a:CallD} {left:Int} (Q4:i64ok a.kind) (Q0:okS a.name) (Q2:okS a.to_) (h_a_a:i64ok a.a) (Q3:i64ok a.b) (Q1:okS a.text) (Q5:i64ok left) (p0:0≤left) (p1:left≤1048576) :
 Calls Tryz.prog 104 #[.agg #[.int .i64 a.kind,.string a.name,.string a.to_,.int .i64 a.a,.int .i64 a.b,.string a.text],.int .i64 left] w fun e w'=>e=.returned (.int .i64 (subOr left (szCallD a)))∧Mv [] w [] w'∧i64ok (subOr left (szCallD a)):=by
 unfold okS at Q0 Q2 Q1
 refine ze fun _ F=>?_
 refine l_op (f_box F (At.nil w) rfl rfl rfl (F.g rfl) rfl rfl fun b1 _ w1 F S1=>?_)
 refine zr fun _ F=>?_
 refine zl F S1.at' 0 fun _ F=>?_
 refine zq F (left - ((a.name.size:Nat):Int)) fun _ F=>?_
 refine zc F ((left - ((a.name.size:Nat):Int)) < 0) fun _ F=>?_
 refine zi F (fun h12=>?_) fun h12=>?_
 ·refine zr fun _ F=>?_
  refine x_done F (results_1 rfl (zta F)) ?_
  exact ⟨(zV1 (zVi (by unfold szCallD;first|exact sz3_a ‹_›|exact sz3_b ‹_›|exact sz3_c ‹_›|exact sz3_d ‹_›))),(Mv.pick S1 [] rfl),subOr_i64 p0 p1⟩
 ·refine zr fun _ F=>?_
  refine zl F S1.at' 0 fun _ F=>?_
  refine zq F ((left - ((a.name.size:Nat):Int)) - ((a.to_.size:Nat):Int)) fun _ F=>?_
  refine zc F (((left - ((a.name.size:Nat):Int)) - ((a.to_.size:Nat):Int)) < 0) fun _ F=>?_
  refine zi F (fun h22=>?_) fun h22=>?_
  ·refine zr fun _ F=>?_
   refine x_done F (results_1 rfl (zta F)) ?_
   exact ⟨(zV1 (zVi (by unfold szCallD;first|exact sz3_a ‹_›|exact sz3_b ‹_›|exact sz3_c ‹_›|exact sz3_d ‹_›))),(Mv.pick S1 [] rfl),subOr_i64 p0 p1⟩
  ·refine zr fun _ F=>?_
   refine zl F S1.at' 0 fun _ F=>?_
   refine zq F (((left - ((a.name.size:Nat):Int)) - ((a.to_.size:Nat):Int)) - ((a.text.size:Nat):Int)) fun _ F=>?_
   refine zc F ((((left - ((a.name.size:Nat):Int)) - ((a.to_.size:Nat):Int)) - ((a.text.size:Nat):Int)) < 0) fun _ F=>?_
   refine zi F (fun h32=>?_) fun h32=>?_
   ·refine zr fun _ F=>?_
    refine x_done F (results_1 rfl (zta F)) ?_
    exact ⟨(zV1 (zVi (by unfold szCallD;first|exact sz3_a ‹_›|exact sz3_b ‹_›|exact sz3_c ‹_›|exact sz3_d ‹_›))),(Mv.pick S1 [] rfl),subOr_i64 p0 p1⟩
   ·refine zr fun _ F=>?_
    refine x_done F (results_1 rfl (zta F)) ?_
    exact ⟨(zV1 (zVi (by unfold szCallD;first|exact sz3_a ‹_›|exact sz3_b ‹_›|exact sz3_c ‹_›|exact sz3_d ‹_›))),(Mv.pick S1 [] rfl),subOr_i64 p0 p1⟩
theorem laws_szAnswer_c {w:World} {H:Nat→Prop} {a:AnsD} {left:Int} (Q1:i64ok a.code) (h_a_n:i64ok a.n) (Q0:okS a.text) (Q2:i64ok left) (p0:0≤left) (p1:left≤1048576) :
 Calls Tryz.prog 105 #[.agg #[.int .i64 a.code,.int .i64 a.n,.string a.text],.int .i64 left] w fun e w'=>e=.returned (.int .i64 (subOr left (szAnsD a)))∧Mv [] w [] w'∧i64ok (subOr left (szAnsD a)):=by
 unfold okS at Q0
 refine ze fun _ F=>?_
 refine l_op (f_box F (At.nil w) rfl rfl rfl (F.g rfl) rfl rfl fun b1 _ w1 F S1=>?_)
 refine zr fun _ F=>?_
 refine zl F S1.at' 0 fun _ F=>?_
 refine zq F (left - ((a.text.size:Nat):Int)) fun _ F=>?_
 refine zc F ((left - ((a.text.size:Nat):Int)) < 0) fun _ F=>?_
 refine zi F (fun h12=>?_) fun h12=>?_
 ·refine zr fun _ F=>?_
  refine x_done F (results_1 rfl (zta F)) ?_
  exact ⟨(zV1 (zVi (by unfold szAnsD;first|exact sz1_a ‹_›|exact sz1_b ‹_›))),(Mv.pick S1 [] rfl),subOr_i64 p0 p1⟩
 ·refine zr fun _ F=>?_
  refine x_done F (results_1 rfl (zta F)) ?_
  exact ⟨(zV1 (zVi (by unfold szAnsD;first|exact sz1_a ‹_›|exact sz1_b ‹_›))),(Mv.pick S1 [] rfl),subOr_i64 p0 p1⟩
theorem laws_szCallS_c {w:World} {H:Nat→Prop} {a:List CallD} {a_a:Option Addr} {a_n a_c:Nat} {left:Int} (v_a:RdA 6 encK okK H w (.slice a_a a_n a_c) a) (Q0:i64ok left) (p0:0≤left) (p1:left≤1048576) :
 Calls Tryz.prog 54 #[.slice a_a a_n a_c,.int .i64 left] w fun e w'=>e=.returned (.int .i64 (subOr left (szCalls a)))∧Mv [] w [] w'∧i64ok (subOr left (szCalls a)):=by
 have V_v_a:=RdA.start v_a zN
 obtain ⟨ln_a,le_a,mx_a,ni_a⟩:=RdA.inv v_a
 refine ze fun _ F=>?_
 refine zq F (left - ((a_n:Nat):Int)) fun _ F=>?_
 refine zc F ((left - ((a_n:Nat):Int)) < 0) fun _ F=>?_
 refine zi F (fun h9=>?_) fun h9=>?_
 ·refine zr fun _ F=>?_
  refine x_done F (results_1 rfl (zta F)) ?_
  exact ⟨(zV1 (zVi (by unfold szCalls;rw [← ln_a];exact sz_neg ‹_›))),(Mv.pick (Mv.refl (At.nil w)) [] rfl),subOr_i64 p0 p1⟩
 ·refine zr fun _ F=>?_
  refine x_lp (fun (k:Nat) aZ wZ=>∃ (lv:Int),Fr 27 [(5,.int .i64 ((k:Nat):Int)),(1,.int .i64 lv),(0,.slice a_a a_n a_c)] aZ∧Mv [] w [] wZ∧(k≤a_n)∧(lv=left - ((a.length+sumOf szCallD (a.take k):Nat):Int))∧(0≤lv)) (fun (k:Nat)=>a_n - k) (0) ?_ ?_
  ·exact ⟨(left - ((a_n:Nat):Int)),F.cut rfl,(Mv.refl (At.nil w)),by omega,by have e:sumOf szCallD (a.take 0)=0:=rfl;rw [e];omega,by omega⟩
  ·rintro k a12 w12 ⟨lv,F,S12,hk_0,hk_1,hk_2⟩
   refine zr fun _ F=>?_
   refine zc F (k < a_n) fun _ F=>?_
   refine zi F (fun h17=>?_) fun h17=>?_
   ·refine zr fun _ F=>?_
    obtain ⟨B20,O20,x1,ad20,hx1,okx1,ln20,cl20⟩:=RdA.at (RdA.mv (Nat.succ_pos _) V_v_a S12) k zIa
    clear ln20
    refine zv F (r_indexAddr (i:=k) ET_42 rfl ((F.ev 18 rfl).trans (by rw [ad20])) (F.g rfl) (by omega) zIa) fun _ F=>?_
    refine zv (v:=.agg #[.int .i64 x1.kind,.string x1.name,.string x1.to_,.int .i64 x1.a,.int .i64 x1.b,.string x1.text]) F (r_load (cs:=[.int .i64 x1.kind,.string x1.name,.string x1.to_,.int .i64 x1.a,.int .i64 x1.b,.string x1.text]) TI_141 rfl (F.g rfl) rfl (fun h=>nomatch h) (elem_sub (f:=0) cl20 [.int .i64 x1.kind,.string x1.name,.string x1.to_,.int .i64 x1.a,.int .i64 x1.b,.string x1.text] rfl)) fun _ F=>?_
    refine zz F (laws_szCall_c (H:=fun _=>True) (a:=x1) (left:=lv) okx1.1 okx1.2.1 okx1.2.2.1 okx1.2.2.2.1 okx1.2.2.2.2.1 okx1.2.2.2.2.2 zI7 zI8 zI8) ?_
    rintro _ w24 ⟨rfl,m24,q24_0⟩
    refine zt fun _ F=>?_
    have S24:=At.frame0 S12.at' m24
    clear m24
    refine zc F ((subOr lv (szCallD x1)) < 0) fun _ F=>?_
    refine zi F (fun h29=>?_) fun h29=>?_
    ·refine zr fun _ F=>?_
     refine x_done F (results_1 rfl (zta F)) ?_
     exact ⟨(zV1 (zVi (by unfold szCalls;exact sz_stop hx1 hk_1 ‹_›))),(Mv.pick (S12.trans S24) [] rfl),subOr_i64 p0 p1⟩
    ·refine zr fun _ F=>?_
     refine zq F ((k+1:Nat):Int) fun _ F=>?_
     exact ⟨k+1,zD,(subOr lv (szCallD x1)),F.cut rfl,((S12.trans S24).pick [] rfl),by omega,(sz_next hx1 hk_1 ‹_›).1,(sz_next hx1 hk_1 ‹_›).2⟩
   ·refine zr fun _ F=>?_
    refine x_done F (results_1 rfl (zta F)) ?_
    exact ⟨(zV1 (zVi (by unfold szCalls;exact sz_done (by omega) hk_1 hk_2))),(Mv.pick S12 [] rfl),subOr_i64 p0 p1⟩
theorem laws_szAnswerS_c {w:World} {H:Nat→Prop} {a:List AnsD} {a_a:Option Addr} {a_n a_c:Nat} {left:Int} (v_a:RdA 3 encR okR H w (.slice a_a a_n a_c) a) (Q0:i64ok left) (p0:0≤left) (p1:left≤1048576) :
 Calls Tryz.prog 55 #[.slice a_a a_n a_c,.int .i64 left] w fun e w'=>e=.returned (.int .i64 (subOr left (szAnss a)))∧Mv [] w [] w'∧i64ok (subOr left (szAnss a)):=by
 have V_v_a:=RdA.start v_a zN
 obtain ⟨ln_a,le_a,mx_a,ni_a⟩:=RdA.inv v_a
 refine ze fun _ F=>?_
 refine zq F (left - ((a_n:Nat):Int)) fun _ F=>?_
 refine zc F ((left - ((a_n:Nat):Int)) < 0) fun _ F=>?_
 refine zi F (fun h9=>?_) fun h9=>?_
 ·refine zr fun _ F=>?_
  refine x_done F (results_1 rfl (zta F)) ?_
  exact ⟨(zV1 (zVi (by unfold szAnss;rw [← ln_a];exact sz_neg ‹_›))),(Mv.pick (Mv.refl (At.nil w)) [] rfl),subOr_i64 p0 p1⟩
 ·refine zr fun _ F=>?_
  refine x_lp (fun (k:Nat) aZ wZ=>∃ (lv:Int),Fr 27 [(5,.int .i64 ((k:Nat):Int)),(1,.int .i64 lv),(0,.slice a_a a_n a_c)] aZ∧Mv [] w [] wZ∧(k≤a_n)∧(lv=left - ((a.length+sumOf szAnsD (a.take k):Nat):Int))∧(0≤lv)) (fun (k:Nat)=>a_n - k) (0) ?_ ?_
  ·exact ⟨(left - ((a_n:Nat):Int)),F.cut rfl,(Mv.refl (At.nil w)),by omega,by have e:sumOf szAnsD (a.take 0)=0:=rfl;rw [e];omega,by omega⟩
  ·rintro k a12 w12 ⟨lv,F,S12,hk_0,hk_1,hk_2⟩
   refine zr fun _ F=>?_
   refine zc F (k < a_n) fun _ F=>?_
   refine zi F (fun h17=>?_) fun h17=>?_
   ·refine zr fun _ F=>?_
    obtain ⟨B20,O20,x1,ad20,hx1,okx1,ln20,cl20⟩:=RdA.at (RdA.mv (Nat.succ_pos _) V_v_a S12) k zIa
    clear ln20
    refine zv F (r_indexAddr (i:=k) ET_43 rfl ((F.ev 18 rfl).trans (by rw [ad20])) (F.g rfl) (by omega) zIa) fun _ F=>?_
    refine zv (v:=.agg #[.int .i64 x1.code,.int .i64 x1.n,.string x1.text]) F (r_load (cs:=[.int .i64 x1.code,.int .i64 x1.n,.string x1.text]) TI_144 rfl (F.g rfl) rfl (fun h=>nomatch h) (elem_sub (f:=0) cl20 [.int .i64 x1.code,.int .i64 x1.n,.string x1.text] rfl)) fun _ F=>?_
    refine zz F (laws_szAnswer_c (H:=fun _=>True) (a:=x1) (left:=lv) okx1.1 okx1.2.1 okx1.2.2 zI7 zI8 zI8) ?_
    rintro _ w24 ⟨rfl,m24,q24_0⟩
    refine zt fun _ F=>?_
    have S24:=At.frame0 S12.at' m24
    clear m24
    refine zc F ((subOr lv (szAnsD x1)) < 0) fun _ F=>?_
    refine zi F (fun h29=>?_) fun h29=>?_
    ·refine zr fun _ F=>?_
     refine x_done F (results_1 rfl (zta F)) ?_
     exact ⟨(zV1 (zVi (by unfold szAnss;exact sz_stop hx1 hk_1 ‹_›))),(Mv.pick (S12.trans S24) [] rfl),subOr_i64 p0 p1⟩
    ·refine zr fun _ F=>?_
     refine zq F ((k+1:Nat):Int) fun _ F=>?_
     exact ⟨k+1,zD,(subOr lv (szAnsD x1)),F.cut rfl,((S12.trans S24).pick [] rfl),by omega,(sz_next hx1 hk_1 ‹_›).1,(sz_next hx1 hk_1 ‹_›).2⟩
   ·refine zr fun _ F=>?_
    refine x_done F (results_1 rfl (zta F)) ?_
    exact ⟨(zV1 (zVi (by unfold szAnss;exact sz_done (by omega) hk_1 hk_2))),(Mv.pick S12 [] rfl),subOr_i64 p0 p1⟩
theorem laws_szIntS_c {w:World} {H:Nat→Prop} {a:List Int} {a_a:Option Addr} {a_n a_c:Nat} {left:Int} (v_a:RdA 1 encI okI H w (.slice a_a a_n a_c) a) (Q0:i64ok left) (p0:0≤left) (p1:left≤1048576) :
 Calls Tryz.prog 57 #[.slice a_a a_n a_c,.int .i64 left] w fun e w'=>e=.returned (.int .i64 (subOr left a.length))∧Mv [] w [] w'∧i64ok (subOr left a.length):=by
 have V_v_a:=RdA.start v_a zN
 obtain ⟨ln_a,le_a,mx_a,ni_a⟩:=RdA.inv v_a
 refine ze fun _ F=>?_
 refine zq F (left - ((a_n:Nat):Int)) fun _ F=>?_
 refine zc F ((left - ((a_n:Nat):Int)) < 0) fun _ F=>?_
 refine zi F (fun h9=>?_) fun h9=>?_
 ·refine zr fun _ F=>?_
  refine x_done F (results_1 rfl (zta F)) ?_
  exact ⟨(zV1 (zVi (by rw [← ln_a];first|exact sz1_a ‹_›|exact sz1_b ‹_›))),(Mv.pick (Mv.refl (At.nil w)) [] rfl),subOr_i64 p0 p1⟩
 ·refine zr fun _ F=>?_
  refine x_done F (results_1 rfl (zta F)) ?_
  exact ⟨(zV1 (zVi (by rw [← ln_a];first|exact sz1_a ‹_›|exact sz1_b ‹_›))),(Mv.pick (Mv.refl (At.nil w)) [] rfl),subOr_i64 p0 p1⟩
theorem laws_toCall_c {w:World} {H:Nat→Prop} {a:CallD} (Q4:i64ok a.kind) (Q0:okS a.name) (Q2:okS a.to_) (h_a_a:i64ok a.a) (Q3:i64ok a.b) (Q1:okS a.text) :
 Calls Tryz.prog 112 #[.agg #[.int .i64 a.kind,.string a.name,.string a.to_,.int .i64 a.a,.int .i64 a.b,.string a.text]] w fun e w'=>e=.returned (.agg #[.int .i64 a.kind,.string a.name,.string a.to_,.int .i64 a.a,.int .i64 a.b,.string a.text])∧Mv [] w [] w'∧okS a.name∧okS a.to_∧okS a.text∧i64ok a.kind∧i64ok a.a∧i64ok a.b:=by
 refine ze fun _ F=>?_
 refine l_op (f_box F (At.nil w) rfl rfl rfl (F.g rfl) rfl rfl fun b1 _ w1 F S1=>?_)
 refine l_op (f_alloc F S1.at' ZI_153 rfl rfl rfl rfl rfl fun b3 _ w3 F S3=>?_)
 refine zr fun _ F=>?_
 refine l_op (f_alloc F S3.at' ZI_153 rfl rfl rfl rfl rfl fun b5 _ w5 F S5=>?_)
 refine zr fun _ F=>?_
 refine zl F S5.at' 2 fun _ F=>?_
 refine l_op (s_store S5.at' 0 TI_3 rfl rfl rfl rfl rfl (F.g rfl) (F.g rfl) rfl rfl rfl rfl rfl fun w10 S10=>?_)
 have T11:Mv _ _ [bx _ [_,_,_,_,_,_] _,bx _ [_,_,_,_,_,_] _,bx _ [_,_,_,_,_,_] _] _:=S10
 refine zr fun _ F=>?_
 refine zl F T11.at' 2 fun _ F=>?_
 refine l_op (s_store T11.at' 0 TI_9 rfl rfl rfl rfl rfl (F.g rfl) (F.g rfl) rfl rfl rfl rfl rfl fun w15 S15=>?_)
 refine zr fun _ F=>?_
 refine zl F S15.at' 2 fun _ F=>?_
 refine l_op (s_store S15.at' 0 TI_9 rfl rfl rfl rfl rfl (F.g rfl) (F.g rfl) rfl rfl rfl rfl rfl fun w19 S19=>?_)
 refine zr fun _ F=>?_
 refine zl F S19.at' 2 fun _ F=>?_
 refine l_op (s_store S19.at' 0 TI_3 rfl rfl rfl rfl rfl (F.g rfl) (F.g rfl) rfl rfl rfl rfl rfl fun w23 S23=>?_)
 refine zr fun _ F=>?_
 refine zl F S23.at' 2 fun _ F=>?_
 refine l_op (s_store S23.at' 0 TI_3 rfl rfl rfl rfl rfl (F.g rfl) (F.g rfl) rfl rfl rfl rfl rfl fun w27 S27=>?_)
 have T28:Mv _ _ [bx _ [_,_,_,_,_,_] _,bx _ [_,_,_,_,_,_] _,bx _ [_,_,_,_,_,_] _] _:=S27
 refine zr fun _ F=>?_
 refine zl F T28.at' 2 fun _ F=>?_
 refine l_op (s_store T28.at' 0 TI_9 rfl rfl rfl rfl rfl (F.g rfl) (F.g rfl) rfl rfl rfl rfl rfl fun w32 S32=>?_)
 refine zr fun _ F=>?_
 refine zw F S32.at' 0 fun _ F=>?_
 refine l_op (s_store S32.at' 1 TI_153 rfl rfl rfl rfl rfl (F.g rfl) (F.g rfl) rfl rfl rfl rfl rfl fun w34 S34=>?_)
 refine zr fun _ F=>?_
 refine x_done F (results_1 rfl (zca F S34.at' 0)) ?_
 exact ⟨rfl,(Mv.pick (S1.trans (S3.trans (S5.trans (T11.trans (S15.trans (S19.trans (S23.trans (T28.trans (S32.trans S34))))))))) [] rfl),Q0,Q2,Q1,zIa,zIa,zIa⟩
theorem laws_toAnswer_c {w:World} {H:Nat→Prop} {a:AnsD} (Q1:i64ok a.code) (h_a_n:i64ok a.n) (Q0:okS a.text) :
 Calls Tryz.prog 113 #[.agg #[.int .i64 a.code,.int .i64 a.n,.string a.text]] w fun e w'=>e=.returned (.agg #[.int .i64 a.code,.int .i64 a.n,.string a.text])∧Mv [] w [] w'∧okS a.text∧i64ok a.code∧i64ok a.n:=by
 refine ze fun _ F=>?_
 refine l_op (f_box F (At.nil w) rfl rfl rfl (F.g rfl) rfl rfl fun b1 _ w1 F S1=>?_)
 refine l_op (f_alloc F S1.at' ZI_155 rfl rfl rfl rfl rfl fun b3 _ w3 F S3=>?_)
 refine zr fun _ F=>?_
 refine l_op (f_alloc F S3.at' ZI_155 rfl rfl rfl rfl rfl fun b5 _ w5 F S5=>?_)
 refine zr fun _ F=>?_
 refine zl F S5.at' 2 fun _ F=>?_
 refine l_op (s_store S5.at' 0 TI_3 rfl rfl rfl rfl rfl (F.g rfl) (F.g rfl) rfl rfl rfl rfl rfl fun w10 S10=>?_)
 have T11:Mv _ _ [bx _ [_,_,_] _,bx _ [_,_,_] _,bx _ [_,_,_] _] _:=S10
 refine zr fun _ F=>?_
 refine zl F T11.at' 2 fun _ F=>?_
 refine l_op (s_store T11.at' 0 TI_3 rfl rfl rfl rfl rfl (F.g rfl) (F.g rfl) rfl rfl rfl rfl rfl fun w15 S15=>?_)
 refine zr fun _ F=>?_
 refine zl F S15.at' 2 fun _ F=>?_
 refine l_op (s_store S15.at' 0 TI_9 rfl rfl rfl rfl rfl (F.g rfl) (F.g rfl) rfl rfl rfl rfl rfl fun w19 S19=>?_)
 refine zr fun _ F=>?_
 refine zw F S19.at' 0 fun _ F=>?_
 refine l_op (s_store S19.at' 1 TI_155 rfl rfl rfl rfl rfl (F.g rfl) (F.g rfl) rfl rfl rfl rfl rfl fun w21 S21=>?_)
 refine zr fun _ F=>?_
 refine x_done F (results_1 rfl (zca F S21.at' 0)) ?_
 exact ⟨rfl,(Mv.pick (S1.trans (S3.trans (S5.trans (T11.trans (S15.trans (S19.trans S21)))))) [] rfl),Q0,zIa,zIa⟩
theorem laws_toCallS_c {w:World} {H:Nat→Prop} {a:List CallD} {a_a:Option Addr} {a_n a_c:Nat} (v_a:RdA 6 encK okK H w (.slice a_a a_n a_c) a) (p0:a.length≤1048576) :
 Calls Tryz.prog 62 #[.slice a_a a_n a_c] w fun e w'=>∃ (r0_a:Option Addr),∃ (r0_n:Nat),∃ (r0_c:Nat),e=.returned (.slice r0_a r0_n r0_c)∧Mv [] w [ow 153 6 encK okK (.slice r0_a r0_n r0_c) a] w':=by
 have V_v_a:=RdA.start v_a zN
 obtain ⟨ln_a,le_a,mx_a,ni_a⟩:=RdA.inv v_a
 refine ze fun _ F=>?_
 refine l_op (f_mk (ok:=okK) (⟨0,bE_,bE_,0,0,bE_⟩:CallD) F (At.nil w) ET_54 rfl rfl rfl rfl (F.g rfl) (F.g rfl) rfl ⟨(show i64ok 0 from by first|assumption|exact ⟨by omega,by omega⟩),(by unfold okS;decide),(by unfold okS;decide),(show i64ok 0 from by first|assumption|exact ⟨by omega,by omega⟩),(show i64ok 0 from by first|assumption|exact ⟨by omega,by omega⟩),(by unfold okS;decide)⟩ (by omega) fun b4 _ w4 F S4=>?_)
 refine zr fun _ F=>?_
 refine x_lp (fun (k:Nat) aZ wZ=>∃ (D:List CallD),∃ (oa:Option Addr),∃ (on:Nat),∃ (oc:Nat),Fr 23 [(4,.int .i64 ((k:Nat):Int)),(3,.slice oa on oc),(0,.slice a_a a_n a_c)] aZ∧Mv [ow 153 6 encK okK (.slice (some ⟨b4,0,none⟩) a_n a_n) (List.replicate a_n (⟨0,bE_,bE_,0,0,bE_⟩:CallD))] w4 [ow 153 6 encK okK (.slice oa on oc) D] wZ∧(k≤a_n)∧(D=copyTo (⟨0,bE_,bE_,0,0,bE_⟩:CallD) k a)∧(on=a_n)) (fun (k:Nat)=>a_n - k) (0) ?_ ?_
 ·exact ⟨List.replicate a_n (⟨0,bE_,bE_,0,0,bE_⟩:CallD),(some ⟨b4,0,none⟩),a_n,a_n,F.cut rfl,(Mv.refl S4.at'),by omega,copyTo_start _ _ ln_a,rfl⟩
 ·rintro k a8 w8 ⟨D,oa,on,oc,F,S8,hk_0,hk_1,hk_2⟩
  refine zr fun _ F=>?_
  refine zc F (k < a_n) fun _ F=>?_
  refine zi F (fun h13=>?_) fun h13=>?_
  ·refine zr fun _ F=>?_
   obtain ⟨B18,O18,x1,ad18,hx1,okx1,ln18,cl18⟩:=RdA.at (RdA.mv (Nat.succ_pos _) V_v_a (S4.trans S8)) k zIa
   clear ln18
   refine zv F (r_indexAddr (i:=k) ET_42 rfl ((F.ev 16 rfl).trans (by rw [ad18])) (F.g rfl) (by omega) zIa) fun _ F=>?_
   refine zv (v:=.agg #[.int .i64 x1.kind,.string x1.name,.string x1.to_,.int .i64 x1.a,.int .i64 x1.b,.string x1.text]) F (r_load (cs:=[.int .i64 x1.kind,.string x1.name,.string x1.to_,.int .i64 x1.a,.int .i64 x1.b,.string x1.text]) TI_141 rfl (F.g rfl) rfl (fun h=>nomatch h) (elem_sub (f:=0) cl18 [.int .i64 x1.kind,.string x1.name,.string x1.to_,.int .i64 x1.a,.int .i64 x1.b,.string x1.text] rfl)) fun _ F=>?_
   refine zz F (laws_toCall_c (H:=fun _=>True) (a:=x1) okx1.1 okx1.2.1 okx1.2.2.1 okx1.2.2.2.1 okx1.2.2.2.2.1 okx1.2.2.2.2.2) ?_
   rintro _ w21 ⟨rfl,m21,Q0,Q2,Q1,q21_0,q21_1,q21_2⟩
   refine zt fun _ F=>?_
   have S21:=At.frame0 S8.at' m21
   clear m21
   obtain ⟨B23,x2,ad23,hx2,okx2,cl23⟩:=At.ownAt S21.at' ET_54.hk 0 rfl k  zIa
   refine zv F (r_indexAddr (i:=k) ET_54 rfl ((F.ev 14 rfl).trans (by rw [ad23])) (F.g rfl) (by omega) zIa) fun _ F=>?_
   refine l_op (s_storeEl S21.at' 0 k x1 ET_54.hk ET_54.h1 TI_153 rfl ad23 rfl rfl rfl rfl (F.g rfl) (F.g rfl) rfl zIa ⟨(show i64ok x1.kind from by first|assumption|exact ⟨by omega,by omega⟩),Q0,Q2,(show i64ok x1.a from by first|assumption|exact ⟨by omega,by omega⟩),(show i64ok x1.b from by first|assumption|exact ⟨by omega,by omega⟩),Q1⟩ fun w25 S25=>?_)
   have T26:Mv _ _ [_] _:=S25
   refine zr fun _ F=>?_
   refine zq F ((k+1:Nat):Int) fun _ F=>?_
   exact ⟨k+1,zD,D.set k x1,oa,on,oc,F.cut rfl,((S8.trans (S21.trans T26)).pick [0] rfl),by omega,by rw [hk_1,copyTo_step hx1],by assumption⟩
  ·refine zr fun _ F=>?_
   refine x_done F (results_1 rfl (zta F)) ?_
   exact ⟨oa,on,oc,rfl,(Mv.cast (Mv.pick (S4.trans S8) [0] rfl) (lc (zOw (by rw [hk_1,copyTo_end (by omega)])) rfl))⟩
theorem laws_toAnswerS_c {w:World} {H:Nat→Prop} {a:List AnsD} {a_a:Option Addr} {a_n a_c:Nat} (v_a:RdA 3 encR okR H w (.slice a_a a_n a_c) a) (p0:a.length≤1048576) :
 Calls Tryz.prog 63 #[.slice a_a a_n a_c] w fun e w'=>∃ (r0_a:Option Addr),∃ (r0_n:Nat),∃ (r0_c:Nat),e=.returned (.slice r0_a r0_n r0_c)∧Mv [] w [ow 155 3 encR okR (.slice r0_a r0_n r0_c) a] w':=by
 have V_v_a:=RdA.start v_a zN
 obtain ⟨ln_a,le_a,mx_a,ni_a⟩:=RdA.inv v_a
 refine ze fun _ F=>?_
 refine l_op (f_mk (ok:=okR) (⟨0,0,bE_⟩:AnsD) F (At.nil w) ET_55 rfl rfl rfl rfl (F.g rfl) (F.g rfl) rfl ⟨(show i64ok 0 from by first|assumption|exact ⟨by omega,by omega⟩),(show i64ok 0 from by first|assumption|exact ⟨by omega,by omega⟩),(by unfold okS;decide)⟩ (by omega) fun b4 _ w4 F S4=>?_)
 refine zr fun _ F=>?_
 refine x_lp (fun (k:Nat) aZ wZ=>∃ (D:List AnsD),∃ (oa:Option Addr),∃ (on:Nat),∃ (oc:Nat),Fr 23 [(4,.int .i64 ((k:Nat):Int)),(3,.slice oa on oc),(0,.slice a_a a_n a_c)] aZ∧Mv [ow 155 3 encR okR (.slice (some ⟨b4,0,none⟩) a_n a_n) (List.replicate a_n (⟨0,0,bE_⟩:AnsD))] w4 [ow 155 3 encR okR (.slice oa on oc) D] wZ∧(k≤a_n)∧(D=copyTo (⟨0,0,bE_⟩:AnsD) k a)∧(on=a_n)) (fun (k:Nat)=>a_n - k) (0) ?_ ?_
 ·exact ⟨List.replicate a_n (⟨0,0,bE_⟩:AnsD),(some ⟨b4,0,none⟩),a_n,a_n,F.cut rfl,(Mv.refl S4.at'),by omega,copyTo_start _ _ ln_a,rfl⟩
 ·rintro k a8 w8 ⟨D,oa,on,oc,F,S8,hk_0,hk_1,hk_2⟩
  refine zr fun _ F=>?_
  refine zc F (k < a_n) fun _ F=>?_
  refine zi F (fun h13=>?_) fun h13=>?_
  ·refine zr fun _ F=>?_
   obtain ⟨B18,O18,x1,ad18,hx1,okx1,ln18,cl18⟩:=RdA.at (RdA.mv (Nat.succ_pos _) V_v_a (S4.trans S8)) k zIa
   clear ln18
   refine zv F (r_indexAddr (i:=k) ET_43 rfl ((F.ev 16 rfl).trans (by rw [ad18])) (F.g rfl) (by omega) zIa) fun _ F=>?_
   refine zv (v:=.agg #[.int .i64 x1.code,.int .i64 x1.n,.string x1.text]) F (r_load (cs:=[.int .i64 x1.code,.int .i64 x1.n,.string x1.text]) TI_144 rfl (F.g rfl) rfl (fun h=>nomatch h) (elem_sub (f:=0) cl18 [.int .i64 x1.code,.int .i64 x1.n,.string x1.text] rfl)) fun _ F=>?_
   refine zz F (laws_toAnswer_c (H:=fun _=>True) (a:=x1) okx1.1 okx1.2.1 okx1.2.2) ?_
   rintro _ w21 ⟨rfl,m21,Q0,q21_0,q21_1⟩
   refine zt fun _ F=>?_
   have S21:=At.frame0 S8.at' m21
   clear m21
   obtain ⟨B23,x2,ad23,hx2,okx2,cl23⟩:=At.ownAt S21.at' ET_55.hk 0 rfl k  zIa
   refine zv F (r_indexAddr (i:=k) ET_55 rfl ((F.ev 14 rfl).trans (by rw [ad23])) (F.g rfl) (by omega) zIa) fun _ F=>?_
   refine l_op (s_storeEl S21.at' 0 k x1 ET_55.hk ET_55.h1 TI_155 rfl ad23 rfl rfl rfl rfl (F.g rfl) (F.g rfl) rfl zIa ⟨(show i64ok x1.code from by first|assumption|exact ⟨by omega,by omega⟩),(show i64ok x1.n from by first|assumption|exact ⟨by omega,by omega⟩),Q0⟩ fun w25 S25=>?_)
   have T26:Mv _ _ [_] _:=S25
   refine zr fun _ F=>?_
   refine zq F ((k+1:Nat):Int) fun _ F=>?_
   exact ⟨k+1,zD,D.set k x1,oa,on,oc,F.cut rfl,((S8.trans (S21.trans T26)).pick [0] rfl),by omega,by rw [hk_1,copyTo_step hx1],by assumption⟩
  ·refine zr fun _ F=>?_
   refine x_done F (results_1 rfl (zta F)) ?_
   exact ⟨oa,on,oc,rfl,(Mv.cast (Mv.pick (S4.trans S8) [0] rfl) (lc (zOw (by rw [hk_1,copyTo_end (by omega)])) rfl))⟩
theorem laws_toIntS_c {w:World} {H:Nat→Prop} {a:List Int} {a_a:Option Addr} {a_n a_c:Nat} (v_a:RdA 1 encI okI H w (.slice a_a a_n a_c) a) (p0:a.length≤1048576) :
 Calls Tryz.prog 65 #[.slice a_a a_n a_c] w fun e w'=>∃ (r0_a:Option Addr),∃ (r0_n:Nat),∃ (r0_c:Nat),e=.returned (.slice r0_a r0_n r0_c)∧Mv [] w [ow 3 1 encI okI (.slice r0_a r0_n r0_c) a] w':=by
 have V_v_a:=RdA.start v_a zN
 obtain ⟨ln_a,le_a,mx_a,ni_a⟩:=RdA.inv v_a
 refine ze fun _ F=>?_
 refine l_op (f_mk (ok:=okI) 0 F (At.nil w) ET_47 rfl rfl rfl rfl (F.g rfl) (F.g rfl) rfl ⟨by omega,by omega⟩ (by omega) fun b4 _ w4 F S4=>?_)
 refine zr fun _ F=>?_
 refine x_lp (fun (k:Nat) aZ wZ=>∃ (D:List Int),∃ (oa:Option Addr),∃ (on:Nat),∃ (oc:Nat),Fr 22 [(4,.int .i64 ((k:Nat):Int)),(3,.slice oa on oc),(0,.slice a_a a_n a_c)] aZ∧Mv [ow 3 1 encI okI (.slice (some ⟨b4,0,none⟩) a_n a_n) (List.replicate a_n 0)] w4 [ow 3 1 encI okI (.slice oa on oc) D] wZ∧(k≤a_n)∧(D=copyTo (0:Int) k a)∧(on=a_n)) (fun (k:Nat)=>a_n - k) (0) ?_ ?_
 ·exact ⟨List.replicate a_n 0,(some ⟨b4,0,none⟩),a_n,a_n,F.cut rfl,(Mv.refl S4.at'),by omega,copyTo_start _ _ ln_a,rfl⟩
 ·rintro k a8 w8 ⟨D,oa,on,oc,F,S8,hk_0,hk_1,hk_2⟩
  refine zr fun _ F=>?_
  refine zc F (k < a_n) fun _ F=>?_
  refine zi F (fun h13=>?_) fun h13=>?_
  ·refine zr fun _ F=>?_
   obtain ⟨B18,O18,x1,ad18,hx1,okx1,ln18,cl18⟩:=RdA.at (RdA.mv (Nat.succ_pos _) V_v_a (S4.trans S8)) k zIa
   clear ln18
   refine zv F (r_indexAddr (i:=k) ET_47 rfl ((F.ev 16 rfl).trans (by rw [ad18])) (F.g rfl) (by omega) zIa) fun _ F=>?_
   refine zv (v:=.int .i64 x1) F (r_load (cs:=[.int .i64 x1]) TI_3 rfl (F.g rfl) rfl (fun _=>rfl) (elem_sub (f:=0) cl18 [.int .i64 x1] rfl)) fun _ F=>?_
   obtain ⟨B21,x2,ad21,hx2,okx2,cl21⟩:=At.ownAt S8.at' ET_47.hk 0 rfl k  zIa
   refine zv F (r_indexAddr (i:=k) ET_47 rfl ((F.ev 14 rfl).trans (by rw [ad21])) (F.g rfl) (by omega) zIa) fun _ F=>?_
   refine l_op (s_storeEl S8.at' 0 k x1 ET_47.hk ET_47.h1 TI_3 rfl ad21 rfl rfl rfl rfl (F.g rfl) (F.g rfl) rfl zIa okx1 fun w23 S23=>?_)
   refine zr fun _ F=>?_
   refine zq F ((k+1:Nat):Int) fun _ F=>?_
   exact ⟨k+1,zD,D.set k x1,oa,on,oc,F.cut rfl,((S8.trans S23).pick [0] rfl),by omega,by rw [hk_1,copyTo_step hx1],by assumption⟩
  ·refine zr fun _ F=>?_
   refine x_done F (results_1 rfl (zta F)) ?_
   exact ⟨oa,on,oc,rfl,(Mv.cast (Mv.pick (S4.trans S8) [0] rfl) (lc (zOw (by rw [hk_1,copyTo_end (by omega)])) rfl))⟩
theorem laws_eqCall_c {w:World} {H:Nat→Prop} {a:CallD} {b:CallD} (Q1:i64ok a.kind) (Q2:okS a.name) (Q4:okS a.to_) (h_a_a:i64ok a.a) (Q0:i64ok a.b) (Q3:okS a.text) (Q6:i64ok b.kind) (Q7:okS b.name) (Q9:okS b.to_) (h_b_a:i64ok b.a) (Q5:i64ok b.b) (Q8:okS b.text) (p0:a=b) :
 Calls Tryz.prog 120 #[.agg #[.int .i64 a.kind,.string a.name,.string a.to_,.int .i64 a.a,.int .i64 a.b,.string a.text],.agg #[.int .i64 b.kind,.string b.name,.string b.to_,.int .i64 b.a,.int .i64 b.b,.string b.text]] w fun e w'=>e=.returned (.bool true)∧Mv [] w [] w':=by
 refine ze fun _ F=>?_
 refine l_op (f_box F (At.nil w) rfl rfl rfl (F.g rfl) rfl rfl fun b1 _ w1 F S1=>?_)
 refine l_op (f_box F S1.at' rfl rfl rfl (F.g rfl) rfl rfl fun b3 _ w3 F S3=>?_)
 refine zr fun _ F=>?_
 refine zl F S3.at' 1 fun _ F=>?_
 refine zl F S3.at' 0 fun _ F=>?_
 refine zc F (a.kind≠b.kind) fun _ F=>?_
 rw [show (decide (a.kind≠b.kind))=false from decide_eq_false (fun h=>h (by rw [p0]))] at F
 refine zr fun _ F=>?_
 refine zl F S3.at' 1 fun _ F=>?_
 refine zl F S3.at' 0 fun _ F=>?_
 refine zv F (r_cmps (b:=(decide (a.name≠b.name))) (.inr (.inl rfl)) rfl (F.g rfl) (F.g rfl) rfl) fun _ F=>?_
 rw [show (decide (a.name≠b.name))=false from decide_eq_false (fun h=>h (by rw [p0]))] at F
 refine zr fun _ F=>?_
 refine zl F S3.at' 1 fun _ F=>?_
 refine zl F S3.at' 0 fun _ F=>?_
 refine zv F (r_cmps (b:=(decide (a.to_≠b.to_))) (.inr (.inl rfl)) rfl (F.g rfl) (F.g rfl) rfl) fun _ F=>?_
 rw [show (decide (a.to_≠b.to_))=false from decide_eq_false (fun h=>h (by rw [p0]))] at F
 refine zr fun _ F=>?_
 refine zl F S3.at' 1 fun _ F=>?_
 refine zl F S3.at' 0 fun _ F=>?_
 refine zc F (a.a≠b.a) fun _ F=>?_
 rw [show (decide (a.a≠b.a))=false from decide_eq_false (fun h=>h (by rw [p0]))] at F
 refine zr fun _ F=>?_
 refine zl F S3.at' 1 fun _ F=>?_
 refine zl F S3.at' 0 fun _ F=>?_
 refine zc F (a.b≠b.b) fun _ F=>?_
 rw [show (decide (a.b≠b.b))=false from decide_eq_false (fun h=>h (by rw [p0]))] at F
 refine zr fun _ F=>?_
 refine zl F S3.at' 1 fun _ F=>?_
 refine zl F S3.at' 0 fun _ F=>?_
 refine zv F (r_cmps (b:=(decide (a.text≠b.text))) (.inr (.inl rfl)) rfl (F.g rfl) (F.g rfl) rfl) fun _ F=>?_
 rw [show (decide (a.text≠b.text))=false from decide_eq_false (fun h=>h (by rw [p0]))] at F
 refine zr fun _ F=>?_
 refine x_done F (results_1 rfl (zta F)) ?_
 exact ⟨rfl,(Mv.pick (S1.trans S3) [] rfl)⟩
theorem laws_eqAnswer_c {w:World} {H:Nat→Prop} {a:AnsD} {b:AnsD} (Q0:i64ok a.code) (h_a_n:i64ok a.n) (Q1:okS a.text) (Q2:i64ok b.code) (h_b_n:i64ok b.n) (Q3:okS b.text) (p0:a=b) :
 Calls Tryz.prog 121 #[.agg #[.int .i64 a.code,.int .i64 a.n,.string a.text],.agg #[.int .i64 b.code,.int .i64 b.n,.string b.text]] w fun e w'=>e=.returned (.bool true)∧Mv [] w [] w':=by
 refine ze fun _ F=>?_
 refine l_op (f_box F (At.nil w) rfl rfl rfl (F.g rfl) rfl rfl fun b1 _ w1 F S1=>?_)
 refine l_op (f_box F S1.at' rfl rfl rfl (F.g rfl) rfl rfl fun b3 _ w3 F S3=>?_)
 refine zr fun _ F=>?_
 refine zl F S3.at' 1 fun _ F=>?_
 refine zl F S3.at' 0 fun _ F=>?_
 refine zc F (a.code≠b.code) fun _ F=>?_
 rw [show (decide (a.code≠b.code))=false from decide_eq_false (fun h=>h (by rw [p0]))] at F
 refine zr fun _ F=>?_
 refine zl F S3.at' 1 fun _ F=>?_
 refine zl F S3.at' 0 fun _ F=>?_
 refine zc F (a.n≠b.n) fun _ F=>?_
 rw [show (decide (a.n≠b.n))=false from decide_eq_false (fun h=>h (by rw [p0]))] at F
 refine zr fun _ F=>?_
 refine zl F S3.at' 1 fun _ F=>?_
 refine zl F S3.at' 0 fun _ F=>?_
 refine zv F (r_cmps (b:=(decide (a.text≠b.text))) (.inr (.inl rfl)) rfl (F.g rfl) (F.g rfl) rfl) fun _ F=>?_
 rw [show (decide (a.text≠b.text))=false from decide_eq_false (fun h=>h (by rw [p0]))] at F
 refine zr fun _ F=>?_
 refine x_done F (results_1 rfl (zta F)) ?_
 exact ⟨rfl,(Mv.pick (S1.trans S3) [] rfl)⟩
theorem laws_eqCallS_c {w:World} {H:Nat→Prop} {a:List CallD} {a_a:Option Addr} {a_n a_c:Nat} {b:List CallD} {b_a:Option Addr} {b_n b_c:Nat} (v_a:Rd 6 encK okK H w (.slice a_a a_n a_c) a) (v_b:Rd 6 encK okK H w (.slice b_a b_n b_c) b) (p0:a=b) :
 Calls Tryz.prog 69 #[.slice a_a a_n a_c,.slice b_a b_n b_c] w fun e w'=>e=.returned (.bool true)∧Mv [] w [] w':=by
 have V_v_a:=Rd.start v_a zN
 obtain ⟨ln_a,le_a,mx_a,ni_a⟩:=Rd.inv v_a
 have V_v_b:=Rd.start v_b zN
 obtain ⟨ln_b,le_b,mx_b,ni_b⟩:=Rd.inv v_b
 refine ze fun _ F=>?_
 have hab:a_n=b_n:=by rw [ln_a,ln_b,p0]
 refine zc F (a_n≠b_n) fun _ F=>?_
 rw [show (decide (a_n≠b_n))=false from decide_eq_false (fun h=>h hab)] at F
 refine zr fun _ F=>?_
 refine x_lp (fun (k:Nat) aZ wZ=>Fr 27 [(5,.int .i64 ((k:Nat):Int)),(0,.slice a_a a_n a_c),(1,.slice b_a b_n b_c)] aZ∧Mv [] w [] wZ∧(k≤a_n)) (fun (k:Nat)=>a_n - k) (0) ?_ ?_
 ·exact ⟨F.cut rfl,(Mv.refl (At.nil w)),by omega⟩
 ·rintro k a8 w8 ⟨F,S8,hk_0⟩
  refine zr fun _ F=>?_
  refine zc F (k < a_n) fun _ F=>?_
  refine zi F (fun h13=>?_) fun h13=>?_
  ·refine zr fun _ F=>?_
   obtain ⟨x1,hx1,okx1⟩:=Rd.elem (Rd.mq V_v_a S8) k zIa
   obtain ⟨x2,hx2,okx2⟩:=Rd.elem (Rd.mq V_v_b S8) k zIa
   refine x_draw (fun aZ wZ=>Fr 27 [(0,.slice a_a a_n a_c),(1,.slice b_a b_n b_c),(5,.int .i64 ((k:Nat):Int)),(26,.bool false)] aZ∧Mv [] w8 [] wZ) [] mixed S8.at' (listed:=#[false,false,false,false,false,false,false,false,false,false]) rfl (fun w15 S15=>?_) [] rfl ?_
   ·refine g_take F rfl (i:=0) (listed':=#[true,false,false,false,false,false,false,false,false,false]) rfl (by kernel_rfl) (by kernel_rfl) (by kernel_rfl) (fun _ _ _ h=>h) (Sd.of (Mv.refl S15.at') [] rfl) rfl rfl rfl rfl (fun _ hz=>(r_move rfl (F.g rfl))) fun _ F=>?_
    refine g_take F rfl (i:=1) (listed':=#[true,true,false,false,false,false,false,false,false,false]) rfl (by kernel_rfl) (by kernel_rfl) (by kernel_rfl) (fun _ _ _ h=>h) (Sd.of (Mv.refl S15.at') [] rfl) rfl rfl rfl rfl (fun _ hz=>(r_move rfl (F.g rfl))) fun _ F=>?_
    obtain ⟨B18,O18,y18,ad18,hy18,oky18,ln18,cl18⟩:=Rd.atK (Nat.succ_pos _) (Rd.mq V_v_a (S8.trans S15)) k zIa
    clear ln18
    obtain rfl:=Option.some.inj (hx1.symm.trans hy18)
    clear hy18 oky18
    refine g_take F rfl (i:=2) (listed':=#[true,true,true,false,false,false,false,false,false,false]) rfl (by kernel_rfl) (by kernel_rfl) (by kernel_rfl) (fun _ _ _ h=>h) (Sd.of (Mv.refl S15.at') [] rfl) rfl rfl rfl rfl (fun _ hz=>(r_indexAddr (i:=k) ET_54 rfl ((F.ev 17 rfl).trans (by rw [ad18])) (F.g rfl) (by omega) zIa)) fun _ F=>?_
    refine g_take (v:=.agg #[.int .i64 x1.kind,.string x1.name,.string x1.to_,.int .i64 x1.a,.int .i64 x1.b,.string x1.text]) F rfl (i:=3) (listed':=#[true,true,true,true,false,false,false,false,false,false]) rfl (by kernel_rfl) (by kernel_rfl) (by kernel_rfl) (fun _ _ _ h=>h) (Sd.of (Mv.refl S15.at') [] rfl) rfl rfl rfl rfl (fun _ hz=>(r_load (cs:=[.int .i64 x1.kind,.string x1.name,.string x1.to_,.int .i64 x1.a,.int .i64 x1.b,.string x1.text]) TI_153 rfl (F.g rfl) rfl (fun h=>nomatch h) (elem_sub (f:=0) (cl18 _ hz.kp) [.int .i64 x1.kind,.string x1.name,.string x1.to_,.int .i64 x1.a,.int .i64 x1.b,.string x1.text] rfl))) fun _ F=>?_
    refine g_take F rfl (i:=4) (listed':=#[true,true,true,true,true,false,false,false,false,false]) rfl (by kernel_rfl) (by kernel_rfl) (by kernel_rfl) (fun _ _ _ h=>h) (Sd.of (Mv.refl S15.at') [] rfl) rfl rfl rfl rfl (fun _ hz=>(r_move rfl (F.g rfl))) fun _ F=>?_
    refine g_take F rfl (i:=5) (listed':=#[true,true,true,true,true,true,false,false,false,false]) rfl (by kernel_rfl) (by kernel_rfl) (by kernel_rfl) (fun _ _ _ h=>h) (Sd.of (Mv.refl S15.at') [] rfl) rfl rfl rfl rfl (fun _ hz=>(r_move rfl (F.g rfl))) fun _ F=>?_
    obtain ⟨B23,O23,y23,ad23,hy23,oky23,ln23,cl23⟩:=Rd.atK (Nat.succ_pos _) (Rd.mq V_v_b (S8.trans S15)) k zIa
    clear ln23
    obtain rfl:=Option.some.inj (hx2.symm.trans hy23)
    clear hy23 oky23
    refine g_take F rfl (i:=6) (listed':=#[true,true,true,true,true,true,true,false,false,false]) rfl (by kernel_rfl) (by kernel_rfl) (by kernel_rfl) (fun _ _ _ h=>h) (Sd.of (Mv.refl S15.at') [] rfl) rfl rfl rfl rfl (fun _ hz=>(r_indexAddr (i:=k) ET_54 rfl ((F.ev 21 rfl).trans (by rw [ad23])) (F.g rfl) (by omega) zIa)) fun _ F=>?_
    refine g_take (v:=.agg #[.int .i64 x2.kind,.string x2.name,.string x2.to_,.int .i64 x2.a,.int .i64 x2.b,.string x2.text]) F rfl (i:=7) (listed':=#[true,true,true,true,true,true,true,true,false,false]) rfl (by kernel_rfl) (by kernel_rfl) (by kernel_rfl) (fun _ _ _ h=>h) (Sd.of (Mv.refl S15.at') [] rfl) rfl rfl rfl rfl (fun _ hz=>(r_load (cs:=[.int .i64 x2.kind,.string x2.name,.string x2.to_,.int .i64 x2.a,.int .i64 x2.b,.string x2.text]) TI_153 rfl (F.g rfl) rfl (fun h=>nomatch h) (elem_sub (f:=0) (cl23 _ hz.kp) [.int .i64 x2.kind,.string x2.name,.string x2.to_,.int .i64 x2.a,.int .i64 x2.b,.string x2.text] rfl))) fun _ F=>?_
    refine d_one (i:=8) (listed':=#[true,true,true,true,true,true,true,true,true,false]) rfl (by kernel_rfl) rfl rfl ?_
    refine f_call F CF_120 rfl rfl rfl rfl (lc (F.g rfl) (lc (F.g rfl) rfl)) (laws_eqCall_c (H:=fun _=>True) (a:=x1) (b:=x2) okx1.1 okx1.2.1 okx1.2.2.1 okx1.2.2.2.1 okx1.2.2.2.2.1 okx1.2.2.2.2.2 okx2.1 okx2.2.1 okx2.2.2.1 okx2.2.2.2.1 okx2.2.2.2.2.1 okx2.2.2.2.2.2 (by exact el_eq p0 hx1 hx2)) ?_
    rintro _ w26 ⟨rfl,m26⟩
    refine ⟨_,rfl,fun _ F=>?_⟩
    have S26:=At.frame0 S15.at' m26
    clear m26
    refine ⟨Sd.of S26 [] rfl,?_⟩
    refine g_take F rfl (i:=9) (listed':=#[true,true,true,true,true,true,true,true,true,true]) rfl (by kernel_rfl) (by kernel_rfl) (by kernel_rfl) (fun _ _ _ h=>h) (Sd.of S26 [] rfl) rfl rfl rfl rfl (fun _ hz=>(r_not rfl (F.g rfl))) fun _ F=>?_
    refine wpAnyH_done (by kernel_rfl) (x_normal ?_) _
    exact ⟨F.cut rfl,((S15.trans S26).pick [] rfl)⟩
   ·rintro a29 w29 ⟨F,S29⟩
    refine zr fun _ F=>?_
    refine zq F ((k+1:Nat):Int) fun _ F=>?_
    exact ⟨k+1,zD,F.cut rfl,((S8.trans S29).pick [] rfl),by omega⟩
  ·refine zr fun _ F=>?_
   refine x_done F (results_1 rfl (zta F)) ?_
   exact ⟨rfl,(Mv.pick S8 [] rfl)⟩
theorem laws_eqAnswerS_c {w:World} {H:Nat→Prop} {a:List AnsD} {a_a:Option Addr} {a_n a_c:Nat} {b:List AnsD} {b_a:Option Addr} {b_n b_c:Nat} (v_a:Rd 3 encR okR H w (.slice a_a a_n a_c) a) (v_b:Rd 3 encR okR H w (.slice b_a b_n b_c) b) (p0:a=b) :
 Calls Tryz.prog 70 #[.slice a_a a_n a_c,.slice b_a b_n b_c] w fun e w'=>e=.returned (.bool true)∧Mv [] w [] w':=by
 have V_v_a:=Rd.start v_a zN
 obtain ⟨ln_a,le_a,mx_a,ni_a⟩:=Rd.inv v_a
 have V_v_b:=Rd.start v_b zN
 obtain ⟨ln_b,le_b,mx_b,ni_b⟩:=Rd.inv v_b
 refine ze fun _ F=>?_
 have hab:a_n=b_n:=by rw [ln_a,ln_b,p0]
 refine zc F (a_n≠b_n) fun _ F=>?_
 rw [show (decide (a_n≠b_n))=false from decide_eq_false (fun h=>h hab)] at F
 refine zr fun _ F=>?_
 refine x_lp (fun (k:Nat) aZ wZ=>Fr 27 [(5,.int .i64 ((k:Nat):Int)),(0,.slice a_a a_n a_c),(1,.slice b_a b_n b_c)] aZ∧Mv [] w [] wZ∧(k≤a_n)) (fun (k:Nat)=>a_n - k) (0) ?_ ?_
 ·exact ⟨F.cut rfl,(Mv.refl (At.nil w)),by omega⟩
 ·rintro k a8 w8 ⟨F,S8,hk_0⟩
  refine zr fun _ F=>?_
  refine zc F (k < a_n) fun _ F=>?_
  refine zi F (fun h13=>?_) fun h13=>?_
  ·refine zr fun _ F=>?_
   obtain ⟨x1,hx1,okx1⟩:=Rd.elem (Rd.mq V_v_a S8) k zIa
   obtain ⟨x2,hx2,okx2⟩:=Rd.elem (Rd.mq V_v_b S8) k zIa
   refine x_draw (fun aZ wZ=>Fr 27 [(0,.slice a_a a_n a_c),(1,.slice b_a b_n b_c),(5,.int .i64 ((k:Nat):Int)),(26,.bool false)] aZ∧Mv [] w8 [] wZ) [] mixed S8.at' (listed:=#[false,false,false,false,false,false,false,false,false,false]) rfl (fun w15 S15=>?_) [] rfl ?_
   ·refine g_take F rfl (i:=0) (listed':=#[true,false,false,false,false,false,false,false,false,false]) rfl (by kernel_rfl) (by kernel_rfl) (by kernel_rfl) (fun _ _ _ h=>h) (Sd.of (Mv.refl S15.at') [] rfl) rfl rfl rfl rfl (fun _ hz=>(r_move rfl (F.g rfl))) fun _ F=>?_
    refine g_take F rfl (i:=1) (listed':=#[true,true,false,false,false,false,false,false,false,false]) rfl (by kernel_rfl) (by kernel_rfl) (by kernel_rfl) (fun _ _ _ h=>h) (Sd.of (Mv.refl S15.at') [] rfl) rfl rfl rfl rfl (fun _ hz=>(r_move rfl (F.g rfl))) fun _ F=>?_
    obtain ⟨B18,O18,y18,ad18,hy18,oky18,ln18,cl18⟩:=Rd.atK (Nat.succ_pos _) (Rd.mq V_v_a (S8.trans S15)) k zIa
    clear ln18
    obtain rfl:=Option.some.inj (hx1.symm.trans hy18)
    clear hy18 oky18
    refine g_take F rfl (i:=2) (listed':=#[true,true,true,false,false,false,false,false,false,false]) rfl (by kernel_rfl) (by kernel_rfl) (by kernel_rfl) (fun _ _ _ h=>h) (Sd.of (Mv.refl S15.at') [] rfl) rfl rfl rfl rfl (fun _ hz=>(r_indexAddr (i:=k) ET_55 rfl ((F.ev 17 rfl).trans (by rw [ad18])) (F.g rfl) (by omega) zIa)) fun _ F=>?_
    refine g_take (v:=.agg #[.int .i64 x1.code,.int .i64 x1.n,.string x1.text]) F rfl (i:=3) (listed':=#[true,true,true,true,false,false,false,false,false,false]) rfl (by kernel_rfl) (by kernel_rfl) (by kernel_rfl) (fun _ _ _ h=>h) (Sd.of (Mv.refl S15.at') [] rfl) rfl rfl rfl rfl (fun _ hz=>(r_load (cs:=[.int .i64 x1.code,.int .i64 x1.n,.string x1.text]) TI_155 rfl (F.g rfl) rfl (fun h=>nomatch h) (elem_sub (f:=0) (cl18 _ hz.kp) [.int .i64 x1.code,.int .i64 x1.n,.string x1.text] rfl))) fun _ F=>?_
    refine g_take F rfl (i:=4) (listed':=#[true,true,true,true,true,false,false,false,false,false]) rfl (by kernel_rfl) (by kernel_rfl) (by kernel_rfl) (fun _ _ _ h=>h) (Sd.of (Mv.refl S15.at') [] rfl) rfl rfl rfl rfl (fun _ hz=>(r_move rfl (F.g rfl))) fun _ F=>?_
    refine g_take F rfl (i:=5) (listed':=#[true,true,true,true,true,true,false,false,false,false]) rfl (by kernel_rfl) (by kernel_rfl) (by kernel_rfl) (fun _ _ _ h=>h) (Sd.of (Mv.refl S15.at') [] rfl) rfl rfl rfl rfl (fun _ hz=>(r_move rfl (F.g rfl))) fun _ F=>?_
    obtain ⟨B23,O23,y23,ad23,hy23,oky23,ln23,cl23⟩:=Rd.atK (Nat.succ_pos _) (Rd.mq V_v_b (S8.trans S15)) k zIa
    clear ln23
    obtain rfl:=Option.some.inj (hx2.symm.trans hy23)
    clear hy23 oky23
    refine g_take F rfl (i:=6) (listed':=#[true,true,true,true,true,true,true,false,false,false]) rfl (by kernel_rfl) (by kernel_rfl) (by kernel_rfl) (fun _ _ _ h=>h) (Sd.of (Mv.refl S15.at') [] rfl) rfl rfl rfl rfl (fun _ hz=>(r_indexAddr (i:=k) ET_55 rfl ((F.ev 21 rfl).trans (by rw [ad23])) (F.g rfl) (by omega) zIa)) fun _ F=>?_
    refine g_take (v:=.agg #[.int .i64 x2.code,.int .i64 x2.n,.string x2.text]) F rfl (i:=7) (listed':=#[true,true,true,true,true,true,true,true,false,false]) rfl (by kernel_rfl) (by kernel_rfl) (by kernel_rfl) (fun _ _ _ h=>h) (Sd.of (Mv.refl S15.at') [] rfl) rfl rfl rfl rfl (fun _ hz=>(r_load (cs:=[.int .i64 x2.code,.int .i64 x2.n,.string x2.text]) TI_155 rfl (F.g rfl) rfl (fun h=>nomatch h) (elem_sub (f:=0) (cl23 _ hz.kp) [.int .i64 x2.code,.int .i64 x2.n,.string x2.text] rfl))) fun _ F=>?_
    refine d_one (i:=8) (listed':=#[true,true,true,true,true,true,true,true,true,false]) rfl (by kernel_rfl) rfl rfl ?_
    refine f_call F CF_121 rfl rfl rfl rfl (lc (F.g rfl) (lc (F.g rfl) rfl)) (laws_eqAnswer_c (H:=fun _=>True) (a:=x1) (b:=x2) okx1.1 okx1.2.1 okx1.2.2 okx2.1 okx2.2.1 okx2.2.2 (by exact el_eq p0 hx1 hx2)) ?_
    rintro _ w26 ⟨rfl,m26⟩
    refine ⟨_,rfl,fun _ F=>?_⟩
    have S26:=At.frame0 S15.at' m26
    clear m26
    refine ⟨Sd.of S26 [] rfl,?_⟩
    refine g_take F rfl (i:=9) (listed':=#[true,true,true,true,true,true,true,true,true,true]) rfl (by kernel_rfl) (by kernel_rfl) (by kernel_rfl) (fun _ _ _ h=>h) (Sd.of S26 [] rfl) rfl rfl rfl rfl (fun _ hz=>(r_not rfl (F.g rfl))) fun _ F=>?_
    refine wpAnyH_done (by kernel_rfl) (x_normal ?_) _
    exact ⟨F.cut rfl,((S15.trans S26).pick [] rfl)⟩
   ·rintro a29 w29 ⟨F,S29⟩
    refine zr fun _ F=>?_
    refine zq F ((k+1:Nat):Int) fun _ F=>?_
    exact ⟨k+1,zD,F.cut rfl,((S8.trans S29).pick [] rfl),by omega⟩
  ·refine zr fun _ F=>?_
   refine x_done F (results_1 rfl (zta F)) ?_
   exact ⟨rfl,(Mv.pick S8 [] rfl)⟩
theorem laws_eqIntS_c {w:World} {H:Nat→Prop} {a:List Int} {a_a:Option Addr} {a_n a_c:Nat} {b:List Int} {b_a:Option Addr} {b_n b_c:Nat} (v_a:Rd 1 encI okI H w (.slice a_a a_n a_c) a) (v_b:Rd 1 encI okI H w (.slice b_a b_n b_c) b) (p0:a=b) :
 Calls Tryz.prog 72 #[.slice a_a a_n a_c,.slice b_a b_n b_c] w fun e w'=>e=.returned (.bool true)∧Mv [] w [] w':=by
 have V_v_a:=Rd.start v_a zN
 obtain ⟨ln_a,le_a,mx_a,ni_a⟩:=Rd.inv v_a
 have V_v_b:=Rd.start v_b zN
 obtain ⟨ln_b,le_b,mx_b,ni_b⟩:=Rd.inv v_b
 refine ze fun _ F=>?_
 have hab:a_n=b_n:=by rw [ln_a,ln_b,p0]
 refine zc F (a_n≠b_n) fun _ F=>?_
 rw [show (decide (a_n≠b_n))=false from decide_eq_false (fun h=>h hab)] at F
 refine zr fun _ F=>?_
 refine x_lp (fun (k:Nat) aZ wZ=>Fr 26 [(5,.int .i64 ((k:Nat):Int)),(0,.slice a_a a_n a_c),(1,.slice b_a b_n b_c)] aZ∧Mv [] w [] wZ∧(k≤a_n)) (fun (k:Nat)=>a_n - k) (0) ?_ ?_
 ·exact ⟨F.cut rfl,(Mv.refl (At.nil w)),by omega⟩
 ·rintro k a8 w8 ⟨F,S8,hk_0⟩
  refine zr fun _ F=>?_
  refine zc F (k < a_n) fun _ F=>?_
  refine zi F (fun h13=>?_) fun h13=>?_
  ·refine zr fun _ F=>?_
   obtain ⟨x1,hx1,okx1⟩:=Rd.elem (Rd.mq V_v_a S8) k zIa
   obtain ⟨x2,hx2,okx2⟩:=Rd.elem (Rd.mq V_v_b S8) k zIa
   refine x_draw (fun aZ wZ=>Fr 26 [(0,.slice a_a a_n a_c),(1,.slice b_a b_n b_c),(5,.int .i64 ((k:Nat):Int)),(25,.bool false)] aZ∧Mv [] w8 [] wZ) [] mixed S8.at' (listed:=#[false,false,false,false,false,false,false,false,false]) rfl (fun w15 S15=>?_) [] rfl ?_
   ·refine g_take F rfl (i:=0) (listed':=#[true,false,false,false,false,false,false,false,false]) rfl (by kernel_rfl) (by kernel_rfl) (by kernel_rfl) (fun _ _ _ h=>h) (Sd.of (Mv.refl S15.at') [] rfl) rfl rfl rfl rfl (fun _ hz=>(r_move rfl (F.g rfl))) fun _ F=>?_
    refine g_take F rfl (i:=1) (listed':=#[true,true,false,false,false,false,false,false,false]) rfl (by kernel_rfl) (by kernel_rfl) (by kernel_rfl) (fun _ _ _ h=>h) (Sd.of (Mv.refl S15.at') [] rfl) rfl rfl rfl rfl (fun _ hz=>(r_move rfl (F.g rfl))) fun _ F=>?_
    obtain ⟨B18,O18,y18,ad18,hy18,oky18,ln18,cl18⟩:=Rd.atK (Nat.succ_pos _) (Rd.mq V_v_a (S8.trans S15)) k zIa
    clear ln18
    obtain rfl:=Option.some.inj (hx1.symm.trans hy18)
    clear hy18 oky18
    refine g_take F rfl (i:=2) (listed':=#[true,true,true,false,false,false,false,false,false]) rfl (by kernel_rfl) (by kernel_rfl) (by kernel_rfl) (fun _ _ _ h=>h) (Sd.of (Mv.refl S15.at') [] rfl) rfl rfl rfl rfl (fun _ hz=>(r_indexAddr (i:=k) ET_47 rfl ((F.ev 17 rfl).trans (by rw [ad18])) (F.g rfl) (by omega) zIa)) fun _ F=>?_
    refine g_take (v:=.int .i64 x1) F rfl (i:=3) (listed':=#[true,true,true,true,false,false,false,false,false]) rfl (by kernel_rfl) (by kernel_rfl) (by kernel_rfl) (fun _ _ _ h=>h) (Sd.of (Mv.refl S15.at') [] rfl) rfl rfl rfl rfl (fun _ hz=>(r_load (cs:=[.int .i64 x1]) TI_3 rfl (F.g rfl) rfl (fun _=>rfl) (elem_sub (f:=0) (cl18 _ hz.kp) [.int .i64 x1] rfl))) fun _ F=>?_
    refine g_take F rfl (i:=4) (listed':=#[true,true,true,true,true,false,false,false,false]) rfl (by kernel_rfl) (by kernel_rfl) (by kernel_rfl) (fun _ _ _ h=>h) (Sd.of (Mv.refl S15.at') [] rfl) rfl rfl rfl rfl (fun _ hz=>(r_move rfl (F.g rfl))) fun _ F=>?_
    refine g_take F rfl (i:=5) (listed':=#[true,true,true,true,true,true,false,false,false]) rfl (by kernel_rfl) (by kernel_rfl) (by kernel_rfl) (fun _ _ _ h=>h) (Sd.of (Mv.refl S15.at') [] rfl) rfl rfl rfl rfl (fun _ hz=>(r_move rfl (F.g rfl))) fun _ F=>?_
    obtain ⟨B23,O23,y23,ad23,hy23,oky23,ln23,cl23⟩:=Rd.atK (Nat.succ_pos _) (Rd.mq V_v_b (S8.trans S15)) k zIa
    clear ln23
    obtain rfl:=Option.some.inj (hx2.symm.trans hy23)
    clear hy23 oky23
    refine g_take F rfl (i:=6) (listed':=#[true,true,true,true,true,true,true,false,false]) rfl (by kernel_rfl) (by kernel_rfl) (by kernel_rfl) (fun _ _ _ h=>h) (Sd.of (Mv.refl S15.at') [] rfl) rfl rfl rfl rfl (fun _ hz=>(r_indexAddr (i:=k) ET_47 rfl ((F.ev 21 rfl).trans (by rw [ad23])) (F.g rfl) (by omega) zIa)) fun _ F=>?_
    refine g_take (v:=.int .i64 x2) F rfl (i:=7) (listed':=#[true,true,true,true,true,true,true,true,false]) rfl (by kernel_rfl) (by kernel_rfl) (by kernel_rfl) (fun _ _ _ h=>h) (Sd.of (Mv.refl S15.at') [] rfl) rfl rfl rfl rfl (fun _ hz=>(r_load (cs:=[.int .i64 x2]) TI_3 rfl (F.g rfl) rfl (fun _=>rfl) (elem_sub (f:=0) (cl23 _ hz.kp) [.int .i64 x2] rfl))) fun _ F=>?_
    refine g_take F rfl (i:=8) (listed':=#[true,true,true,true,true,true,true,true,true]) rfl (by kernel_rfl) (by kernel_rfl) (by kernel_rfl) (fun _ _ _ h=>h) (Sd.of (Mv.refl S15.at') [] rfl) rfl rfl rfl rfl (fun _ hz=>(r_cmp (b:=decide (x1≠x2)) (.inr (.inl rfl)) rfl (F.g rfl) (F.g rfl) (dec_of (by omega)))) fun _ F=>?_
    rw [show (decide (x1≠x2))=false from decide_eq_false (fun h=>h (el_eq p0 hx1 hx2))] at F
    refine wpAnyH_done (by kernel_rfl) (x_normal ?_) _
    exact ⟨F.cut rfl,(S15.pick [] rfl)⟩
   ·rintro a27 w27 ⟨F,S27⟩
    refine zr fun _ F=>?_
    refine zq F ((k+1:Nat):Int) fun _ F=>?_
    exact ⟨k+1,zD,F.cut rfl,((S8.trans S27).pick [] rfl),by omega⟩
  ·refine zr fun _ F=>?_
   refine x_done F (results_1 rfl (zta F)) ?_
   exact ⟨rfl,(Mv.pick S8 [] rfl)⟩
end Go.Proofs.YtipdbeklopjbmaaGreatDoor
