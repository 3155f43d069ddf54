/-
  Walks: drawn numbers, records, journals.
-/
import Derived.Test.YtipdbeklopjbmaaGreatDoorGenRx
import Derived.Test.YtipdbeklopjbmaaGreatDoorP15
set_option linter.unusedVariables false
set_option linter.unusedSimpArgs false
namespace Go.Proofs.YtipdbeklopjbmaaGreatDoor
open Go.ChangeShapes Go.WideShapes Go.ChangeAt Go.RowKit Go.Proofs.Tryz
variable {w:World} {H:Nat→Prop}
set_option maxRecDepth 100000
set_option maxHeartbeats 1000000
theorem Jbp {r:Int} (h:r ∈ [(0:Int),4000,8000,15990,16000,19999,20000,20001]):0≤r∧r≤20001:=by
 simp only [List.mem_cons,List.not_mem_nil,or_false] at h
 omega
theorem J3K {c:CurD} {Q1:Option Addr} {Q0 Q2:Nat} {c_b:Nat} {list:List Int} {Q4:Option Addr} {Q3 Q5:Nat} (Q6:RdA 1 J7 okB H w (.slice Q1 Q0 Q2) c.code) (Q9:J1 (c.pos:Int)) (Q8:J1 c.h) (Q7:Rd 1 J0w okI H w (.slice Q4 Q3 Q5) list) (p0:c.pos≤Q0) (p1:0 < Q3) (hA:At w [bC c_b Q1 Q0 Q2 c.pos c.h]) (hD:∀ b,H b→¬ fps [bC c_b Q1 Q0 Q2 c.pos c.h] b) :
 Calls prog 79 #[pT c_b,.slice Q4 Q3 Q5] w fun e w'=>∃ (i2:Nat)(h2 r:Int),e=.returned (iV r)∧Mv [bC c_b Q1 Q0 Q2 c.pos c.h] w [bC c_b Q1 Q0 Q2 i2 h2] w'∧i2≤Q0∧J1 h2∧J1 r∧r ∈ list:=by
 have V_v_c_code:=RdA.start Q6 hD
 obtain ⟨Q12,Q10,Q14,Q16⟩:=RdA.inv Q6
 have V_v_list:=Rd.start Q7 hD
 obtain ⟨Q13,Q11,Q15,Q17⟩:=Rd.inv Q7
 refine ze fun _ F=>?_
 refine zz F (JY (c:=c) (n:=((Q3:Nat):Int)) V_v_c_code (by unfold J1;(try dsimp only);omega) yd yg yb (At.pick (is:=[0]) hA rfl) (J9 (is:=[0]))) ?_
 rintro _ w6 ⟨i2_6,h2_6,r_6,rfl,m6,q6_0,q6_1,q6_2,q6_3⟩
 refine zt fun _ F=>?_
 have S6:Mv _ _ [bx _ [_,_,_] _] _:=At.frame hA [0] rfl m6
 obtain ⟨B8,O8,x1,ad8,hx1,okx1,ln8,cl8⟩:=Rd.at (Rd.mq V_v_list S6) r_6 zO
 clear ln8
 refine zv F (JB (i:=r_6) ET_47 rfl ((F.ev 5 rfl).trans (by rw [ad8])) (F.g rfl) zO zO) fun _ F=>?_
 refine zv (v:=iV x1) F (JD (cs:=[iV x1]) J3b rfl (F.g rfl) rfl (fun _=>rfl) (JN (f:=0) cl8 [iV x1] rfl)) fun _ F=>?_
 refine zd1 F ?_
 exact ⟨i2_6,h2_6,x1,rfl,(Mv.pick S6 [0] rfl),yk,yk,okx1,JaY hx1⟩
theorem J8e {c:CurD} {Q1:Option Addr} {Q0 Q2:Nat} {c_b:Nat} (Q3:RdA 1 J7 okB H w (.slice Q1 Q0 Q2) c.code) (Q11:J1 (c.pos:Int)) (Q10:J1 c.h) (p0:c.pos≤Q0) (hA:At w [bC c_b Q1 Q0 Q2 c.pos c.h]) (hD:∀ b,H b→¬ fps [bC c_b Q1 Q0 Q2 c.pos c.h] b) :
 Calls prog 198 #[pT c_b] w fun e w'=>∃ (i2:Nat)(h2:Int)(l:List CellD)(r0_a:Option Addr)(r0_n r0_c:Nat),e=.returned (.slice r0_a r0_n r0_c)∧Mv [bC c_b Q1 Q0 Q2 c.pos c.h] w [qC r0_a r0_n r0_c l,bC c_b Q1 Q0 Q2 i2 h2] w'∧i2≤Q0∧J1 h2∧l.length≤40:=by
 have V_v_c_code:=RdA.start Q3 hD
 obtain ⟨Q13,Q12,Q14,Q15⟩:=RdA.inv Q3
 refine ze fun _ F=>?_
 refine zbs (ok:=okC) F hA (([]:List CellD)) ET_28 (by simp) fun b2 w2 S2 _ F=>?_
 refine JH S2.at' (fun lZ (k:Nat) aZ wZ=>∃ (pp:Nat)(hh:Int)(O:List CellD)(oa:Option Addr)(on oc:Nat),Fr 45 [(4,nV k),(3,.slice oa on oc),(0,pT c_b)] aZ∧Mv lZ w2 [qC oa on oc O,bC c_b Q1 Q0 Q2 pp hh] wZ∧(pp≤Q0)∧(J1 hh)∧(O.length=k)∧(k≤4)∧(on=O.length)) (fun (k:Nat)=>4 - k) (0) ?_ ?_
 ·exact ⟨c.pos,c.h,([]:List CellD),(aO b2),0,0,F.cut rfl,(Mv.refl S2.at'),zO,by assumption,rfl,zO,rfl⟩
 rintro k a6 w6 ⟨pp,hh,O,oa,on,oc,F,S6,hk_0,hk_1,hk_2,hk_3,hk_4⟩
 refine zr fun _ F=>?_
 refine zz F (JY (c:=(⟨c.code,pp,hh⟩:CurD)) (n:=4) (RdA.mv (Nat.succ_pos _) V_v_c_code (S2.trans S6)) (by unfold J1;(try dsimp only);omega) yd yg yb (At.pick (is:=[1]) S6.at' rfl) (J9 (is:=[1]))) ?_
 rintro _ w9 ⟨i2_9,h2_9,r_9,rfl,m9,q9_0,q9_1,q9_2,q9_3⟩
 refine zt fun _ F=>?_
 have S9:Mv _ _ [bx _ [_,_,_] _,_] _:=At.frame S6.at' [1] rfl m9
 refine zc F (k < r_9) fun _ F=>?_
 refine zi F (fun h12=>?_) fun h12=>?_
 ·refine zr fun _ F=>?_
  refine zz F (J4Y (c:=(⟨c.code,i2_9,h2_9⟩:CurD)) (RdA.mv (Nat.succ_pos _) V_v_c_code (tc3 S2 S6 S9)) (by unfold J1;(try dsimp only);omega) yd yb (At.pick (is:=[0]) S9.at' rfl) (J9 (is:=[0]))) ?_
  rintro _ w15 ⟨i2_15,h2_15,r_15,rfl,m15,Q4,q15_0,q15_1,q15_2⟩
  refine zt fun _ F=>?_
  have S15:Mv _ _ [bx _ [_,_,_] _,_] _:=At.frame S9.at' [0] rfl m15
  refine zz F (JY (c:=(⟨c.code,i2_15,h2_15⟩:CurD)) (n:=4) (RdA.mv (Nat.succ_pos _) V_v_c_code (tc4 S2 S6 S9 S15)) (by unfold J1;(try dsimp only);omega) yd yg yb (At.pick (is:=[0]) S15.at' rfl) (J9 (is:=[0]))) ?_
  rintro _ w19 ⟨i2_19,h2_19,r_19,rfl,m19,q19_0,q19_1,q19_2,q19_3⟩
  refine zt fun _ F=>?_
  have S19:Mv _ _ [bx _ [_,_,_] _,_] _:=At.frame S15.at' [0] rfl m19
  refine zz F (J65 (c:=(⟨c.code,i2_19,h2_19⟩:CurD)) (n:=((r_19:Nat):Int)) (RdA.mv (Nat.succ_pos _) V_v_c_code (tc5 S2 S6 S9 S15 S19)) (by unfold J1;(try dsimp only);omega) yd yg yb (At.pick (is:=[0]) S19.at' rfl) (J9 (is:=[0]))) ?_
  rintro _ w21 ⟨i2_21,h2_21,r_21,rfl,m21,Q5,q21_0,q21_1,q21_2⟩
  refine zt fun _ F=>?_
  have S21:Mv _ _ [bx _ [_,_,_] _,_] _:=At.frame S19.at' [0] rfl m21
  refine zv (v:=.agg #[.string r_15,.string r_21]) F (J06 J2u rfl (lc (pr2 (F.g rfl)) (lc (pr2 (F.g rfl)) rfl)) rfl) fun _ F=>?_
  refine zbs (ok:=okC) F S21.at' ([(⟨r_15,r_21⟩:CellD)]) ET_28 (fun x hx=>(List.mem_singleton.1 hx) ▸ ⟨Q4,Q5⟩) fun b24 w24 S24 _ F=>?_
  refine J0 (Jv (news:=[(⟨r_15,r_21⟩:CellD)]) F S24.at' 2 ET_28 rfl rfl rfl rfl rfl rfl (F.g rfl) (F.g rfl) ((At.rd S24.at' ET_28.hk 0 rfl)).1 yp fun A26 N26 C26 _ w26 F S26 l26=>?_)
  have S28:=At.drop S26.at' 1
  refine zr fun _ F=>?_
  have T30:Mv _ _ [_,bx _ [_,_,_] _] _:=S28
  refine zq F ((k+1:Nat):Int) fun _ F=>?_
  exact ⟨k+1,zD,i2_21,h2_21,O++([(⟨r_15,r_21⟩:CellD)]),A26,N26,C26,F.cut rfl,((tc8 S6 S9 S15 S19 S21 S24 S26 T30).pick [0,1] rfl),zO,by assumption,by simp;omega,zO,by assumption⟩
 refine zr fun _ F=>?_
 refine zz F (J1y (c:=(⟨c.code,i2_9,h2_9⟩:CurD)) (n:=12) (RdA.mv (Nat.succ_pos _) V_v_c_code (tc3 S2 S6 S9)) (by unfold J1;(try dsimp only);omega) yd yg yb (At.pick (is:=[0]) S9.at' rfl) (J9 (is:=[0]))) ?_
 rintro _ w35 ⟨i2_35,h2_35,r_35,rfl,m35,q35_0,q35_1⟩
 refine zt fun _ F=>?_
 have S35:Mv _ _ [bx _ [_,_,_] _,_] _:=At.frame S9.at' [0] rfl m35
 refine zib F (fun h37=>?_) fun h37=>?_
 ·refine zr fun _ F=>?_
  refine zz F (JcE (c:=(⟨c.code,i2_35,h2_35⟩:CurD)) (RdA.mv (Nat.succ_pos _) V_v_c_code (tc4 S2 S6 S9 S35)) (by unfold J1;(try dsimp only);omega) yd yb (At.pick (is:=[0]) S35.at' rfl) (J9 (is:=[0]))) ?_
  rintro _ w40 ⟨i2_40,h2_40,r_40,rfl,m40,Q6,q40_0,q40_1⟩
  refine zt fun _ F=>?_
  have S40:Mv _ _ [bx _ [_,_,_] _,_] _:=At.frame S35.at' [0] rfl m40
  refine zz F (Jdo (c:=(⟨c.code,i2_40,h2_40⟩:CurD)) (RdA.mv (Nat.succ_pos _) V_v_c_code (tc5 S2 S6 S9 S35 S40)) (by unfold J1;(try dsimp only);omega) yd yb (At.pick (is:=[0]) S40.at' rfl) (J9 (is:=[0]))) ?_
  rintro _ w43 ⟨i2_43,h2_43,r_43,rfl,m43,Q7,q43_0,q43_1,q43_2⟩
  refine zt fun _ F=>?_
  have S43:Mv _ _ [bx _ [_,_,_] _,_] _:=At.frame S40.at' [0] rfl m43
  refine zv (v:=.agg #[.string r_40,.string r_43]) F (J06 J2u rfl (lc (pr2 (F.g rfl)) (lc (pr2 (F.g rfl)) rfl)) rfl) fun _ F=>?_
  refine zbs (ok:=okC) F S43.at' ([(⟨r_40,r_43⟩:CellD)]) ET_28 (fun x hx=>(List.mem_singleton.1 hx) ▸ ⟨Q6,Q7⟩) fun b46 w46 S46 _ F=>?_
  refine J0 (Jv (news:=[(⟨r_40,r_43⟩:CellD)]) F S46.at' 2 ET_28 rfl rfl rfl rfl rfl rfl (F.g rfl) (F.g rfl) ((At.rd S46.at' ET_28.hk 0 rfl)).1 yp fun A48 N48 C48 _ w48 F S48 l48=>?_)
  have S50:=At.drop S48.at' 1
  refine zr fun _ F=>?_
  have T52:Mv _ _ [_,bx _ [_,_,_] _] _:=S50
  refine zz F (J1y (c:=(⟨c.code,i2_43,h2_43⟩:CurD)) (n:=40) (RdA.mv (Nat.succ_pos _) V_v_c_code (tc9 S2 S6 S9 S35 S40 S43 S46 S48 T52)) (by unfold J1;(try dsimp only);omega) yd yg yb (At.pick (is:=[1]) T52.at' rfl) (J9 (is:=[1]))) ?_
  rintro _ w54 ⟨i2_54,h2_54,r_54,rfl,m54,q54_0,q54_1⟩
  refine zt fun _ F=>?_
  have S54:Mv _ _ [bx _ [_,_,_] _,_] _:=At.frame T52.at' [1] rfl m54
  refine zib F (fun h56=>?_) fun h56=>?_
  ·refine zr fun _ F=>?_
   refine JH S54.at' (fun lZ (q:Nat) aZ wZ=>∃ (O2:List CellD)(pa:Option Addr)(pn pc:Nat),Fr 45 [(5,nV q),(3,.slice pa pn pc)] aZ∧Mv lZ w54 (lZ.set 1 (qC pa pn pc O2)) wZ∧(O2.length≤5+q)∧(q≤30)∧(pn=O2.length)) (fun (q:Nat)=>30 - q) (0) ?_ ?_
   ·exact ⟨O++([(⟨r_40,r_43⟩:CellD)]),A48,N48,C48,F.cut rfl,(Mv.refl S54.at'),yp,zO,by assumption⟩
   rintro q a58 w58 ⟨O2,pa,pn,pc,F,S58,hq_0,hq_1,hq_2⟩
   have S58:Mv _ _ [bx _ [_,_,_] _,_] _:=S58
   refine zr fun _ F=>?_
   refine zc F (q < 30) fun _ F=>?_
   refine zi F (fun h61=>?_) fun h61=>?_
   ·refine zr fun _ F=>?_
    refine zz F (J3n (H:=fun _=>True) (n:=60) (x:=5) ⟨zO,yBb⟩ zO yb) ?_
    rintro _ w63 ⟨r_63,rfl,m63,Q8,q63_0⟩
    refine zt fun _ F=>?_
    have S63:=At.frame0 S58.at' m63
    refine zv (v:=.agg #[.string (bA [97]),.string r_63]) F (J06 J2u rfl (lc (pr2 rfl) (lc (pr2 (F.g rfl)) rfl)) rfl) fun _ F=>?_
    refine zbs (ok:=okC) F S63.at' ([(⟨(bA [97]),r_63⟩:CellD)]) ET_28 (fun x hx=>(List.mem_singleton.1 hx) ▸ ⟨(show okS (bA [97]) from by unfold okS;decide),Q8⟩) fun b66 w66 S66 _ F=>?_
    refine J0 (Jv (news:=[(⟨(bA [97]),r_63⟩:CellD)]) F S66.at' 2 ET_28 rfl rfl rfl rfl rfl rfl (F.g rfl) (F.g rfl) ((At.rd S66.at' ET_28.hk 0 rfl)).1 yp fun A68 N68 C68 _ w68 F S68 l68=>?_)
    have S70:=At.drop S68.at' 1
    refine zr fun _ F=>?_
    have T72:Mv _ _ [_,bx _ [_,_,_] _] _:=S70
    refine zq F ((q+1:Nat):Int) fun _ F=>?_
    exact ⟨q+1,zD,O2++([(⟨(bA [97]),r_63⟩:CellD)]),A68,N68,C68,F.cut rfl,((tc5 S58 S63 S66 S68 T72).pick [1,0] rfl),by simp;omega,zO,by assumption⟩
   refine zr fun _ F=>?_
   refine zd1 F ?_
   exact ⟨i2_54,h2_54,O2,pa,pn,pc,rfl,(Mv.pick (J2C S2 S6 S9 S35 S40 S43 S46 S48 T52 S54 S58) [1,0] rfl),yk,yk,yp⟩
  refine zr fun _ F=>?_
  refine zd1 F ?_
  exact ⟨i2_54,h2_54,O++([(⟨r_40,r_43⟩:CellD)]),A48,N48,C48,rfl,(Mv.pick (J0X S2 S6 S9 S35 S40 S43 S46 S48 T52 S54) [1,0] rfl),yk,yk,yp⟩
 refine zr fun _ F=>?_
 refine zz F (J1y (c:=(⟨c.code,i2_35,h2_35⟩:CurD)) (n:=40) (RdA.mv (Nat.succ_pos _) V_v_c_code (tc4 S2 S6 S9 S35)) (by unfold J1;(try dsimp only);omega) yd yg yb (At.pick (is:=[0]) S35.at' rfl) (J9 (is:=[0]))) ?_
 rintro _ w81 ⟨i2_81,h2_81,r_81,rfl,m81,q81_0,q81_1⟩
 refine zt fun _ F=>?_
 have S81:Mv _ _ [bx _ [_,_,_] _,_] _:=At.frame S35.at' [0] rfl m81
 refine zib F (fun h83=>?_) fun h83=>?_
 ·refine zr fun _ F=>?_
  refine JH S81.at' (fun lZ (q:Nat) aZ wZ=>∃ (O2:List CellD)(pa:Option Addr)(pn pc:Nat),Fr 45 [(5,nV q),(3,.slice pa pn pc)] aZ∧Mv lZ w81 (lZ.set 1 (qC pa pn pc O2)) wZ∧(O2.length≤5+q)∧(q≤30)∧(pn=O2.length)) (fun (q:Nat)=>30 - q) (0) ?_ ?_
  ·exact ⟨O,oa,on,oc,F.cut rfl,(Mv.refl S81.at'),yp,zO,by assumption⟩
  rintro q a85 w85 ⟨O2,pa,pn,pc,F,S85,hq_0,hq_1,hq_2⟩
  have S85:Mv _ _ [bx _ [_,_,_] _,_] _:=S85
  refine zr fun _ F=>?_
  refine zc F (q < 30) fun _ F=>?_
  refine zi F (fun h88=>?_) fun h88=>?_
  ·refine zr fun _ F=>?_
   refine zz F (J3n (H:=fun _=>True) (n:=60) (x:=5) ⟨zO,yBb⟩ zO yb) ?_
   rintro _ w90 ⟨r_90,rfl,m90,Q9,q90_0⟩
   refine zt fun _ F=>?_
   have S90:=At.frame0 S85.at' m90
   refine zv (v:=.agg #[.string (bA [97]),.string r_90]) F (J06 J2u rfl (lc (pr2 rfl) (lc (pr2 (F.g rfl)) rfl)) rfl) fun _ F=>?_
   refine zbs (ok:=okC) F S90.at' ([(⟨(bA [97]),r_90⟩:CellD)]) ET_28 (fun x hx=>(List.mem_singleton.1 hx) ▸ ⟨(show okS (bA [97]) from by unfold okS;decide),Q9⟩) fun b93 w93 S93 _ F=>?_
   refine J0 (Jv (news:=[(⟨(bA [97]),r_90⟩:CellD)]) F S93.at' 2 ET_28 rfl rfl rfl rfl rfl rfl (F.g rfl) (F.g rfl) ((At.rd S93.at' ET_28.hk 0 rfl)).1 yp fun A95 N95 C95 _ w95 F S95 l95=>?_)
   have S97:=At.drop S95.at' 1
   refine zr fun _ F=>?_
   have T99:Mv _ _ [_,bx _ [_,_,_] _] _:=S97
   refine zq F ((q+1:Nat):Int) fun _ F=>?_
   exact ⟨q+1,zD,O2++([(⟨(bA [97]),r_90⟩:CellD)]),A95,N95,C95,F.cut rfl,((tc5 S85 S90 S93 S95 T99).pick [1,0] rfl),by simp;omega,zO,by assumption⟩
  refine zr fun _ F=>?_
  refine zd1 F ?_
  exact ⟨i2_81,h2_81,O2,pa,pn,pc,rfl,(Mv.pick (tc6 S2 S6 S9 S35 S81 S85) [1,0] rfl),yk,yk,yp⟩
 refine zr fun _ F=>?_
 refine zd1 F ?_
 exact ⟨i2_81,h2_81,O,oa,on,oc,rfl,(Mv.pick (tc5 S2 S6 S9 S35 S81) [1,0] rfl),yk,yk,yp⟩
theorem J3L {H:Nat→Prop} {j:JouD} {text:ByteArray} (Q0:okS j.text) (Q2:J1 j.sure) (Q1:okS text) :
 Calls prog 197 #[.agg #[.string j.text,iV j.sure],.string text] w fun e w'=>∃ (d:JouD)(b:Bool),e=.returned (.tuple #[.agg #[.string d.text,iV d.sure],.bool b])∧Mv [] w [] w'∧okS d.text∧J1 d.sure:=by
 have z1:=Q0
 unfold okS at z1
 have z2:=Q1
 unfold okS at z2
 refine ze fun _ F=>?_
 refine zbx F (At.nil w) fun b1 w1 S1 _ F=>?_
 refine zal F S1.at' J2d fun b3 w3 S3 _ F=>?_
 refine zw F S3.at' 1 fun _ F=>?_
 refine zzp F S3.at' (J61 (H:=fun _=>True) (j:=j) Q0 yf) fun w7 S7 _ F=>?_
 refine zv F (J0q rfl (F.g rfl)) fun _ F=>?_
 rcases Bool.eq_false_or_eq_true (!(J1R j)) with h11|h11
 ·rw [h11] at F
  refine zr fun _ F=>?_
  refine zw F S7.at' 1 fun _ F=>?_
  refine zst F S7.at' 0 fun w21 S21 _ F=>?_
  have T23:Mv _ _ [bx _ [_,_] _,bx _ [_,_] _] _:=S21
  refine zde F T23.at' 0 ?_
  exact ⟨j,false,rfl,(Mv.pick (tc4 S1 S3 S7 T23) [] rfl),Q0,yBa⟩
 rw [h11] at F
 refine zr fun _ F=>?_
 refine zl F S7.at' 1 fun _ F=>?_
 refine zq F (20000 - ((j.text.size:Nat):Int)) fun _ F=>?_
 refine zc F (((text.size:Nat):Int) > (20000 - ((j.text.size:Nat):Int))) fun _ F=>?_
 refine zi F (fun h32=>?_) fun h32=>?_
 ·refine zr fun _ F=>?_
  refine zw F S7.at' 1 fun _ F=>?_
  refine zst F S7.at' 0 fun w34 S34 _ F=>?_
  have T36:Mv _ _ [bx _ [_,_] _,bx _ [_,_] _] _:=S34
  refine zde F T36.at' 0 ?_
  exact ⟨j,false,rfl,(Mv.pick (tc4 S1 S3 S7 T36) [] rfl),Q0,yBa⟩
 refine zr fun _ F=>?_
 refine zl F S7.at' 1 fun _ F=>?_
 have k40:j.text.size+text.size≤9223372036854775807:=by first|assumption|omega|(unfold okS at *;omega)
 refine zv F (J0e rfl (F.g rfl) (F.g rfl) k40) fun _ F=>?_
 refine zst F S7.at' 1 fun w43 S43 _ F=>?_
 have T44:Mv _ _ [bx _ [_,_] _,bx _ [_,_] _] _:=S43
 refine zw F T44.at' 0 fun _ F=>?_
 refine zst F T44.at' 1 fun w46 S46 _ F=>?_
 refine zde F S46.at' 0 ?_
 exact ⟨(⟨j.text++text,j.sure⟩:JouD),true,rfl,(Mv.pick (tc5 S1 S3 S7 T44 S46) [] rfl),(J1c k40),yBa⟩
theorem JdF {H:Nat→Prop} {j:JouD} (Q0:okS j.text) (Q1:J1 j.sure) :
 Calls prog 199 #[.agg #[.string j.text,iV j.sure]] w fun e w'=>∃ (d:JouD),e=.returned (.agg #[.string d.text,iV d.sure])∧Mv [] w [] w'∧okS d.text∧J1 d.sure:=by
 have z1:=Q0
 unfold okS at z1
 refine ze fun _ F=>?_
 refine zbx F (At.nil w) fun b1 w1 S1 _ F=>?_
 refine zal F S1.at' J2d fun b3 w3 S3 _ F=>?_
 refine zw F S3.at' 1 fun _ F=>?_
 refine zzp F S3.at' (J61 (H:=fun _=>True) (j:=j) Q0 yf) fun w6 S6 _ F=>?_
 refine zib F (fun h8=>?_) fun h8=>?_
 ·refine zr fun _ F=>?_
  refine zl F S6.at' 1 fun _ F=>?_
  refine zst F S6.at' 1 fun w13 S13 _ F=>?_
  have T14:Mv _ _ [bx _ [_,_] _,bx _ [_,_] _] _:=S13
  refine zw F T14.at' 0 fun _ F=>?_
  refine zst F T14.at' 1 fun w16 S16 _ F=>?_
  refine zdc F S16.at' 0 ?_
  exact ⟨(⟨j.text,((j.text.size:Nat):Int)⟩:JouD),rfl,(Mv.pick (tc5 S1 S3 S6 T14 S16) [] rfl),Q0,yBa⟩
 refine zr fun _ F=>?_
 refine zw F S6.at' 1 fun _ F=>?_
 refine zst F S6.at' 0 fun w18 S18 _ F=>?_
 have T19:Mv _ _ [bx _ [_,_] _,bx _ [_,_] _] _:=S18
 refine zdc F T19.at' 0 ?_
 exact ⟨j,rfl,(Mv.pick (tc4 S1 S3 S6 T19) [] rfl),Q0,yBa⟩
theorem Jcv {c:CurD} {Q1:Option Addr} {Q0 Q2:Nat} {c_b:Nat} (Q11:RdA 1 J7 okB H w (.slice Q1 Q0 Q2) c.code) (Q26:J1 (c.pos:Int)) (Q25:J1 c.h) (tab0:Tb 0 H w) (p0:c.pos≤Q0) (hA:At w [bC c_b Q1 Q0 Q2 c.pos c.h]) (hD:∀ b,H b→¬ fps [bC c_b Q1 Q0 Q2 c.pos c.h] b) :
 Calls prog 167 #[pT c_b] w fun e w'=>∃ (i2:Nat)(h2:Int)(d:JouD),e=.returned (.agg #[.string d.text,iV d.sure])∧Mv [bC c_b Q1 Q0 Q2 c.pos c.h] w [bC c_b Q1 Q0 Q2 i2 h2] w'∧okS d.text∧i2≤Q0∧J1 h2∧J1 d.sure:=by
 have V_v_c_code:=RdA.start Q11 hD
 obtain ⟨Q36,Q35,Q46,Q47⟩:=RdA.inv Q11
 have V_tab0:=Tb.start tab0 hD
 refine ze fun _ F=>?_
 refine zal F hA J2d fun b1 w1 S1 _ F=>?_
 refine zv (v:=.agg #[.string bE_,iV 0]) F (J06 J49 rfl rfl rfl) fun _ F=>?_
 refine zal F S1.at' J2d fun b4 w4 S4 _ F=>?_
 refine zst F S4.at' 0 fun w6 S6 _ F=>?_
 refine zz F (JY (c:=c) (n:=2) (RdA.mv (Nat.succ_pos _) V_v_c_code (tc3 S1 S4 S6)) (by unfold J1;(try dsimp only);omega) yd yg yb (At.pick (is:=[2]) S6.at' rfl) (J9 (is:=[2]))) ?_
 rintro _ w8 ⟨i2_8,h2_8,r_8,rfl,m8,q8_0,q8_1,q8_2,q8_3⟩
 refine zt fun _ F=>?_
 have S8:Mv _ _ [bx _ [_,_,_] _,bx _ [_,_] _,bx _ [_,_] _] _:=At.frame S6.at' [2] rfl m8
 refine zq F ((1+r_8:Nat):Int) fun _ F=>?_
 refine JH S8.at' (fun lZ (k:Nat) aZ wZ=>∃ (pp:Nat)(hh:Int)(jt:ByteArray)(js:Int)(sq:Nat),Fr 47 [(5,nV k),(4,nV sq),(3,pT b4),(2,pT b1),(0,pT c_b)] aZ∧Mv lZ w8 ((lZ.set 0 (bC c_b Q1 Q0 Q2 pp hh)).set 1 (bx b4 [.string jt,iV js] 32)) wZ∧okS jt∧(pp≤Q0)∧(J1 hh)∧(J1 js)∧(sq≤10+k)∧(k≤5)) (fun (k:Nat)=>5 - k) (0) ?_ ?_
 ·exact ⟨i2_8,h2_8,bE_,0,1+r_8,F.cut rfl,(Mv.refl S8.at'),(by unfold okS;decide),zO,by assumption,by unfold J1;omega,zO,zO⟩
 rintro k a13 w13 ⟨pp,hh,jt,js,sq,F,S13,kk13_0,hk_0,hk_1,hk_2,hk_3,hk_4⟩
 have S13:Mv _ _ [bx _ [_,_,_] _,bx _ [_,_] _,bx _ [_,_] _] _:=S13
 refine zr fun _ F=>?_
 refine zz F (JY (c:=(⟨c.code,pp,hh⟩:CurD)) (n:=5) (RdA.mv (Nat.succ_pos _) V_v_c_code (tc5 S1 S4 S6 S8 S13)) (by unfold J1;(try dsimp only);omega) yd yg yb (At.pick (is:=[0]) S13.at' rfl) (J9 (is:=[0]))) ?_
 rintro _ w16 ⟨i2_16,h2_16,r_16,rfl,m16,q16_0,q16_1,q16_2,q16_3⟩
 refine zt fun _ F=>?_
 have S16:Mv _ _ [bx _ [_,_,_] _,bx _ [_,_] _,bx _ [_,_] _] _:=At.frame S13.at' [0] rfl m16
 refine zc F (k < r_16) fun _ F=>?_
 refine zi F (fun h19=>?_) fun h19=>?_
 ·refine zr fun _ F=>?_
  refine J2Q (fun lZ aZ wZ=>∃ (i2_25:Nat)(h2_25:Int)(l_25:List CellD)(Q3:Option Addr)(Q5 Q4:Nat)(d_29:JouD)(b_29:Bool),Fr 47 [(0,pT c_b),(2,pT b1),(3,pT b4),(4,nV sq),(5,nV k)] aZ∧Mv lZ w16 (((lZ.set 0 (bC c_b Q1 Q0 Q2 i2_25 h2_25)).set 1 (bx b4 [.string d_29.text,iV d_29.sure] 32))++[qC Q3 Q5 Q4 l_25]) wZ∧okS d_29.text∧(i2_25≤Q0)∧(J1 h2_25)∧(l_25.length≤40)∧(J1 d_29.sure)) [0] (.b2 [1,2] 0 (.l [3,4,5,6,7,8,9]) 3 (.b2 [] 0 (.l [4,5,6,7,8,9]) 4 (.l [0,5,6,7,8,9]))) S16.at' [] zK (fun w21 S21 hS=>en2 ?_) ?_
  ·refine zg fun _ F=>?_
   refine J03 ?_ ?_
   ·refine Jh rfl (Jf (v:=.agg #[.string jt,iV js]) F rfl rfl (JZ S21.at' 1 J1Q rfl rfl (F.g rfl) rfl rfl (fun h=>nomatch h) rfl) rfl fun _ F=>?_)
    refine nS0 (enL ?_)
    refine J2 rfl rfl (zz1 F (J8e (c:=(⟨c.code,i2_16,h2_16⟩:CurD)) (RdA.mv (Nat.succ_pos _) V_v_c_code (tc7 S1 S4 S6 S8 S13 S16 S21)) (by unfold J1;(try dsimp only);omega) yd yb (At.pick (is:=[0]) S21.at' rfl) (J9 (is:=[0]))) ?_)
    rintro _ w25 ⟨i2_25,h2_25,l_25,Q3,Q5,Q4,rfl,m25,q25_0,q25_1,q25_2⟩
    refine ⟨_,rfl,fun _ F=>?_⟩
    have S25:Mv _ _ [_,bx _ [_,_,_] _,bx _ [_,_] _,bx _ [_,_] _] _:=At.frame S21.at' [0] rfl m25
    obtain ⟨Q37,Q40,Q43⟩:=At.ownInv S25.at' ET_28.hk 0 rfl
    refine nS (Sd.of S25 [] rfl) fun hS=>?_
    refine J2 rfl rfl (zzs F S25.at' (J4T (H:=fun _=>True) (seq:=((sq:Nat):Int)) (list:=l_25) yg (At.rd S25.at' ET_28.hk 0 rfl) yb) ?_)
    rintro w27 S27 Q16 _ F
    refine nS (Sd.of (S25.trans S27) [] rfl) fun hS=>?_
    refine J2 rfl rfl (zz1 F (J3L (H:=fun _=>True) (j:=(⟨jt,js⟩:JouD)) (text:=J0z ((sq:Nat):Int) l_25) kk13_0 yf Q16) ?_)
    rintro _ w29 ⟨d_29,b_29,rfl,m29,Q22,q29_0⟩
    refine ⟨_,rfl,fun _ F=>?_⟩
    have S29:=At.frame0 S27.at' m29
    refine nS (Sd.of (tc3 S25 S27 S29) [] rfl) fun hS=>?_
    refine zg fun _ F=>?_
    refine J2 rfl rfl (J0C S29.at' 2 J1Q rfl rfl rfl rfl rfl (F.g rfl) (F.g rfl) rfl rfl rfl rfl rfl fun w34 S34=>?_)
    refine nS (Sd.of (tc4 S25 S27 S29 S34) [] rfl) fun hS=>?_
    refine zg fun _ F=>?_
    exact ⟨i2_25,h2_25,l_25,Q3,Q5,Q4,d_29,b_29,F.cut rfl,((tc5 S21 S25 S27 S29 S34).pick [2,0,3,1] rfl),Q22,q25_0,q25_1,q25_2,q29_0⟩
   refine Jh rfl (zz1 F (J8e (c:=(⟨c.code,i2_16,h2_16⟩:CurD)) (RdA.mv (Nat.succ_pos _) V_v_c_code (tc7 S1 S4 S6 S8 S13 S16 S21)) (by unfold J1;(try dsimp only);omega) yd yb (At.pick (is:=[0]) S21.at' rfl) (J9 (is:=[0]))) ?_)
   rintro _ w35 ⟨i2_35,h2_35,l_35,Q8,Q10,Q9,rfl,m35,q35_0,q35_1,q35_2⟩
   refine ⟨_,rfl,fun _ F=>?_⟩
   have S35:Mv _ _ [_,bx _ [_,_,_] _,bx _ [_,_] _,bx _ [_,_] _] _:=At.frame S21.at' [0] rfl m35
   obtain ⟨Q38,Q41,Q44⟩:=At.ownInv S35.at' ET_28.hk 0 rfl
   refine nS (Sd.of S35 [] rfl) fun hS=>en2 ?_
   refine J03 ?_ ?_
   ·refine Jh rfl (Jf (v:=.agg #[.string jt,iV js]) F rfl rfl (JZ S35.at' 2 J1Q rfl rfl (F.g rfl) rfl rfl (fun h=>nomatch h) rfl) rfl fun _ F=>?_)
    refine nS0 (enL ?_)
    refine J2 rfl rfl (zzs F S35.at' (J4T (H:=fun _=>True) (seq:=((sq:Nat):Int)) (list:=l_35) yg (At.rd S35.at' ET_28.hk 0 rfl) yb) ?_)
    rintro w38 S38 Q17 _ F
    refine nS (Sd.of (S35.trans S38) [] rfl) fun hS=>?_
    refine J2 rfl rfl (zz1 F (J3L (H:=fun _=>True) (j:=(⟨jt,js⟩:JouD)) (text:=J0z ((sq:Nat):Int) l_35) kk13_0 yf Q17) ?_)
    rintro _ w40 ⟨d_40,b_40,rfl,m40,Q23,q40_0⟩
    refine ⟨_,rfl,fun _ F=>?_⟩
    have S40:=At.frame0 S38.at' m40
    refine nS (Sd.of (tc3 S35 S38 S40) [] rfl) fun hS=>?_
    refine zg fun _ F=>?_
    refine J2 rfl rfl (J0C S40.at' 2 J1Q rfl rfl rfl rfl rfl (F.g rfl) (F.g rfl) rfl rfl rfl rfl rfl fun w45 S45=>?_)
    refine nS (Sd.of (tc4 S35 S38 S40 S45) [] rfl) fun hS=>?_
    refine zg fun _ F=>?_
    exact ⟨i2_35,h2_35,l_35,Q8,Q10,Q9,d_40,b_40,F.cut rfl,((tc5 S21 S35 S38 S40 S45).pick [2,0,3,1] rfl),Q23,q35_0,q35_1,q35_2,q40_0⟩
   refine Jh rfl (zzs F S35.at' (J4T (H:=fun _=>True) (seq:=((sq:Nat):Int)) (list:=l_35) yg (At.rd S35.at' ET_28.hk 0 rfl) yb) ?_)
   rintro w46 S46 Q18 _ F
   refine nS (Sd.of (S35.trans S46) [] rfl) fun hS=>enL ?_
   refine J2 rfl rfl (Jf (v:=.agg #[.string jt,iV js]) F rfl rfl (JZ S46.at' 2 J1Q rfl rfl (F.g rfl) rfl rfl (fun h=>nomatch h) rfl) rfl fun _ F=>?_)
   refine nS0 ?_
   refine J2 rfl rfl (zz1 F (J3L (H:=fun _=>True) (j:=(⟨jt,js⟩:JouD)) (text:=J0z ((sq:Nat):Int) l_35) kk13_0 yf Q18) ?_)
   rintro _ w49 ⟨d_49,b_49,rfl,m49,Q24,q49_0⟩
   refine ⟨_,rfl,fun _ F=>?_⟩
   have S49:=At.frame0 S46.at' m49
   refine nS (Sd.of (tc3 S35 S46 S49) [] rfl) fun hS=>?_
   refine zg fun _ F=>?_
   refine J2 rfl rfl (J0C S49.at' 2 J1Q rfl rfl rfl rfl rfl (F.g rfl) (F.g rfl) rfl rfl rfl rfl rfl fun w54 S54=>?_)
   refine nS (Sd.of (tc4 S35 S46 S49 S54) [] rfl) fun hS=>?_
   refine zg fun _ F=>?_
   exact ⟨i2_35,h2_35,l_35,Q8,Q10,Q9,d_49,b_49,F.cut rfl,((tc5 S21 S35 S46 S49 S54).pick [2,0,3,1] rfl),Q24,q35_0,q35_1,q35_2,q49_0⟩
  rintro a55 w55 ⟨i2_25,h2_25,l_25,Q3,Q5,Q4,d_29,b_29,F,S55,Q6,Q31,Q32,Q33,Q34⟩
  have S55:Mv _ _ [bx _ [_,_,_] _,bx _ [_,_] _,bx _ [_,_] _,_] _:=S55
  obtain ⟨Q39,Q42,Q45⟩:=At.ownInv S55.at' ET_28.hk 3 rfl
  refine zr fun _ F=>?_
  refine zq F ((sq+1:Nat):Int) fun _ F=>?_
  refine zz F (J1y (c:=(⟨c.code,i2_25,h2_25⟩:CurD)) (n:=4) (RdA.mv (Nat.succ_pos _) V_v_c_code (tc7 S1 S4 S6 S8 S13 S16 S55)) (by unfold J1;(try dsimp only);omega) yd yg yb (At.pick (is:=[0]) S55.at' rfl) (J9 (is:=[0]))) ?_
  rintro _ w60 ⟨i2_60,h2_60,r_60,rfl,m60,q60_0,q60_1⟩
  refine zt fun _ F=>?_
  have S60:Mv _ _ [bx _ [_,_,_] _,bx _ [_,_] _,bx _ [_,_] _,_] _:=At.frame S55.at' [0] rfl m60
  refine zib F (fun h62=>?_) fun h62=>?_
  ·refine zr fun _ F=>?_
   refine zw F S60.at' 1 fun _ F=>?_
   refine zz F (JdF (H:=fun _=>True) (j:=d_29) Q6 yf) ?_
   rintro _ w64 ⟨d_64,rfl,m64,Q7,q64_0⟩
   refine zt fun _ F=>?_
   have S64:=At.frame0 S60.at' m64
   refine zst F S64.at' 1 fun w66 S66 _ F=>?_
   have T67:Mv _ _ [bx _ [_,_] _,bx _ [_,_,_] _,bx _ [_,_] _,_] _:=S66
   refine zz F (J1y (c:=(⟨c.code,i2_60,h2_60⟩:CurD)) (n:=12) (RdA.mv (Nat.succ_pos _) V_v_c_code (J0X S1 S4 S6 S8 S13 S16 S55 S60 S64 T67)) (by unfold J1;(try dsimp only);omega) yd yg yb (At.pick (is:=[1]) T67.at' rfl) (J9 (is:=[1]))) ?_
   rintro _ w69 ⟨i2_69,h2_69,r_69,rfl,m69,q69_0,q69_1⟩
   refine zt fun _ F=>?_
   have S69:Mv _ _ [bx _ [_,_,_] _,bx _ [_,_] _,bx _ [_,_] _,_] _:=At.frame T67.at' [1] rfl m69
   refine zib F (fun h71=>?_) fun h71=>?_
   ·refine zr fun _ F=>?_
    refine zz F (JY (c:=(⟨c.code,i2_69,h2_69⟩:CurD)) (n:=4) (RdA.mv (Nat.succ_pos _) V_v_c_code (J2C S1 S4 S6 S8 S13 S16 S55 S60 S64 T67 S69)) (by unfold J1;(try dsimp only);omega) yd yg yb (At.pick (is:=[0]) S69.at' rfl) (J9 (is:=[0]))) ?_
    rintro _ w73 ⟨i2_73,h2_73,r_73,rfl,m73,q73_0,q73_1,q73_2,q73_3⟩
    refine zt fun _ F=>?_
    have S73:Mv _ _ [bx _ [_,_,_] _,bx _ [_,_] _,bx _ [_,_] _,_] _:=At.frame S69.at' [0] rfl m73
    refine zq F ((1+r_73:Nat):Int) fun _ F=>?_
    refine zq F ((k+1:Nat):Int) fun _ F=>?_
    exact ⟨k+1,zD,i2_73,h2_73,d_64.text,d_64.sure,1+r_73,F.cut rfl,((tc8 S13 S16 S55 S60 S64 T67 S69 S73).pick [0,1,2] rfl),Q7,zO,by assumption,by assumption,zO,zO⟩
   refine zr fun _ F=>?_
   refine zq F ((k+1:Nat):Int) fun _ F=>?_
   exact ⟨k+1,zD,i2_69,h2_69,d_64.text,d_64.sure,sq+1,F.cut rfl,((tc7 S13 S16 S55 S60 S64 T67 S69).pick [0,1,2] rfl),Q7,zO,by assumption,by assumption,zO,zO⟩
  refine zr fun _ F=>?_
  refine zz F (J1y (c:=(⟨c.code,i2_60,h2_60⟩:CurD)) (n:=12) (RdA.mv (Nat.succ_pos _) V_v_c_code (tc8 S1 S4 S6 S8 S13 S16 S55 S60)) (by unfold J1;(try dsimp only);omega) yd yg yb (At.pick (is:=[0]) S60.at' rfl) (J9 (is:=[0]))) ?_
  rintro _ w84 ⟨i2_84,h2_84,r_84,rfl,m84,q84_0,q84_1⟩
  refine zt fun _ F=>?_
  have S84:Mv _ _ [bx _ [_,_,_] _,bx _ [_,_] _,bx _ [_,_] _,_] _:=At.frame S60.at' [0] rfl m84
  refine zib F (fun h86=>?_) fun h86=>?_
  ·refine zr fun _ F=>?_
   refine zz F (JY (c:=(⟨c.code,i2_84,h2_84⟩:CurD)) (n:=4) (RdA.mv (Nat.succ_pos _) V_v_c_code (tc9 S1 S4 S6 S8 S13 S16 S55 S60 S84)) (by unfold J1;(try dsimp only);omega) yd yg yb (At.pick (is:=[0]) S84.at' rfl) (J9 (is:=[0]))) ?_
   rintro _ w88 ⟨i2_88,h2_88,r_88,rfl,m88,q88_0,q88_1,q88_2,q88_3⟩
   refine zt fun _ F=>?_
   have S88:Mv _ _ [bx _ [_,_,_] _,bx _ [_,_] _,bx _ [_,_] _,_] _:=At.frame S84.at' [0] rfl m88
   refine zq F ((1+r_88:Nat):Int) fun _ F=>?_
   refine zq F ((k+1:Nat):Int) fun _ F=>?_
   exact ⟨k+1,zD,i2_88,h2_88,d_29.text,d_29.sure,1+r_88,F.cut rfl,((tc6 S13 S16 S55 S60 S84 S88).pick [0,1,2] rfl),Q6,zO,by assumption,by assumption,zO,zO⟩
  refine zr fun _ F=>?_
  refine zq F ((k+1:Nat):Int) fun _ F=>?_
  exact ⟨k+1,zD,i2_84,h2_84,d_29.text,d_29.sure,sq+1,F.cut rfl,((tc5 S13 S16 S55 S60 S84).pick [0,1,2] rfl),Q6,zO,by assumption,by assumption,zO,zO⟩
 refine zr fun _ F=>?_
 refine zz F (J1y (c:=(⟨c.code,i2_16,h2_16⟩:CurD)) (n:=4) (RdA.mv (Nat.succ_pos _) V_v_c_code (tc6 S1 S4 S6 S8 S13 S16)) (by unfold J1;(try dsimp only);omega) yd yg yb (At.pick (is:=[0]) S16.at' rfl) (J9 (is:=[0]))) ?_
 rintro _ w99 ⟨i2_99,h2_99,r_99,rfl,m99,q99_0,q99_1⟩
 refine zt fun _ F=>?_
 have S99:Mv _ _ [bx _ [_,_,_] _,bx _ [_,_] _,bx _ [_,_] _] _:=At.frame S16.at' [0] rfl m99
 refine zib F (fun h101=>?_) fun h101=>?_
 ·refine J2Q (fun lZ aZ wZ=>∃ (b106 i2_108:Nat)(h2_108:Int)(r_108:ByteArray)(d_110:JouD)(b_110:Bool),Fr 47 [(2,pT b1),(3,pT b4)] aZ∧Mv lZ w99 (((lZ.set 0 (bC c_b Q1 Q0 Q2 i2_108 h2_108)).set 1 (bx b4 [.string d_110.text,iV d_110.sure] 32))++[qS (aO b106) 3 3 ([(bA [51,32,54,49,61]),(bA [120,10]),(bA [10])])]) wZ∧okS d_110.text∧(i2_108≤Q0)∧(J1 h2_108)∧(r_108 ∈ ([(bA [51,32,54,49,61]),(bA [120,10]),(bA [10])]))∧(J1 d_110.sure)) [0] (.b2 [1] 0 (.l [2,3,4,5,6,7,8]) 2 (.b2 [] 0 (.l [3,4,5,6,7,8]) 3 (.l [0,4,5,6,7,8]))) S99.at' [] zK (fun w103 S103 hS=>en2 ?_) ?_
  ·refine zg fun _ F=>?_
   refine J03 ?_ ?_
   ·refine Jh rfl (Jf (v:=.agg #[.string jt,iV js]) F rfl rfl (JZ S103.at' 1 J1Q rfl rfl (F.g rfl) rfl rfl (fun h=>nomatch h) rfl) rfl fun _ F=>?_)
    refine nS0 (enL ?_)
    refine J2 rfl rfl (zb1 (ok:=okS) F S103.at' ([(bA [51,32,54,49,61]),(bA [120,10]),(bA [10])]) ET_44 zlS fun b106 w106 _ S106 F=>?_)
    refine nS (Sd.of S106 [] rfl) fun hS=>?_
    refine J2 rfl rfl (zz1 F (J1z (H:=fun b=>¬ fps (sel _ [1]) b) (c:=(⟨c.code,i2_99,h2_99⟩:CurD)) (list:=[(bA [51,32,54,49,61]),(bA [120,10]),(bA [10])]) (RdA.mono (RdA.mv (Nat.succ_pos _) V_v_c_code (tc9 S1 S4 S6 S8 S13 S16 S99 S103 S106)) (J9 (is:=[1]))) (by unfold J1;(try dsimp only);omega) yd (At.rdOff S106.at' ET_44.hk 0 rfl [1] rfl) yb yb (At.pick (is:=[1]) S106.at' rfl) (fun _ h=>h)) ?_)
    rintro _ w108 ⟨i2_108,h2_108,r_108,rfl,m108,Q13,q108_0,q108_1,q108_2⟩
    refine ⟨_,rfl,fun _ F=>?_⟩
    have S108:Mv _ _ [bx _ [_,_,_] _,_,bx _ [_,_] _,bx _ [_,_] _] _:=At.frame S106.at' [1] rfl m108
    refine nS (Sd.of (S106.trans S108) [] rfl) fun hS=>?_
    refine J2 rfl rfl (zz1 F (J3L (H:=fun _=>True) (j:=(⟨jt,js⟩:JouD)) (text:=r_108) kk13_0 yf Q13) ?_)
    rintro _ w110 ⟨d_110,b_110,rfl,m110,Q19,q110_0⟩
    refine ⟨_,rfl,fun _ F=>?_⟩
    have S110:=At.frame0 S108.at' m110
    refine nS (Sd.of (tc3 S106 S108 S110) [] rfl) fun hS=>?_
    refine zg fun _ F=>?_
    refine J2 rfl rfl (J0C S110.at' 2 J1Q rfl rfl rfl rfl rfl (F.g rfl) (F.g rfl) rfl rfl rfl rfl rfl fun w115 S115=>?_)
    refine nS (Sd.of (tc4 S106 S108 S110 S115) [] rfl) fun hS=>?_
    refine zg fun _ F=>?_
    exact ⟨b106,i2_108,h2_108,r_108,d_110,b_110,F.cut rfl,((tc5 S103 S106 S108 S110 S115).pick [1,0,3,2] rfl),Q19,q108_0,q108_1,q108_2,q110_0⟩
   refine Jh rfl (zb1 (ok:=okS) F S103.at' ([(bA [51,32,54,49,61]),(bA [120,10]),(bA [10])]) ET_44 zlS fun b116 w116 _ S116 F=>?_)
   refine nS (Sd.of S116 [] rfl) fun hS=>en2 ?_
   refine J03 ?_ ?_
   ·refine Jh rfl (Jf (v:=.agg #[.string jt,iV js]) F rfl rfl (JZ S116.at' 2 J1Q rfl rfl (F.g rfl) rfl rfl (fun h=>nomatch h) rfl) rfl fun _ F=>?_)
    refine nS0 (enL ?_)
    refine J2 rfl rfl (zz1 F (J1z (H:=fun b=>¬ fps (sel _ [1]) b) (c:=(⟨c.code,i2_99,h2_99⟩:CurD)) (list:=[(bA [51,32,54,49,61]),(bA [120,10]),(bA [10])]) (RdA.mono (RdA.mv (Nat.succ_pos _) V_v_c_code (tc9 S1 S4 S6 S8 S13 S16 S99 S103 S116)) (J9 (is:=[1]))) (by unfold J1;(try dsimp only);omega) yd (At.rdOff S116.at' ET_44.hk 0 rfl [1] rfl) yb yb (At.pick (is:=[1]) S116.at' rfl) (fun _ h=>h)) ?_)
    rintro _ w119 ⟨i2_119,h2_119,r_119,rfl,m119,Q14,q119_0,q119_1,q119_2⟩
    refine ⟨_,rfl,fun _ F=>?_⟩
    have S119:Mv _ _ [bx _ [_,_,_] _,_,bx _ [_,_] _,bx _ [_,_] _] _:=At.frame S116.at' [1] rfl m119
    refine nS (Sd.of (S116.trans S119) [] rfl) fun hS=>?_
    refine J2 rfl rfl (zz1 F (J3L (H:=fun _=>True) (j:=(⟨jt,js⟩:JouD)) (text:=r_119) kk13_0 yf Q14) ?_)
    rintro _ w121 ⟨d_121,b_121,rfl,m121,Q20,q121_0⟩
    refine ⟨_,rfl,fun _ F=>?_⟩
    have S121:=At.frame0 S119.at' m121
    refine nS (Sd.of (tc3 S116 S119 S121) [] rfl) fun hS=>?_
    refine zg fun _ F=>?_
    refine J2 rfl rfl (J0C S121.at' 2 J1Q rfl rfl rfl rfl rfl (F.g rfl) (F.g rfl) rfl rfl rfl rfl rfl fun w126 S126=>?_)
    refine nS (Sd.of (tc4 S116 S119 S121 S126) [] rfl) fun hS=>?_
    refine zg fun _ F=>?_
    exact ⟨b116,i2_119,h2_119,r_119,d_121,b_121,F.cut rfl,((tc5 S103 S116 S119 S121 S126).pick [1,0,3,2] rfl),Q20,q119_0,q119_1,q119_2,q121_0⟩
   refine Jh rfl (zz1 F (J1z (H:=fun b=>¬ fps (sel _ [1]) b) (c:=(⟨c.code,i2_99,h2_99⟩:CurD)) (list:=[(bA [51,32,54,49,61]),(bA [120,10]),(bA [10])]) (RdA.mono (RdA.mv (Nat.succ_pos _) V_v_c_code (tc9 S1 S4 S6 S8 S13 S16 S99 S103 S116)) (J9 (is:=[1]))) (by unfold J1;(try dsimp only);omega) yd (At.rdOff S116.at' ET_44.hk 0 rfl [1] rfl) yb yb (At.pick (is:=[1]) S116.at' rfl) (fun _ h=>h)) ?_)
   rintro _ w127 ⟨i2_127,h2_127,r_127,rfl,m127,Q15,q127_0,q127_1,q127_2⟩
   refine ⟨_,rfl,fun _ F=>?_⟩
   have S127:Mv _ _ [bx _ [_,_,_] _,_,bx _ [_,_] _,bx _ [_,_] _] _:=At.frame S116.at' [1] rfl m127
   refine nS (Sd.of (S116.trans S127) [] rfl) fun hS=>enL ?_
   refine J2 rfl rfl (Jf (v:=.agg #[.string jt,iV js]) F rfl rfl (JZ S127.at' 2 J1Q rfl rfl (F.g rfl) rfl rfl (fun h=>nomatch h) rfl) rfl fun _ F=>?_)
   refine nS0 ?_
   refine J2 rfl rfl (zz1 F (J3L (H:=fun _=>True) (j:=(⟨jt,js⟩:JouD)) (text:=r_127) kk13_0 yf Q15) ?_)
   rintro _ w130 ⟨d_130,b_130,rfl,m130,Q21,q130_0⟩
   refine ⟨_,rfl,fun _ F=>?_⟩
   have S130:=At.frame0 S127.at' m130
   refine nS (Sd.of (tc3 S116 S127 S130) [] rfl) fun hS=>?_
   refine zg fun _ F=>?_
   refine J2 rfl rfl (J0C S130.at' 2 J1Q rfl rfl rfl rfl rfl (F.g rfl) (F.g rfl) rfl rfl rfl rfl rfl fun w135 S135=>?_)
   refine nS (Sd.of (tc4 S116 S127 S130 S135) [] rfl) fun hS=>?_
   refine zg fun _ F=>?_
   exact ⟨b116,i2_127,h2_127,r_127,d_130,b_130,F.cut rfl,((tc5 S103 S116 S127 S130 S135).pick [1,0,3,2] rfl),Q21,q127_0,q127_1,q127_2,q130_0⟩
  rintro a136 w136 ⟨b106,i2_108,h2_108,r_108,d_110,b_110,F,S136,Q12,Q27,Q28,Q29,Q30⟩
  have S136:Mv _ _ [bx _ [_,_,_] _,bx _ [_,_] _,bx _ [_,_] _,_] _:=S136
  refine zr fun _ F=>?_
  refine zw F S136.at' 1 fun _ F=>?_
  refine zst F S136.at' 2 fun w138 S138 _ F=>?_
  have T139:Mv _ _ [bx _ [_,_] _,bx _ [_,_,_] _,bx _ [_,_] _,_] _:=S138
  refine zdc F T139.at' 0 ?_
  exact ⟨i2_108,h2_108,d_110,rfl,(Mv.pick (tc9 S1 S4 S6 S8 S13 S16 S99 S136 T139) [1] rfl),Q12,yk,yk,yBa⟩
 refine zr fun _ F=>?_
 refine zw F S99.at' 1 fun _ F=>?_
 refine zst F S99.at' 2 fun w141 S141 _ F=>?_
 have T142:Mv _ _ [bx _ [_,_] _,bx _ [_,_,_] _,bx _ [_,_] _] _:=S141
 refine zdc F T142.at' 0 ?_
 exact ⟨i2_99,h2_99,(⟨jt,js⟩:JouD),rfl,(Mv.pick (tc8 S1 S4 S6 S8 S13 S16 S99 T142) [1] rfl),kk13_0,yk,yk,yBa⟩
theorem Jds {c:CurD} {Q1:Option Addr} {Q0 Q2:Nat} {c_b:Nat} (Q4:RdA 1 J7 okB H w (.slice Q1 Q0 Q2) c.code) (Q7:J1 (c.pos:Int)) (Q6:J1 c.h) (tab0:Tb 0 H w) (p0:c.pos≤Q0) (hA:At w [bC c_b Q1 Q0 Q2 c.pos c.h]) (hD:∀ b,H b→¬ fps [bC c_b Q1 Q0 Q2 c.pos c.h] b) :
 Calls prog 128 #[pT c_b] w fun e w'=>∃ (i2:Nat)(h2:Int)(d:JouD),e=.returned (.agg #[.string d.text,iV d.sure])∧Mv [bC c_b Q1 Q0 Q2 c.pos c.h] w [bC c_b Q1 Q0 Q2 i2 h2] w'∧okS d.text∧i2≤Q0∧J1 h2∧J1 d.sure:=by
 have V_v_c_code:=RdA.start Q4 hD
 obtain ⟨Q9,Q8,Q10,Q11⟩:=RdA.inv Q4
 have V_tab0:=Tb.start tab0 hD
 refine ze fun _ F=>?_
 refine zal F hA J2d fun b1 w1 S1 _ F=>?_
 refine zz F (Jcv (c:=c) (RdA.mv (Nat.succ_pos _) V_v_c_code S1) (by unfold J1;(try dsimp only);omega) yd (Tb.mv V_tab0 S1) yb (At.pick (is:=[1]) S1.at' rfl) (J9 (is:=[1]))) ?_
 rintro _ w4 ⟨i2_4,h2_4,d_4,rfl,m4,Q3,q4_0,q4_1,q4_2⟩
 refine zt fun _ F=>?_
 have S4:Mv _ _ [bx _ [_,_,_] _,bx _ [_,_] _] _:=At.frame S1.at' [1] rfl m4
 refine zal F S4.at' J2d fun b6 w6 S6 _ F=>?_
 refine zst F S6.at' 0 fun w8 S8 _ F=>?_
 have T9:Mv _ _ [bx _ [_,_] _,bx _ [_,_,_] _,bx _ [_,_] _] _:=S8
 refine zz F (JY (c:=(⟨c.code,i2_4,h2_4⟩:CurD)) (n:=12) (RdA.mv (Nat.succ_pos _) V_v_c_code (tc4 S1 S4 S6 T9)) (by unfold J1;(try dsimp only);omega) yd yg yb (At.pick (is:=[1]) T9.at' rfl) (J9 (is:=[1]))) ?_
 rintro _ w11 ⟨i2_11,h2_11,r_11,rfl,m11,q11_0,q11_1,q11_2,q11_3⟩
 refine zt fun _ F=>?_
 have S11:Mv _ _ [bx _ [_,_,_] _,bx _ [_,_] _,bx _ [_,_] _] _:=At.frame T9.at' [1] rfl m11
 refine zc F (r_11=0) fun _ F=>?_
 refine zi F (fun h15=>?_) fun h15=>?_
 ·refine zr fun _ F=>?_
  refine zbs (ok:=okI) F S11.at' ([(-1),0,5,100000]) ET_47 zlI fun b17 w17 S17 _ F=>?_
  refine zz F (J3K (H:=fun b=>¬ fps (sel _ [1]) b) (c:=(⟨c.code,i2_11,h2_11⟩:CurD)) (list:=[(-1),0,5,100000]) (RdA.mono (RdA.mv (Nat.succ_pos _) V_v_c_code (tc6 S1 S4 S6 T9 S11 S17)) (J9 (is:=[1]))) (by unfold J1;(try dsimp only);omega) yd (At.rdOff S17.at' ET_47.hk 0 rfl [1] rfl) yb yb (At.pick (is:=[1]) S17.at' rfl) (fun _ h=>h)) ?_
  rintro _ w19 ⟨i2_19,h2_19,r_19,rfl,m19,q19_0,q19_1,q19_2,q19_3⟩
  refine zt fun _ F=>?_
  have S19:Mv _ _ [bx _ [_,_,_] _,_,bx _ [_,_] _,bx _ [_,_] _] _:=At.frame S17.at' [1] rfl m19
  refine zst F S19.at' 2 fun w22 S22 _ F=>?_
  have T23:Mv _ _ [bx _ [_,_] _,bx _ [_,_,_] _,_,bx _ [_,_] _] _:=S22
  refine zw F T23.at' 0 fun _ F=>?_
  refine zst F T23.at' 3 fun w25 S25 _ F=>?_
  refine zdc F S25.at' 0 ?_
  exact ⟨i2_19,h2_19,(⟨d_4.text,r_19⟩:JouD),rfl,(Mv.pick (tc9 S1 S4 S6 T9 S11 S17 S19 T23 S25) [2] rfl),Q3,yk,yk,yBa⟩
 refine zr fun _ F=>?_
 refine zc F (r_11=1) fun _ F=>?_
 refine zi F (fun h28=>?_) fun h28=>?_
 ·refine zr fun _ F=>?_
  refine zz F (JY (c:=(⟨c.code,i2_11,h2_11⟩:CurD)) (n:=2) (RdA.mv (Nat.succ_pos _) V_v_c_code (tc5 S1 S4 S6 T9 S11)) (by unfold J1;(try dsimp only);omega) yd yg yb (At.pick (is:=[0]) S11.at' rfl) (J9 (is:=[0]))) ?_
  rintro _ w30 ⟨i2_30,h2_30,r_30,rfl,m30,q30_0,q30_1,q30_2,q30_3⟩
  refine zt fun _ F=>?_
  have S30:Mv _ _ [bx _ [_,_,_] _,bx _ [_,_] _,bx _ [_,_] _] _:=At.frame S11.at' [0] rfl m30
  refine zq F ((20000+r_30:Nat):Int) fun _ F=>?_
  refine zz F (J3n (H:=fun _=>True) (n:=20000+r_30) (x:=10) ⟨zO,yBb⟩ zO yb) ?_
  rintro _ w33 ⟨r_33,rfl,m33,Q5,q33_0⟩
  refine zt fun _ F=>?_
  have S33:=At.frame0 S30.at' m33
  refine zst F S33.at' 1 fun w36 S36 _ F=>?_
  have T37:Mv _ _ [bx _ [_,_] _,bx _ [_,_,_] _,bx _ [_,_] _] _:=S36
  refine zw F T37.at' 0 fun _ F=>?_
  refine zst F T37.at' 2 fun w39 S39 _ F=>?_
  refine zdc F S39.at' 0 ?_
  exact ⟨i2_30,h2_30,(⟨r_33,d_4.sure⟩:JouD),rfl,(Mv.pick (tc9 S1 S4 S6 T9 S11 S30 S33 T37 S39) [2] rfl),Q5,yk,yk,yBa⟩
 refine zr fun _ F=>?_
 refine zw F S11.at' 1 fun _ F=>?_
 refine zst F S11.at' 2 fun w41 S41 _ F=>?_
 refine zdc F S41.at' 0 ?_
 exact ⟨i2_11,h2_11,d_4,rfl,(Mv.pick (tc6 S1 S4 S6 T9 S11 S41) [1] rfl),Q3,yk,yk,yBa⟩
theorem J83 {c:CurD} {Q1:Option Addr} {Q0 Q2:Nat} {c_b:Nat} (Q3:RdA 1 J7 okB H w (.slice Q1 Q0 Q2) c.code) (Q7:J1 (c.pos:Int)) (Q6:J1 c.h) (tab0:Tb 0 H w) (p0:c.pos≤Q0) (hA:At w [bC c_b Q1 Q0 Q2 c.pos c.h]) (hD:∀ b,H b→¬ fps [bC c_b Q1 Q0 Q2 c.pos c.h] b) :
 Calls prog 78 #[pT c_b] w fun e w'=>∃ (i2:Nat)(h2:Int)(d:JouD),e=.returned (.agg #[.string d.text,iV d.sure])∧Mv [bC c_b Q1 Q0 Q2 c.pos c.h] w [bC c_b Q1 Q0 Q2 i2 h2] w'∧okS d.text∧i2≤Q0∧J1 h2∧J1 d.sure:=by
 have V_v_c_code:=RdA.start Q3 hD
 obtain ⟨Q9,Q8,Q10,Q11⟩:=RdA.inv Q3
 have V_tab0:=Tb.start tab0 hD
 refine ze fun _ F=>?_
 refine zal F hA J2d fun b1 w1 S1 _ F=>?_
 refine zz F (J1y (c:=c) (n:=2) (RdA.mv (Nat.succ_pos _) V_v_c_code S1) (by unfold J1;(try dsimp only);omega) yd yg yb (At.pick (is:=[1]) S1.at' rfl) (J9 (is:=[1]))) ?_
 rintro _ w4 ⟨i2_4,h2_4,r_4,rfl,m4,q4_0,q4_1⟩
 refine zt fun _ F=>?_
 have S4:Mv _ _ [bx _ [_,_,_] _,bx _ [_,_] _] _:=At.frame S1.at' [1] rfl m4
 refine zib F (fun h6=>?_) fun h6=>?_
 ·refine zr fun _ F=>?_
  refine zz F (Jds (c:=(⟨c.code,i2_4,h2_4⟩:CurD)) (RdA.mv (Nat.succ_pos _) V_v_c_code (S1.trans S4)) (by unfold J1;(try dsimp only);omega) yd (Tb.mv V_tab0 (S1.trans S4)) yb (At.pick (is:=[0]) S4.at' rfl) (J9 (is:=[0]))) ?_
  rintro _ w8 ⟨i2_8,h2_8,d_8,rfl,m8,Q5,q8_0,q8_1,q8_2⟩
  refine zt fun _ F=>?_
  have S8:Mv _ _ [bx _ [_,_,_] _,bx _ [_,_] _] _:=At.frame S4.at' [0] rfl m8
  refine zst F S8.at' 1 fun w10 S10 _ F=>?_
  have T11:Mv _ _ [bx _ [_,_] _,bx _ [_,_,_] _] _:=S10
  refine zdc F T11.at' 0 ?_
  exact ⟨i2_8,h2_8,d_8,rfl,(Mv.pick (tc4 S1 S4 S8 T11) [1] rfl),Q5,yk,yk,yBa⟩
 refine zr fun _ F=>?_
 refine zbs (ok:=okI) F S4.at' ([0,4000,8000,15990,16000,19999,20000,20001]) ET_47 zlI fun b13 w13 S13 _ F=>?_
 refine zz F (J3K (H:=fun b=>¬ fps (sel _ [1]) b) (c:=(⟨c.code,i2_4,h2_4⟩:CurD)) (list:=[0,4000,8000,15990,16000,19999,20000,20001]) (RdA.mono (RdA.mv (Nat.succ_pos _) V_v_c_code (tc3 S1 S4 S13)) (J9 (is:=[1]))) (by unfold J1;(try dsimp only);omega) yd (At.rdOff S13.at' ET_47.hk 0 rfl [1] rfl) yb yb (At.pick (is:=[1]) S13.at' rfl) (fun _ h=>h)) ?_
 rintro _ w15 ⟨i2_15,h2_15,r_15,rfl,m15,q15_0,q15_1,q15_2,q15_3⟩
 refine zt fun _ F=>?_
 have S15:Mv _ _ [bx _ [_,_,_] _,_,bx _ [_,_] _] _:=At.frame S13.at' [1] rfl m15
 obtain ⟨aN18,aE18⟩:=Int.eq_ofNat_of_zero_le ((Jbp zA).1)
 have aB18:aN18≤20001:=by have:=(Jbp (r:=r_15) zA).2;omega
 subst aE18
 refine zz F (J3n (H:=fun _=>True) (n:=aN18) (x:=10) ⟨zO,yBb⟩ zO yb) ?_
 rintro _ w17 ⟨r_17,rfl,m17,Q4,q17_0⟩
 refine zt fun _ F=>?_
 have S17:=At.frame0 S15.at' m17
 refine zv (v:=.agg #[.string r_17,iV 0]) F (J06 J49 rfl (lc (pr2 (F.g rfl)) rfl) rfl) fun _ F=>?_
 refine zst F S17.at' 2 fun w21 S21 _ F=>?_
 have T22:Mv _ _ [bx _ [_,_] _,bx _ [_,_,_] _,_] _:=S21
 refine zdc F T22.at' 0 ?_
 exact ⟨i2_15,h2_15,(⟨r_17,0⟩:JouD),rfl,(Mv.pick (tc6 S1 S4 S13 S15 S17 T22) [1] rfl),Q4,yk,yk,yBa⟩
end Go.Proofs.YtipdbeklopjbmaaGreatDoor
