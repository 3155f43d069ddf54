/-
  Texts laid together: GenNsb, FactsR.
-/
import Derived.Test.YtipdbeklopjbmaaGreatDoorP14
set_option linter.unusedVariables false
set_option linter.unusedSimpArgs false
namespace Go.Proofs.YtipdbeklopjbmaaGreatDoor
open Go.ChangeShapes Go.WideShapes Go.ChangeAt Go.RowKit Go.Proofs.Tryz
section
variable {w:World} {H:Nat→Prop}
set_option maxRecDepth 100000
set_option maxHeartbeats 1000000
theorem JcO {H:Nat→Prop} {n:Int} {least:Int} {most:Int} (h_n:J1 n) (Q0:J1 least) (Q1:J1 most) :
 Calls prog 83 #[iV n,iV least,iV most] w fun e w'=>e=.returned (iV (max least (min n most)))∧Mv [] w [] w':=by
 refine ze fun _ F=>?_
 refine zv F (JhG rfl (F.g rfl) (F.g rfl)) fun _ F=>?_
 refine zv F (JhF rfl (F.g rfl) (F.g rfl)) fun _ F=>?_
 refine zd1 F ?_
 exact ⟨rfl,(Mv.pick (Mv.refl (At.nil w)) [] rfl)⟩
theorem JcW {H:Nat→Prop} {n:Int} {least:Int} {most:Int} (h_n:J1 n) (Q0:J1 least) (Q1:J1 most) :
 Calls prog 84 #[iV n,iV least,iV most] w fun e w'=>e=.returned (iV (max least (min n most)))∧Mv [] w [] w':=by
 refine ze fun _ F=>?_
 refine zc F (most < least) fun _ F=>?_
 rcases Decidable.em (most < least) with h6|h6
 ·rw [decide_eq_true h6] at F
  refine zr fun _ F=>?_
  refine zd1 F ?_
  exact ⟨(zV1 (zVi zO)),(Mv.pick (Mv.refl (At.nil w)) [] rfl)⟩
 rw [decide_eq_false h6] at F
 refine zr fun _ F=>?_
 refine zc F (n < least) fun _ F=>?_
 refine zi F (fun h17=>?_) fun h17=>?_
 ·refine zr fun _ F=>?_
  refine zd1 F ?_
  exact ⟨(zV1 (zVi zO)),(Mv.pick (Mv.refl (At.nil w)) [] rfl)⟩
 refine zr fun _ F=>?_
 refine zc F (n > most) fun _ F=>?_
 refine zi F (fun h23=>?_) fun h23=>?_
 ·refine zr fun _ F=>?_
  refine zd1 F ?_
  exact ⟨(zV1 (zVi zO)),(Mv.pick (Mv.refl (At.nil w)) [] rfl)⟩
 refine zr fun _ F=>?_
 refine zd1 F ?_
 exact ⟨(zV1 (zVi zO)),(Mv.pick (Mv.refl (At.nil w)) [] rfl)⟩
theorem Jcw {H:Nat→Prop} {j:JouD} (Q0:okS j.text) (Q1:J1 j.sure) :
 Calls prog 81 #[.agg #[.string j.text,iV j.sure]] w fun e w'=>e=.returned (.bool (J1R j))∧Mv [] w [] w':=by
 have z1:=Q0
 unfold okS at z1
 refine ze fun _ F=>?_
 refine zbx F (At.nil w) fun b1 w1 S1 _ F=>?_
 refine zl F S1.at' 0 fun _ F=>?_
 refine zc F (j.text.size≤20000) fun _ F=>?_
 rcases Decidable.em (j.text.size≤20000) with h9|h9
 ·rw [decide_eq_true h9] at F
  refine zr fun _ F=>?_
  refine zl F S1.at' 0 fun _ F=>?_
  refine zl F S1.at' 0 fun _ F=>?_
  refine zzp F S1.at' (J3M (H:=fun _=>True) (n:=j.sure) (low:=0) (high:=((j.text.size:Nat):Int)) yg yg yg) fun w15 S15 _ F=>?_
  refine zd1 F ?_
  exact ⟨(zV1 (zVb yCe)),(Mv.pick (S1.trans S15) [] rfl)⟩
 rw [decide_eq_false h9] at F
 refine zr fun _ F=>?_
 refine zd1 F ?_
 exact ⟨(zV1 (zVb yCe)),(Mv.pick S1 [] rfl)⟩
theorem J61 {H:Nat→Prop} {j:JouD} (Q0:okS j.text) (Q1:J1 j.sure) :
 Calls prog 82 #[.agg #[.string j.text,iV j.sure]] w fun e w'=>e=.returned (.bool (J1R j))∧Mv [] w [] w':=by
 have z1:=Q0
 unfold okS at z1
 refine ze fun _ F=>?_
 refine zbx F (At.nil w) fun b1 w1 S1 _ F=>?_
 refine zl F S1.at' 0 fun _ F=>?_
 refine zc F (j.text.size≤20000) fun _ F=>?_
 rcases Decidable.em (j.text.size≤20000) with h9|h9
 ·rw [decide_eq_true h9] at F
  refine zr fun _ F=>?_
  refine zl F S1.at' 0 fun _ F=>?_
  refine zl F S1.at' 0 fun _ F=>?_
  refine zzp F S1.at' (J2Y (H:=fun _=>True) (x:=j.sure) (least:=0) (most:=((j.text.size:Nat):Int)) yg yg yg) fun w15 S15 _ F=>?_
  refine zd1 F ?_
  exact ⟨(zV1 (zVb yCe)),(Mv.pick (S1.trans S15) [] rfl)⟩
 rw [decide_eq_false h9] at F
 refine zr fun _ F=>?_
 refine zd1 F ?_
 exact ⟨(zV1 (zVb yCe)),(Mv.pick S1 [] rfl)⟩
theorem J3o {H:Nat→Prop} {j:JouD} {n:Int} (Q0:okS j.text) (Q1:J1 j.sure) (h_n:J1 n) :
 Calls prog 31 #[.agg #[.string j.text,iV j.sure],iV n] w fun e w'=>e=.returned (.bool (J10 j n))∧Mv [] w [] w':=by
 have z1:=Q0
 unfold okS at z1
 refine ze fun _ F=>?_
 refine zbx F (At.nil w) fun b1 w1 S1 _ F=>?_
 refine zw F S1.at' 0 fun _ F=>?_
 refine zzp F S1.at' (Jcw (H:=fun _=>True) (j:=j) Q0 yf) fun w5 S5 _ F=>?_
 rcases Bool.eq_false_or_eq_true (J1R j) with h8|h8
 ·rw [h8] at F
  refine zr fun _ F=>?_
  refine zc F (n ≥ 0) fun _ F=>?_
  rcases Decidable.em (n ≥ 0) with h13|h13
  ·rw [decide_eq_true h13] at F
   refine zr fun _ F=>?_
   refine zl F S5.at' 0 fun _ F=>?_
   refine zq F (20000 - ((j.text.size:Nat):Int)) fun _ F=>?_
   refine zc F (n≤(20000 - ((j.text.size:Nat):Int))) fun _ F=>?_
   refine zd1 F ?_
   exact ⟨(zV1 (zVb yBu)),(Mv.pick (S1.trans S5) [] rfl)⟩
  rw [decide_eq_false h13] at F
  refine zr fun _ F=>?_
  refine zd1 F ?_
  exact ⟨(zV1 (zVb yBu)),(Mv.pick (S1.trans S5) [] rfl)⟩
 rw [h8] at F
 refine zr fun _ F=>?_
 refine zd1 F ?_
 exact ⟨(zV1 (zVb yBu)),(Mv.pick (S1.trans S5) [] rfl)⟩
theorem J8m {H:Nat→Prop} {j:JouD} {n:Int} (Q0:okS j.text) (Q1:J1 j.sure) (h_n:J1 n) :
 Calls prog 32 #[.agg #[.string j.text,iV j.sure],iV n] w fun e w'=>e=.returned (.bool (J10 j n))∧Mv [] w [] w':=by
 have z1:=Q0
 unfold okS at z1
 refine ze fun _ F=>?_
 refine zbx F (At.nil w) fun b1 w1 S1 _ F=>?_
 refine zw F S1.at' 0 fun _ F=>?_
 refine zzp F S1.at' (J61 (H:=fun _=>True) (j:=j) Q0 yf) fun w5 S5 _ F=>?_
 rcases Bool.eq_false_or_eq_true (J1R j) with h8|h8
 ·rw [h8] at F
  refine zr fun _ F=>?_
  refine zc F (n ≥ 0) fun _ F=>?_
  rcases Decidable.em (n ≥ 0) with h13|h13
  ·rw [decide_eq_true h13] at F
   refine zr fun _ F=>?_
   refine zl F S5.at' 0 fun _ F=>?_
   refine zq F (20000 - ((j.text.size:Nat):Int)) fun _ F=>?_
   refine zc F (n≤(20000 - ((j.text.size:Nat):Int))) fun _ F=>?_
   refine zd1 F ?_
   exact ⟨(zV1 (zVb yBu)),(Mv.pick (S1.trans S5) [] rfl)⟩
  rw [decide_eq_false h13] at F
  refine zr fun _ F=>?_
  refine zd1 F ?_
  exact ⟨(zV1 (zVb yBu)),(Mv.pick (S1.trans S5) [] rfl)⟩
 rw [h8] at F
 refine zr fun _ F=>?_
 refine zd1 F ?_
 exact ⟨(zV1 (zVb yBu)),(Mv.pick (S1.trans S5) [] rfl)⟩
theorem JcH {H:Nat→Prop} {x:TxD} {Q3:Option Addr} {Q5 Q4:Nat} {Q0:Option Addr} {Q2 Q1:Nat} {x_Ra:Option Addr} {x_Rn x_Rc:Nat} {x_Wa:Option Addr} {x_Wn x_Wc:Nat} {Q6:Option Addr} {Q8 Q7:Nat} (Q11:J1 x.id) (Q9:J1 x.age) (Q12:J1 x.proc) (Q10:J1 x.began) (Q13:J1 x.state) :
 Calls prog 131 #[.agg #[iV x.id,iV x.age,iV x.proc,iV x.began,.slice Q3 Q5 Q4,.slice Q0 Q2 Q1,.slice x_Ra x_Rn x_Rc,.slice x_Wa x_Wn x_Wc,.slice Q6 Q8 Q7,iV x.state]] w fun e w'=>e=.returned (.bool (decide (x.state=1)))∧Mv [] w [] w':=by
 refine ze fun _ F=>?_
 refine zbx F (At.nil w) fun b1 w1 S1 _ F=>?_
 refine zl F S1.at' 0 fun _ F=>?_
 refine zc F (x.state=1) fun _ F=>?_
 refine zd1 F ?_
 exact ⟨rfl,(Mv.pick S1 [] rfl)⟩
theorem Jcd {list:List TxH} {Q1:Option Addr} {Q0 Q2:Nat} (Q3:Rd 10 J1h J17 H w (.slice Q1 Q0 Q2) list) (p0:Q0≤1048576) :
 Calls prog 130 #[.slice Q1 Q0 Q2,.func (.func 131) #[] #[]] w fun e w'=>∃ (r0_a:Option Addr)(r0_n r0_c:Nat),e=.returned (.slice r0_a r0_n r0_c)∧Mv [] w [qI r0_a r0_n r0_c (J0I (list.map TxH.d))] w':=by
 have V_v_list:=Rd.start Q3 zN
 obtain ⟨Q5,Q4,Q6,Q7⟩:=Rd.inv Q3
 refine ze fun _ F=>?_
 have S7:Mv [] w [qI none 0 0 ([]:List Int)] w:=J2O (At.nil w)
 refine JH S7.at' (fun lZ (k:Nat) aZ wZ=>∃ (D:List Int)(oa:Option Addr)(on oc:Nat),Fr 24 [(10,nV k),(9,nV Q0),(8,.slice Q1 Q0 Q2),(5,.slice oa on oc),(1,.func (.func 131) #[] #[])] aZ∧Mv lZ w [qI oa on oc D] wZ∧(k≤Q0)∧(D=J0I ((list.take k).map TxH.d))∧(on=D.length)) (fun (k:Nat)=>Q0 - k) (0) ?_ ?_
 ·exact ⟨([]:List Int),none,0,0,F.cut rfl,(Mv.refl S7.at'),zO,rfl,rfl⟩
 rintro k a6 w6 ⟨D,oa,on,oc,F,S6,hk_0,hk_1,hk_2⟩
 have hll:=J8S list k
 rw [← hk_1] at hll
 refine zr fun _ F=>?_
 refine zc F (k < Q0) fun _ F=>?_
 refine zi F (fun h9=>?_) fun h9=>?_
 ·refine zr fun _ F=>?_
  obtain ⟨B10,O10,x1,ad10,hx1,okx1,ln10,cl10⟩:=Rd.at (Rd.mq V_v_list (S7.trans S6)) k yq
  clear ln10
  refine zv F (JB (i:=k) ET_64 rfl ((F.ev 8 rfl).trans (by rw [ad10])) (F.g rfl) zO yq) fun _ F=>?_
  refine zv (v:=.agg #[iV x1.d.id,iV x1.d.age,iV x1.d.proc,iV x1.d.began,.slice x1.a0 x1.n0 x1.c0,.slice x1.a1 x1.n1 x1.c1,.slice x1.a2 x1.n2 x1.c2,.slice x1.a3 x1.n3 x1.c3,.slice x1.a4 x1.n4 x1.c4,iV x1.d.state]) F (JD (cs:=[iV x1.d.id,iV x1.d.age,iV x1.d.proc,iV x1.d.began,.slice x1.a0 x1.n0 x1.c0,.slice x1.a1 x1.n1 x1.c1,.slice x1.a2 x1.n2 x1.c2,.slice x1.a3 x1.n3 x1.c3,.slice x1.a4 x1.n4 x1.c4,iV x1.d.state]) J2P rfl (F.g rfl) rfl (fun h=>nomatch h) (JN (f:=0) cl10 [iV x1.d.id,iV x1.d.age,iV x1.d.proc,iV x1.d.began,.slice x1.a0 x1.n0 x1.c0,.slice x1.a1 x1.n1 x1.c1,.slice x1.a2 x1.n2 x1.c2,.slice x1.a3 x1.n3 x1.c3,.slice x1.a4 x1.n4 x1.c4,iV x1.d.state] rfl)) fun _ F=>?_
  refine zal F S6.at' J1t fun b13 w13 S13 _ F=>?_
  refine zst F S13.at' 0 fun w15 S15 _ F=>?_
  have T16:Mv _ _ [bx _ [_,_,_,_,_,_,_,_,_,_] _,_] _:=S15
  refine zw F T16.at' 0 fun _ F=>?_
  refine J0 (J4w F CFc.h rfl rfl rfl rfl (F.g rfl) (lc (F.g rfl) rfl) (JcH (H:=fun _=>True) (x:=x1.d) okx1.1 okx1.2.1 okx1.2.2.1 okx1.2.2.2.1 okx1.2.2.2.2) ?_)
  rintro _ w19 ⟨rfl,m19⟩
  refine ⟨_,rfl,fun _ F=>?_⟩
  have S19:=At.frame0 T16.at' m19
  refine zr fun _ F=>?_
  refine zib F (fun h21=>?_) fun h21=>?_
  ·refine zr fun _ F=>?_
   refine zl F S19.at' 0 fun _ F=>?_
   refine zbs (ok:=okI) F S19.at' ([x1.d.id]) ET_47 (fun x hx=>(List.mem_singleton.1 hx) ▸ okx1.1) fun b25 w25 S25 _ F=>?_
   refine J0 (Jv (news:=[x1.d.id]) F S25.at' 2 ET_47 rfl rfl rfl rfl rfl rfl (F.g rfl) (F.g rfl) ((At.rd S25.at' ET_47.hk 0 rfl)).1 (by ((repeat (first|rw [List.length_append]|rw [List.length_cons]|rw [List.length_nil]|rw [List.length_take]|rw [List.length_drop])) <;> omega)) fun A27 N27 C27 _ w27 F S27 l27=>?_)
   have S29:=At.drop S27.at' 1
   refine zr fun _ F=>?_
   have T31:Mv _ _ [_,bx _ [_,_,_,_,_,_,_,_,_,_] _] _:=S29
   refine zq F ((k+1:Nat):Int) fun _ F=>?_
   exact ⟨k+1,zD,D++([x1.d.id]),A27,N27,C27,F.cut rfl,((tc7 S6 S13 T16 S19 S25 S27 T31).pick [0] rfl),zO,yBi,by assumption⟩
  refine zr fun _ F=>?_
  refine zq F ((k+1:Nat):Int) fun _ F=>?_
  exact ⟨k+1,zD,D,oa,on,oc,F.cut rfl,((tc4 S6 S13 T16 S19).pick [1] rfl),zO,yBi,by assumption⟩
 refine zr fun _ F=>?_
 refine zd1 F ?_
 exact ⟨oa,on,oc,rfl,(Mv.cast (Mv.pick (S7.trans S6) [0] rfl) (lc (zOw (by rw [hk_1,List.take_of_length_le zO])) rfl))⟩
theorem J8j {list:List TxH} {Q1:Option Addr} {Q0 Q2:Nat} (Q3:Rd 10 J1h J17 H w (.slice Q1 Q0 Q2) list) (p0:Q0≤1048576) :
 Calls prog 80 #[.slice Q1 Q0 Q2] w fun e w'=>∃ (r0_a:Option Addr)(r0_n r0_c:Nat),e=.returned (.slice r0_a r0_n r0_c)∧Mv [] w [qI r0_a r0_n r0_c (J0I (list.map TxH.d))] w':=by
 have V_v_list:=Rd.start Q3 zN
 obtain ⟨Q8,Q7,Q12,Q13⟩:=Rd.inv Q3
 refine ze fun _ F=>?_
 refine zz F (Jcd (list:=list) V_v_list yb) ?_
 rintro _ w3 ⟨Q4,Q6,Q5,rfl,m3⟩
 refine zt fun _ F=>?_
 have S3:Mv _ _ [_] _:=At.frame (At.nil w) [] rfl m3
 obtain ⟨Q9,Q10,Q11⟩:=At.ownInv S3.at' ET_47.hk 0 rfl
 refine zd1 F ?_
 exact ⟨Q4,Q6,Q5,rfl,(Mv.pick S3 [0] rfl)⟩
theorem J6b {list:List TxH} {Q1:Option Addr} {Q0 Q2:Nat} (Q3:Rd 10 J1h J17 H w (.slice Q1 Q0 Q2) list) (p0:Q0≤1048576) :
 Calls prog 30 #[.slice Q1 Q0 Q2] w fun e w'=>∃ (r0_a:Option Addr)(r0_n r0_c:Nat),e=.returned (.slice r0_a r0_n r0_c)∧Mv [] w [qI r0_a r0_n r0_c (J0I (list.map TxH.d))] w':=by
 have V_v_list:=Rd.start Q3 zN
 obtain ⟨Q5,Q4,Q6,Q7⟩:=Rd.inv Q3
 refine ze fun _ F=>?_
 refine zbs (ok:=okI) F (At.nil w) (([]:List Int)) ET_47 (by simp) fun b2 w2 S2 _ F=>?_
 refine JH S2.at' (fun lZ (k:Nat) aZ wZ=>∃ (D:List Int)(oa:Option Addr)(on oc:Nat),Fr 27 [(4,nV k),(3,.slice oa on oc),(0,.slice Q1 Q0 Q2)] aZ∧Mv lZ w2 [qI oa on oc D] wZ∧(k≤Q0)∧(D=J0I ((list.take k).map TxH.d))∧(on=D.length)) (fun (k:Nat)=>Q0 - k) (0) ?_ ?_
 ·exact ⟨([]:List Int),(aO b2),0,0,F.cut rfl,(Mv.refl S2.at'),zO,rfl,rfl⟩
 rintro k a6 w6 ⟨D,oa,on,oc,F,S6,hk_0,hk_1,hk_2⟩
 have hll:=J8S list k
 rw [← hk_1] at hll
 refine zr fun _ F=>?_
 refine zc F (k < Q0) fun _ F=>?_
 refine zi F (fun h11=>?_) fun h11=>?_
 ·refine zr fun _ F=>?_
  obtain ⟨B14,O14,x1,ad14,hx1,okx1,ln14,cl14⟩:=Rd.at (Rd.mq V_v_list (S2.trans S6)) k yq
  clear ln14
  refine zv F (JB (i:=k) ET_64 rfl ((F.ev 12 rfl).trans (by rw [ad14])) (F.g rfl) zO yq) fun _ F=>?_
  refine zv (v:=iV x1.d.state) F (JD (cs:=[iV x1.d.state]) J3b rfl (F.g rfl) rfl (fun _=>rfl) (JN (f:=9) cl14 [iV x1.d.state] rfl)) fun _ F=>?_
  refine zc F (x1.d.state=1) fun _ F=>?_
  refine zi F (fun h19=>?_) fun h19=>?_
  ·refine zr fun _ F=>?_
   obtain ⟨B23,O23,y23,ad23,hy23,oky23,ln23,cl23⟩:=Rd.at (Rd.mq V_v_list (S2.trans S6)) k yq
   clear ln23
   obtain rfl:=Option.some.inj (hx1.symm.trans hy23)
   clear hy23 oky23
   refine zv F (JB (i:=k) ET_64 rfl ((F.ev 19 rfl).trans (by rw [ad23])) (F.g rfl) zO yq) fun _ F=>?_
   refine zv (v:=iV x1.d.id) F (JD (cs:=[iV x1.d.id]) J3b rfl (F.g rfl) rfl (fun _=>rfl) (JN (f:=0) cl23 [iV x1.d.id] rfl)) fun _ F=>?_
   refine zbs (ok:=okI) F S6.at' ([x1.d.id]) ET_47 (fun x hx=>(List.mem_singleton.1 hx) ▸ okx1.1) fun b27 w27 S27 _ F=>?_
   refine J0 (Jv (news:=[x1.d.id]) F S27.at' 1 ET_47 rfl rfl rfl rfl rfl rfl (F.g rfl) (F.g rfl) ((At.rd S27.at' ET_47.hk 0 rfl)).1 (by ((repeat (first|rw [List.length_append]|rw [List.length_cons]|rw [List.length_nil]|rw [List.length_take]|rw [List.length_drop])) <;> omega)) fun A29 N29 C29 _ w29 F S29 l29=>?_)
   have S31:=At.drop S29.at' 1
   refine zr fun _ F=>?_
   have T33:Mv _ _ [_] _:=S31
   refine zq F ((k+1:Nat):Int) fun _ F=>?_
   exact ⟨k+1,zD,D++([x1.d.id]),A29,N29,C29,F.cut rfl,((tc4 S6 S27 S29 T33).pick [0] rfl),zO,yBi,by assumption⟩
  refine zr fun _ F=>?_
  refine zq F ((k+1:Nat):Int) fun _ F=>?_
  exact ⟨k+1,zD,D,oa,on,oc,F.cut rfl,(S6.pick [0] rfl),zO,yBi,by assumption⟩
 refine zr fun _ F=>?_
 refine zd1 F ?_
 exact ⟨oa,on,oc,rfl,(Mv.cast (Mv.pick (S2.trans S6) [0] rfl) (lc (zOw (by rw [hk_1,List.take_of_length_le zO])) rfl))⟩
theorem J6a {list:List TxH} {Q1:Option Addr} {Q0 Q2:Nat} (Q3:Rd 10 J1h J17 H w (.slice Q1 Q0 Q2) list) (p0:Q0≤1048576) :
 Calls prog 27 #[.slice Q1 Q0 Q2] w fun e w'=>e=.returned (.bool (decide ((J0I (list.map TxH.d)).length < 4)))∧Mv [] w [] w':=by
 have V_v_list:=Rd.start Q3 zN
 obtain ⟨Q6,Q5,Q10,Q11⟩:=Rd.inv Q3
 refine ze fun _ F=>?_
 refine zz F (J8j (list:=list) V_v_list yb) ?_
 rintro _ w3 ⟨Q12,Q4,Q13,rfl,m3⟩
 refine zt fun _ F=>?_
 have S3:Mv _ _ [_] _:=At.frame (At.nil w) [] rfl m3
 obtain ⟨Q7,Q8,Q9⟩:=At.ownInv S3.at' ET_47.hk 0 rfl
 refine zc F (Q4 < 4) fun _ F=>?_
 refine zd1 F ?_
 exact ⟨(zV1 (zVb (by exact J1V zO))),(Mv.pick S3 [] rfl)⟩
theorem Jdg {list:List TxH} {Q1:Option Addr} {Q0 Q2:Nat} (Q3:Rd 10 J1h J17 H w (.slice Q1 Q0 Q2) list) (p0:Q0≤1048576) :
 Calls prog 28 #[.slice Q1 Q0 Q2] w fun e w'=>e=.returned (.bool (decide ((J0I (list.map TxH.d)).length < 4)))∧Mv [] w [] w':=by
 have V_v_list:=Rd.start Q3 zN
 obtain ⟨Q6,Q5,Q10,Q11⟩:=Rd.inv Q3
 refine ze fun _ F=>?_
 refine zz F (J6b (list:=list) V_v_list yb) ?_
 rintro _ w3 ⟨Q12,Q4,Q13,rfl,m3⟩
 refine zt fun _ F=>?_
 have S3:Mv _ _ [_] _:=At.frame (At.nil w) [] rfl m3
 obtain ⟨Q7,Q8,Q9⟩:=At.ownInv S3.at' ET_47.hk 0 rfl
 refine zc F (Q4 < 4) fun _ F=>?_
 refine zd1 F ?_
 exact ⟨(zV1 (zVb (by exact J1V zO))),(Mv.pick S3 [] rfl)⟩
theorem J62 {list:List TxH} {Q1:Option Addr} {Q0 Q2:Nat} (Q3:Rd 10 J1h J17 H w (.slice Q1 Q0 Q2) list) (p0:Q0≤1048576) :
 Calls prog 29 #[.slice Q1 Q0 Q2] w fun e w'=>e=.returned (iV ((J0V (list.map TxH.d):Nat):Int))∧Mv [] w [] w':=by
 have hll:=J6h list
 have V_v_list:=Rd.start Q3 zN
 obtain ⟨Q6,Q5,Q10,Q11⟩:=Rd.inv Q3
 refine ze fun _ F=>?_
 refine zz F (J8j (list:=list) V_v_list yb) ?_
 rintro _ w3 ⟨Q12,Q4,Q13,rfl,m3⟩
 refine zt fun _ F=>?_
 have S3:Mv _ _ [_] _:=At.frame (At.nil w) [] rfl m3
 obtain ⟨Q7,Q8,Q9⟩:=At.ownInv S3.at' ET_47.hk 0 rfl
 refine zq F ((4000 * Q4:Nat):Int) fun _ F=>?_
 refine zd1 F ?_
 exact ⟨(zV1 (zVi (by unfold J0V;omega))),(Mv.pick S3 [] rfl)⟩
theorem JcK {list:List TxH} {Q1:Option Addr} {Q0 Q2:Nat} (Q3:Rd 10 J1h J17 H w (.slice Q1 Q0 Q2) list) (p0:Q0≤1048576) :
 Calls prog 85 #[.slice Q1 Q0 Q2] w fun e w'=>e=.returned (iV ((J0V (list.map TxH.d):Nat):Int))∧Mv [] w [] w':=by
 have hll:=J6h list
 have V_v_list:=Rd.start Q3 zN
 obtain ⟨Q6,Q5,Q10,Q11⟩:=Rd.inv Q3
 refine ze fun _ F=>?_
 refine zz F (J6b (list:=list) V_v_list yb) ?_
 rintro _ w3 ⟨Q12,Q4,Q13,rfl,m3⟩
 refine zt fun _ F=>?_
 have S3:Mv _ _ [_] _:=At.frame (At.nil w) [] rfl m3
 obtain ⟨Q7,Q8,Q9⟩:=At.ownInv S3.at' ET_47.hk 0 rfl
 refine zq F ((4000 * Q4:Nat):Int) fun _ F=>?_
 refine zd1 F ?_
 exact ⟨(zV1 (zVi (by unfold J0V;omega))),(Mv.pick S3 [] rfl)⟩
theorem J8k {j:JouD} {list:List TxH} {Q1:Option Addr} {Q0 Q2:Nat} {n:Int} (Q4:okS j.text) (Q6:J1 j.sure) (Q3:Rd 10 J1h J17 H w (.slice Q1 Q0 Q2) list) (h_n:J1 n) (p0:Q0≤1048576) :
 Calls prog 33 #[.agg #[.string j.text,iV j.sure],.slice Q1 Q0 Q2,iV n] w fun e w'=>e=.returned (.bool (J3d j (list.map TxH.d) n))∧Mv [] w [] w':=by
 have V_v_list:=Rd.start Q3 zN
 obtain ⟨Q5,Q7,Q8,Q9⟩:=Rd.inv Q3
 refine ze fun _ F=>?_
 refine zbx F (At.nil w) fun b1 w1 S1 _ F=>?_
 have hbk:=J9D Q5 p0
 refine J1K [] [0,1,3,2,4,5,6,7] S1.at' [0] zK fun w5 S5 hS=>?_
 refine zg fun _ F=>?_
 refine J2 rfl rfl (zzr F S5.at' (JcO (H:=fun _=>True) (n:=n) (least:=0) (most:=20000) h_n yg yg) fun w9 S9 _ F=>?_)
 refine nS (Sd.of S9 [0] rfl) fun hS=>?_
 refine J2 rfl rfl (zzr F S9.at' (J62 (list:=list) (Rd.mq V_v_list (tc3 S1 S5 S9)) yb) fun w11 S11 _ F=>?_)
 refine nS (Sd.of (S9.trans S11) [0] rfl) fun hS=>?_
 refine Jr F rfl rfl (fun _=>(J4e (z:=((max 0 (min n 20000))+((J0V (list.map TxH.d):Nat):Int))) rfl (F.g rfl) (F.g rfl) yBp ⟨yBb,yBb⟩)) fun _ F=>?_
 refine J2 rfl rfl (zzr F S11.at' (J3o (H:=fun _=>True) (j:=j) (n:=((max 0 (min n 20000))+((J0V (list.map TxH.d):Nat):Int))) Q4 yf yg) fun w14 S14 _ F=>?_)
 refine nS (Sd.of (tc3 S9 S11 S14) [0] rfl) fun hS=>?_
 refine zg fun _ F=>?_
 refine zd1 F ?_
 exact ⟨rfl,(Mv.pick (tc5 S1 S5 S9 S11 S14) [] rfl)⟩
theorem Jdk {j:JouD} {list:List TxH} {Q1:Option Addr} {Q0 Q2:Nat} {n:Int} (Q4:okS j.text) (Q6:J1 j.sure) (Q3:Rd 10 J1h J17 H w (.slice Q1 Q0 Q2) list) (h_n:J1 n) (p0:Q0≤1048576) :
 Calls prog 34 #[.agg #[.string j.text,iV j.sure],.slice Q1 Q0 Q2,iV n] w fun e w'=>e=.returned (.bool (J3d j (list.map TxH.d) n))∧Mv [] w [] w':=by
 have V_v_list:=Rd.start Q3 zN
 obtain ⟨Q5,Q7,Q8,Q9⟩:=Rd.inv Q3
 refine ze fun _ F=>?_
 refine zbx F (At.nil w) fun b1 w1 S1 _ F=>?_
 have hbk:=J9D Q5 p0
 refine J1K [] [0,1,3,2,4,5,6,7] S1.at' [0] zK fun w5 S5 hS=>?_
 refine zg fun _ F=>?_
 refine J2 rfl rfl (zzr F S5.at' (JcW (H:=fun _=>True) (n:=n) (least:=0) (most:=20000) h_n yg yg) fun w9 S9 _ F=>?_)
 refine nS (Sd.of S9 [0] rfl) fun hS=>?_
 refine J2 rfl rfl (zzr F S9.at' (JcK (list:=list) (Rd.mq V_v_list (tc3 S1 S5 S9)) yb) fun w11 S11 _ F=>?_)
 refine nS (Sd.of (S9.trans S11) [0] rfl) fun hS=>?_
 refine Jr F rfl rfl (fun _=>(J4e (z:=((max 0 (min n 20000))+((J0V (list.map TxH.d):Nat):Int))) rfl (F.g rfl) (F.g rfl) yBp ⟨yBb,yBb⟩)) fun _ F=>?_
 refine J2 rfl rfl (zzr F S11.at' (J8m (H:=fun _=>True) (j:=j) (n:=((max 0 (min n 20000))+((J0V (list.map TxH.d):Nat):Int))) Q4 yf yg) fun w14 S14 _ F=>?_)
 refine nS (Sd.of (tc3 S9 S11 S14) [0] rfl) fun hS=>?_
 refine zg fun _ F=>?_
 refine zd1 F ?_
 exact ⟨rfl,(Mv.pick (tc5 S1 S5 S9 S11 S14) [] rfl)⟩
end
end Go.Proofs.YtipdbeklopjbmaaGreatDoor

