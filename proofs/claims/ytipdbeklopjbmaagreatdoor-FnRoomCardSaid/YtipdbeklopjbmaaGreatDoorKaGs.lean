/-
  Walks: the reference's names, children, calls on files.
-/
import Derived.Test.YtipdbeklopjbmaaGreatDoorKaFs
import Derived.Test.YtipdbeklopjbmaaGreatDoorP20
set_option linter.unusedVariables false
set_option linter.unusedSimpArgs false
namespace Go.Proofs.YtipdbeklopjbmaaGreatDoor
open Go.ChangeShapes Go.WideShapes Go.ChangeAt Go.RowKit Go.Proofs.Tryz
set_option maxRecDepth 100000
set_option maxHeartbeats 1000000
section
set_option maxHeartbeats 8000000
variable {X:Uni} {w:World} {b u:Nat} {v:MV} {D:List CellD} {H:Nat→Prop}
theorem Jfn {c:CallD} (hT:TbO w []) (h_c:okK c:=by assumption) :
 Calls prog 214 #[.agg #[iV c.kind,.string c.name,.string c.to_,iV c.a,iV c.b,.string c.text]] w (PO w (fun (s:Unit)=>.bool (J2q c)) (fun _=>True)):=by
 have hk1:=h_c.1;have hk2:=h_c.2.1;have hk3:=h_c.2.2.1;have hk4:=h_c.2.2.2.1;have hk5:=h_c.2.2.2.2.1;have hk6:=h_c.2.2.2.2.2
 have M:St [] w [] w:=⟨Mv.refl (At.nil _),hT⟩
 refine zE (f:=214) fun _ F=>?_
 refine J0 (J4h F M [_,_,_,_,_,_] (k:=fun b1 w M=>zk fun _ F=>?_))
 refine J0 (kO F M (hc:=J33 M.nil.tb) (k:=fun s2 w q2 M=>zk fun _ F=>?_))
 refine zGb F (fun h3 F=>?_) fun h3 F=>?_
 ·have hi3:=J0K h3;refine zr2 fun _ F=>?_
  refine zG F (fun h4 F=>?_) fun h4 F=>?_
  ·refine zr2 fun _ F=>?_
   refine zG F (fun h5 F=>?_) fun h5 F=>?_
   ·refine zr2 fun _ F=>?_
    refine zd1 F ?_
    have M:=M.pick [] []
    exact ⟨(),congrArg Ending.returned yv,M.mv,trivial⟩
   refine zr2 fun _ F=>?_
   refine zd1 F ?_
   have M:=M.pick [] []
   exact ⟨(),congrArg Ending.returned yv,M.mv,trivial⟩
  refine zr2 fun _ F=>?_
  refine zd1 F ?_
  have M:=M.pick [] []
  exact ⟨(),congrArg Ending.returned yv,M.mv,trivial⟩
 refine zr2 fun _ F=>?_
 refine zd1 F ?_
 have M:=M.pick [] []
 exact ⟨(),congrArg Ending.returned yv,M.mv,trivial⟩
theorem Jgx (hT:TbO w []) (hm:RM X H w v D u) (hu:u+1≤68718428160:=by omega) :
 Calls prog 286 #[v.val] w (PSL X H w 9 1 J3 okS (fun (s:GL ByteArray)=>s.l.length≤68719476736∧∀ x ∈ s.l,x.size≤1048576) D (u+1)):=by
 have M:=Sp.start hT hm
 refine zE (f:=286) fun _ F=>?_
 refine J0 (kBx F M [_,_,_] (k:=fun b1 w M=>zk fun _ F=>?_))
 refine J0 (kAl F M JA [_,_,_] (k:=fun b2 w M=>zk fun _ F=>?_))
 refine J0 (kUS F M (hc:=J5u M.tb M.v) (k:=fun v s3 w q3 M=>zk fun _ F=>?_))
 refine J0 (kW F M 2 [_,_,_] [_,_,_] (k:=fun w M=>zk fun _ F=>?_))
 refine J0 (J4b (ok:=okS) F M.at' ET_44 (kk:=fun b4 w m _ F=>?_))
 have M:=M.then m
 refine zr2 fun _ F=>?_
 have hq5:=q3.le
 have F:=F.cut (m':=[(6,_),(5,_),(1,_),(2,_),(3,_),(4,_)]) rfl
 refine J1e (γ:=(Nat × GL ByteArray) × MV) (slots:=fun g=>[(6,nV g.1.1),(5,g.1.2.val)]) (LL:=fun g=>[owG 9 1 J3 okS g.1.2,bx b1 [g.2.S,g.2.R,g.2.W] 210,owK s3 (Jt D (⟨#[110,47]⟩:ByteArray)),bx b2 [sN,sN,sN] 210]) (vv:=fun g=>g.2) (DD:=fun g=>D) (uu:=fun _=>(u+1)) (pr:=fun g=>g.1.1≤s3.n∧g.1.2.l.length=g.1.1∧∀ x ∈ g.1.2.l,x.size≤1048576) (g0:=((0,⟨_,_,_,_⟩),v)) (fun g=>s3.n - g.1.1) F M (⟨Nat.zero_le _,rfl,fun _ h=>by cases h⟩) fun g a w F M hp=>?_
 refine zr2 fun _ F=>?_
 refine zi F (fun h6=>?_) fun h6=>?_
 ·refine zr2 fun _ F=>?_
  refine kEl (s:=s3) F M.at' ET_44 2 g.1.1 zO (kk:=fun x7 _ hx7 ok7=>zk fun _ F=>?_)
  have hz7:=q3.sz _ (Jm hx7)
  have hg7:=J2E (q3.bg _ (Jm hx7))
  refine kSl F (2) yBj (k:=fun he8=>zk fun _ F=>?_)
  refine J1P F M.at' 0 (x7.extract 2 x7.size) ET_44 (hx:=by unfold okS;omega) (kk:=fun B9 N9 C9 _ w l9 m _ F=>?_)
  have M:=M.then m
  refine zr2 fun _ F=>?_
  exact Jw ((g.1.1+1,⟨_,_,_,_⟩),g.2) (by dsimp only;omega) ⟨F.cut rfl,M,⟨by dsimp only;omega,by simp only [List.length_append,List.length_singleton];omega,fun y hy=>(List.mem_append.1 hy).elim (hp.2.2 y) fun h=>by rw [List.mem_singleton.1 h];omega⟩⟩
 refine zr2 fun _ F=>?_
 refine J0 (kW F M 3 [_,_,_] [_,_,_,_] (k:=fun w M=>zk fun _ F=>?_))
 refine zde F M.at' 0 ?_
 have M:=M.pick [1] [_]
 exact Jc2 (s:=g.1.2) M (⟨by have h1:=hp.1;have h2:=hp.2.1;omega,hp.2.2⟩) rfl
theorem Jhl {p:Int} (hT:TbO w []) (hm:RM X H w v D u) (hu:u+2≤68718428160:=by omega) (h_p:J1 p:=by exact ym) :
 Calls prog 303 #[v.val,iV p] w (PSL X H w 3 1 J0w okI (fun (s:GL Int)=>s.l.length≤68719476736) D (u+2)):=by
 have M:=Sp.start hT hm
 refine zE (f:=303) fun _ F=>?_
 refine J0 (kBx F M [_,_,_] (k:=fun b1 w M=>zk fun _ F=>?_))
 refine J0 (kAl F M JA [_,_,_] (k:=fun b2 w M=>zk fun _ F=>?_))
 refine J0 (kUS F M (hc:=J5u M.tb M.v) (k:=fun v s3 w q3 M=>zk fun _ F=>?_))
 refine J0 (kW F M 2 [_,_,_] [_,_,_] (k:=fun w M=>zk fun _ F=>?_))
 refine J0 (J4b (ok:=okI) F M.at' ET_47 (kk:=fun b4 w m _ F=>?_))
 have M:=M.then m
 refine zr2 fun _ F=>?_
 have hq5:=q3.le
 have M:=M.ext (ks:=Jt D (bA [114,47])) J3V
 have F:=F.cut (m':=[(8,_),(7,_),(1,_),(2,_),(4,_),(5,_),(6,_)]) rfl
 refine J1e (γ:=(Nat × GL Int) × MV) (slots:=fun g=>[(8,nV g.1.1),(7,g.1.2.val)]) (LL:=fun g=>[owG 3 1 J0w okI g.1.2,bx b1 [g.2.S,g.2.R,g.2.W] 210,owK s3 (Jt D (bA [114,47])),bx b2 [sN,sN,sN] 210]) (vv:=fun g=>g.2) (DD:=fun g=>D) (uu:=fun _=>(u+1)) (pr:=fun g=>g.1.1≤s3.n∧g.1.2.l.length≤g.1.1) (g0:=((0,⟨_,_,_,_⟩),v)) (fun g=>s3.n - g.1.1) F M (⟨Nat.zero_le _,Nat.zero_le _⟩) fun g a w F M hp=>?_
 refine zr2 fun _ F=>?_
 refine zi F (fun h6=>?_) fun h6=>?_
 ·refine zr2 fun _ F=>?_
  refine kEl (s:=s3) F M.at' ET_44 2 g.1.1 zO (kk:=fun x7 _ hx7 ok7=>zk fun _ F=>?_)
  have hz7:=q3.sz _ (Jm hx7)
  have hg7:=J2E (q3.bg _ (Jm hx7))
  refine zG F (fun h8 F=>?_) fun h8 F=>?_
  ·refine zr2 fun _ F=>?_
   exact Jw ((g.1.1+1,g.1.2),g.2) (by dsimp only;omega) ⟨F.cut rfl,M,⟨by dsimp only;omega,yw⟩⟩
  refine zr2 fun _ F=>?_
  refine J0 (JbI F (x7.size - 2) (hl:=by omega) (kk:=fun he9=>zk fun _ F=>?_))
  refine zi F (fun h10=>?_) fun h10=>?_
  ·refine zr2 fun _ F=>?_
   exact Jw ((g.1.1+1,g.1.2),g.2) (by dsimp only;omega) ⟨F.cut rfl,M,⟨by dsimp only;omega,yw⟩⟩
  refine zr2 fun _ F=>?_
  refine J0 (kS F M (hc:=J4I M.tb M.v (p0:=J35 hx7)) (k:=fun v s11 w q11 M=>zk fun _ F=>?_))
  refine J0 (kW F M 1 [_,_,_] [_,_,_,_] (k:=fun w M=>zk fun _ F=>?_))
  refine zi F (fun h12=>?_) fun h12=>?_
  ·refine zr2 fun _ F=>?_
   refine J0 (JbH F (2) (x7.size - 2) (kk:=fun he13=>zk fun _ F=>?_))
   refine J0 (kQ F M (hc:=J4x M.st.nil.tb) (k:=fun s14 w q14 m M=>zk fun _ F=>?_))
   refine J1P F M.at' 1 (((JS (x7.extract 2 (x7.size - 2)):Nat):Int)) ET_47 (hx:=by exact J7m zO) (kk:=fun B15 N15 C15 _ w l15 m _ F=>?_)
   have M:=M.then m
   refine zr2 fun _ F=>?_
   exact Jw ((g.1.1+1,⟨_,_,_,_⟩),v) (by dsimp only;omega) ⟨F.cut rfl,M,⟨by dsimp only;omega,yw⟩⟩
  refine zr2 fun _ F=>?_
  have M:=M.pick [1,0,2,3] [_,_,_,_]
  exact Jw ((g.1.1+1,g.1.2),v) (by dsimp only;omega) ⟨F.cut rfl,M,⟨by dsimp only;omega,yw⟩⟩
 refine zr2 fun _ F=>?_
 have M:=M.unext
 refine J0 (kW F M 3 [_,_,_] [_,_,_,_] (k:=fun w M=>zk fun _ F=>?_))
 refine zde F M.at' 0 ?_
 have M:=M.pick [1] [_]
 exact Jc2 (s:=g.1.2) M (by have h1:=hp.1;have h2:=hp.2;omega) rfl
theorem J7l {c:CallD} (hT:TbO w []) (hm:RM X H w v D u) (hu:u+310≤68718428160:=by omega) (h_c:okK c:=by assumption) (p0:c.text.size≤64:=by omega) :
 Calls prog 220 #[v.val,.agg #[iV c.kind,.string c.name,.string c.to_,iV c.a,iV c.b,.string c.text]] w (PS X H w (fun v (r:Unit) (s:Int × Int × ByteArray)=>.tuple #[v.val,.agg #[iV s.1,iV s.2.1,.string s.2.2]]) () (flS D c) (u+310) (fun (_:Unit) (s:Int × Int × ByteArray)=>J1 s.1∧J1 s.2.1∧okS s.2.2)):=by
 have hk1:=h_c.1;have hk2:=h_c.2.1;have hk3:=h_c.2.2.1;have hk4:=h_c.2.2.2.1;have hk5:=h_c.2.2.2.2.1;have hk6:=h_c.2.2.2.2.2
 have M:=Sp.start hT hm
 refine zE (f:=220) fun _ F=>?_
 refine J0 (kBx F M [_,_,_] (k:=fun b1 w M=>zk fun _ F=>?_))
 refine J0 (kBx F M [_,_,_,_,_,_] (k:=fun b2 w M=>zk fun _ F=>?_))
 refine J0 (kAl F M JA [_,_,_] (k:=fun b3 w M=>zk fun _ F=>?_))
 refine J0 (kAl F M J00 [_,_,_] (k:=fun b4 w M=>zk fun _ F=>?_))
 refine Jn F M.at' 3 rfl rfl rfl rfl rfl rfl rfl rfl rfl fun _ F=>?_
 refine zr2 fun _ F=>?_
 refine J0 (kS F M (hc:=J3W M.tb M.v) (k:=fun v s5 w q5 M=>zk fun _ F=>?_))
 have q5a:=q5.1;have q5b:=q5.2
 refine J0 (kW F M 3 [_,_,_] [_,_,_,_] (k:=fun w M=>zk fun _ F=>?_))
 refine zi F (fun h6=>?_) fun h6=>?_
 ·refine zr2 fun _ F=>?_
  refine J0 (kBd F J1q (k:=zk fun _ F=>?_))
  refine J0 (kW F M 2 [_,_,_] [_,_,_,_] (k:=fun w M=>zk fun _ F=>?_))
  refine J0 (kW F M 2 [_,_,_] [_,_,_,_] (k:=fun w M=>zk fun _ F=>?_))
  refine Jg F (JU rfl (zca F M.at' 1) (zca F M.at' 0)) ?_
  exact zfS M () (_,_,_) (⟨yc,yc,ye⟩) (by rw [flS,if_pos h6])
 refine zr2 fun _ F=>?_
 refine J0 (kBd F J1q (k:=zk fun _ F=>?_))
 refine J0 (kAl F M J00 [_,_,_] (k:=fun b7 w M=>zk fun _ F=>?_))
 refine J0 (kW F M 0 [_,_,_] [_,_,_,_,_] (k:=fun w M=>zk fun _ F=>?_))
 refine Jn F M.at' 4 rfl rfl rfl rfl rfl rfl rfl rfl rfl fun _ F=>?_
 refine zr2 fun _ F=>?_
 refine zi F (fun h8=>?_) fun h8=>?_
 ·refine zr2 fun _ F=>?_
  refine Jn F M.at' 4 rfl rfl rfl rfl rfl rfl rfl rfl rfl fun _ F=>?_
  refine zr2 fun _ F=>?_
  refine Jn F M.at' 4 rfl rfl rfl rfl rfl rfl rfl rfl rfl fun _ F=>?_
  refine zr2 fun _ F=>?_
  refine J0 (kS F M (hc:=Jer M.tb M.v) (k:=fun v s9 w q9 M=>zk fun _ F=>?_))
  refine J0 (kW F M 1 [_,_,_] [_,_,_,_,_] (k:=fun w M=>zk fun _ F=>?_))
  refine J0 (kW F M 1 [_,_,_] [_,_,_,_,_] (k:=fun w M=>zk fun _ F=>?_))
  refine Jc [(_,[_,_,_],_),(_,[_,_,_],_)] [] [] [0,1,2,3] M (hd2 M.at' 1 0) mixed zK fun w M hS=>?_
  refine zr2 fun _ F=>?_
  refine J2 rfl rfl (kW F M 3 [_,_,_] [_,_,_,_,_] (k:=fun w M=>kH (hd2 M.at' 2 1) (zkN fun _ F=>?_)))
  refine J2 rfl rfl (kW F M 3 [_,_,_] [_,_,_,_,_] (k:=fun w M=>kF (zkN fun _ F=>?_)))
  refine Jg F (JU rfl (zca F M.at' 1) (zca F M.at' 0)) ?_
  exact zfS M () (_,_,_) (⟨yc,yc,ye⟩) (by rw [flS,if_neg h6,if_pos h8])
 refine zr2 fun _ F=>?_
 refine zi F (fun h10=>?_) fun h10=>?_
 ·refine zr2 fun _ F=>?_
  refine Jn F M.at' 4 rfl rfl rfl rfl rfl rfl rfl rfl rfl fun _ F=>?_
  refine zr2 fun _ F=>?_
  refine Jn F M.at' 4 rfl rfl rfl rfl rfl rfl rfl rfl rfl fun _ F=>?_
  refine zr2 fun _ F=>?_
  refine J0 (kS F M (hc:=Je3 M.tb M.v) (k:=fun v s11 w q11 M=>zk fun _ F=>?_))
  refine J0 (kW F M 1 [_,_,_] [_,_,_,_,_] (k:=fun w M=>zk fun _ F=>?_))
  refine J0 (kW F M 1 [_,_,_] [_,_,_,_,_] (k:=fun w M=>zk fun _ F=>?_))
  refine Jc [(_,[_,_,_],_),(_,[_,_,_],_)] [] [] [0,1,2,3] M (hd2 M.at' 1 0) mixed zK fun w M hS=>?_
  refine zr2 fun _ F=>?_
  refine J2 rfl rfl (kW F M 3 [_,_,_] [_,_,_,_,_] (k:=fun w M=>kH (hd2 M.at' 2 1) (zkN fun _ F=>?_)))
  refine J2 rfl rfl (kW F M 3 [_,_,_] [_,_,_,_,_] (k:=fun w M=>kF (zkN fun _ F=>?_)))
  refine Jg F (JU rfl (zca F M.at' 1) (zca F M.at' 0)) ?_
  exact zfS M () (_,_,_) (⟨yc,yc,ye⟩) (by rw [flS,if_neg h6,if_neg h8,if_pos h10])
 refine zr2 fun _ F=>?_
 refine Jn F M.at' 4 rfl rfl rfl rfl rfl rfl rfl rfl rfl fun _ F=>?_
 refine zr2 fun _ F=>?_
 refine J0 (kS F M (hc:=JeJ M.tb M.v) (k:=fun v s12 w q12 M=>zk fun _ F=>?_))
 refine J0 (kW F M 1 [_,_,_] [_,_,_,_,_] (k:=fun w M=>zk fun _ F=>?_))
 refine J0 (kW F M 1 [_,_,_] [_,_,_,_,_] (k:=fun w M=>zk fun _ F=>?_))
 refine Jc [(_,[_,_,_],_),(_,[_,_,_],_)] [] [] [0,1,2,3] M (hd2 M.at' 1 0) mixed zK fun w M hS=>?_
 refine zr2 fun _ F=>?_
 refine J2 rfl rfl (kW F M 3 [_,_,_] [_,_,_,_,_] (k:=fun w M=>kH (hd2 M.at' 2 1) (zkN fun _ F=>?_)))
 refine J2 rfl rfl (kW F M 3 [_,_,_] [_,_,_,_,_] (k:=fun w M=>kF (zkN fun _ F=>?_)))
 refine Jg F (JU rfl (zca F M.at' 1) (zca F M.at' 0)) ?_
 exact zfS M () (_,_,_) (⟨yc,yc,ye⟩) (by rw [flS,if_neg h6,if_neg h8,if_neg h10])
end
end Go.Proofs.YtipdbeklopjbmaaGreatDoor
