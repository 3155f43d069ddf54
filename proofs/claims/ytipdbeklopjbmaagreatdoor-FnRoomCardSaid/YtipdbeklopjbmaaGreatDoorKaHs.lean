/-
  Walks: the reference's calls, all.
-/
import Derived.Test.YtipdbeklopjbmaaGreatDoorKaGs
import Derived.Test.YtipdbeklopjbmaaGreatDoorKaT0
import Derived.Test.YtipdbeklopjbmaaGreatDoorKaT1
import Derived.Test.YtipdbeklopjbmaaGreatDoorP21
set_option linter.unusedVariables false
set_option linter.unusedSimpArgs false
namespace Go.Proofs.YtipdbeklopjbmaaGreatDoor
open Go.ChangeShapes Go.WideShapes Go.ChangeAt Go.RowKit Go.Proofs.Tryz
set_option maxRecDepth 100000
set_option maxHeartbeats 1000000
section
set_option maxHeartbeats 8000000
variable {X:Uni} {w:World} {b u:Nat} {v:MV} {D:List CellD} {H:Nat→Prop}
theorem JfG (hT:TbO w []) (hm:RM X H w v D u) (hu:u+1≤68718428160:=by omega) :
 Calls prog 219 #[v.val] w (PS X H w (fun v (r:Unit) (s:Int × Int × ByteArray)=>.tuple #[v.val,.agg #[iV s.1,iV s.2.1,.string s.2.2]]) () D (u+1) (fun (_:Unit) (s:Int × Int × ByteArray)=>J1 s.1∧J1 s.2.1∧okS s.2.2)):=by
 have M:=Sp.start hT hm
 refine zE (f:=219) fun _ F=>?_
 refine J0 (kBx F M [_,_,_] (k:=fun b1 w M=>zk fun _ F=>?_))
 refine J0 (kAl F M JA [_,_,_] (k:=fun b2 w M=>zk fun _ F=>?_))
 refine J0 (kAl F M J00 [_,_,_] (k:=fun b3 w M=>zk fun _ F=>?_))
 refine J0 (kLS F M (hc:=Jgx M.tb M.v) (kk:=fun v s4 w q4 M=>zk fun _ F=>?_))
 have hn4:=GL.inv M.at' 0 rfl (by intro _;rfl)
 refine J0 (kW F M 3 [_,_,_] [_,_,_,_] (k:=fun w M=>zk fun _ F=>?_))
 refine J0 (kBd F J1q (k:=zk fun _ F=>?_))
 refine J0 (kAl F M J00 [_,_,_] (k:=fun b5 w M=>zk fun _ F=>?_))
 refine J0 (kW F M 0 [_,_,_] [_,_,_,_,_] (k:=fun w M=>zk fun _ F=>?_))
 have F:=F.cut (m':=[(6,_),(1,_),(2,_),(3,_),(4,_),(5,_)]) rfl
 refine J1e (γ:=(Nat × ByteArray) × MV) (slots:=fun g=>[(6,nV g.1.1)]) (LL:=fun g=>[bx b5 [iV 0,iV 0,.string g.1.2] 155,bx b1 [g.2.S,g.2.R,g.2.W] 210,owG 9 1 J3 okS s4,bx b3 [iV 0,iV 0,.string (⟨#[]⟩:ByteArray)] 155,bx b2 [sN,sN,sN] 210]) (vv:=fun g=>g.2) (DD:=fun g=>D) (uu:=fun _=>(u+1)) (pr:=fun g=>g.1.1≤s4.n∧g.1.2.size≤g.1.1 * 1048577) (g0:=((0,⟨#[]⟩),v)) (fun g=>s4.n - g.1.1) F M (⟨Nat.zero_le _,Nat.zero_le _⟩) fun g a w F M hp=>?_
 have hgq:=q4
 refine zr2 fun _ F=>?_
 refine zi F (fun h7=>?_) fun h7=>?_
 ·refine zr2 fun _ F=>?_
  refine Jc [(_,[_,_,_],_)] [rdx 1 J3 okS _ _] [] [0,1,2,3,4,5,6,7,8,9] M (HdK.one M.at' 2 rfl (HdS.cons M.at' 0 rfl HdS.nil)) mixed zK fun w M hS=>?_
  refine zr2 fun _ F=>?_
  refine J0c F rfl rfl rfl rfl rfl rfl rfl rfl fun _ F=>?_
  refine zr2 fun _ F=>?_
  refine JbP (q:=s4.n) J0j F hS ET_44 0 (g.1.1) (Value.string) zO (kk:=fun x8 _ hx8 ok8=>have hb8:=hgq.2 _ (Jm hx8);have hc8:(g.1.2++x8).size=g.1.2.size+x8.size:=ByteArray.size_append;zkN fun _ F=>?_)
  refine J0c F rfl rfl rfl rfl rfl rfl rfl rfl fun _ F=>?_
  refine zr2 fun _ F=>?_
  refine J2 rfl rfl (kW F M 0 [_,_,_] [_,_,_,_,_] (k:=fun w M=>kF (zkN fun _ F=>?_)))
  exact Jw ((g.1.1+1,_),g.2) (by dsimp only;omega) ⟨F.cut rfl,M,⟨by dsimp only;omega,by simp only [ByteArray.size_append,sz1];omega⟩⟩
 refine zr2 fun _ F=>?_
 refine Jc [(_,[_,_,_],_),(_,[_,_,_],_)] [] [] [0,1,2,3] M (hd2 M.at' 1 0) mixed zK fun w M hS=>?_
 refine zr2 fun _ F=>?_
 refine J2 rfl rfl (kW F M 4 [_,_,_] [_,_,_,_,_] (k:=fun w M=>kH (hd2 M.at' 2 1) (zkN fun _ F=>?_)))
 refine J2 rfl rfl (kW F M 4 [_,_,_] [_,_,_,_,_] (k:=fun w M=>kF (zkN fun _ F=>?_)))
 refine Jg F (JU rfl (zca F M.at' 1) (zca F M.at' 0)) ?_
 exact zfS M () (_,_,_) (⟨yc,yc,ye⟩) (rfl)
theorem Jhz {c:CallD} (hT:TbO w []) (hm:RM X H w v D u) (hu:u+20≤68718428160:=by omega) (hi64:J1 X.P:=by assumption) (h_c:okK c:=by assumption) :
 Calls prog 231 #[v.val,iV X.P,.agg #[iV c.kind,.string c.name,.string c.to_,iV c.a,iV c.b,.string c.text]] w (PS X H w (fun v (r:Unit) (s:Int × Int × ByteArray)=>.tuple #[v.val,.agg #[iV s.1,iV s.2.1,.string s.2.2]]) () (prS D X.P c) (u+20) (fun (_:Unit) (s:Int × Int × ByteArray)=>J1 s.1∧J1 s.2.1∧okS s.2.2)):=by
 have hk1:=h_c.1;have hk2:=h_c.2.1;have hk3:=h_c.2.2.1;have hk4:=h_c.2.2.2.1;have hk5:=h_c.2.2.2.2.1;have hk6:=h_c.2.2.2.2.2
 have M:=Sp.start hT hm
 refine zE (f:=231) fun _ F=>?_
 refine J0 (kBx F M [_,_,_] (k:=fun b1 w M=>zk fun _ F=>?_))
 refine J0 (kBx F M [_,_,_,_,_,_] (k:=fun b2 w M=>zk fun _ F=>?_))
 refine J0 (kAl F M JA [_,_,_] (k:=fun b3 w M=>zk fun _ F=>?_))
 refine J0 (kAl F M J00 [_,_,_] (k:=fun b4 w M=>zk fun _ F=>?_))
 refine J0 (kBd F J1q (k:=zk fun _ F=>?_))
 refine J0 (kAl F M J00 [_,_,_] (k:=fun b5 w M=>zk fun _ F=>?_))
 refine J0 (kW F M 0 [_,_,_] [_,_,_,_,_] (k:=fun w M=>zk fun _ F=>?_))
 refine Jn F M.at' 3 rfl rfl rfl rfl rfl rfl rfl rfl rfl fun _ F=>?_
 refine zr2 fun _ F=>?_
 refine zi F (fun h6=>?_) fun h6=>?_
 ·refine zr2 fun _ F=>?_
  refine Jn F M.at' 4 rfl rfl rfl rfl rfl rfl rfl rfl rfl fun _ F=>?_
  refine zr2 fun _ F=>?_
  refine J0 (kS F M (hc:=JaC M.tb M.v) (k:=fun v s7 w q7 M=>zk fun _ F=>?_))
  have q7a:=q7.1;have q7b:=q7.2
  refine J0 (kW F M 4 [_,_,_] [_,_,_,_,_] (k:=fun w M=>zk fun _ F=>?_))
  refine J0 (kW F M 1 [_,_,_] [_,_,_,_,_] (k:=fun w M=>zk fun _ F=>?_))
  refine J0 (kW F M 0 [_,_,_] [_,_,_,_,_] (k:=fun w M=>zk fun _ F=>?_))
  refine zi F (fun h8=>?_) fun h8=>?_
  ·refine zr2 fun _ F=>?_
   refine J0 (kS F M (hc:=fork_s M.tb M.v (p0:=Jb6 (by assumption))) (k:=fun v s9 w q9 M=>zk fun _ F=>?_))
   refine J0 (kW F M 1 [_,_,_] [_,_,_,_,_] (k:=fun w M=>zk fun _ F=>?_))
   refine Jc [(_,[_,_,_],_),(_,[_,_,_],_)] [] [] [0,1,2,3] M (hd2 M.at' 0 1) mixed zK fun w M hS=>?_
   refine zr2 fun _ F=>?_
   refine J2 rfl rfl (kW F M 3 [_,_,_] [_,_,_,_,_] (k:=fun w M=>kH (hd2 M.at' 1 2) (zkN fun _ F=>?_)))
   refine J2 rfl rfl (kW F M 3 [_,_,_] [_,_,_,_,_] (k:=fun w M=>kF (zkN fun _ F=>?_)))
   refine Jg F (JU rfl (zca F M.at' 1) (zca F M.at' 0)) ?_
   exact zfS M () (_,_,_) (⟨yc,yc,ye⟩) (by rw [prS,if_pos h6,if_pos h8])
  refine zr2 fun _ F=>?_
  refine Jc [(_,[_,_,_],_),(_,[_,_,_],_)] [] [] [0,1,2,3] M (hd2 M.at' 1 0) mixed zK fun w M hS=>?_
  refine zr2 fun _ F=>?_
  refine J2 rfl rfl (kW F M 3 [_,_,_] [_,_,_,_,_] (k:=fun w M=>kH (hd2 M.at' 2 1) (zkN fun _ F=>?_)))
  refine J2 rfl rfl (kW F M 3 [_,_,_] [_,_,_,_,_] (k:=fun w M=>kF (zkN fun _ F=>?_)))
  refine Jg F (JU rfl (zca F M.at' 1) (zca F M.at' 0)) ?_
  exact zfS M () (_,_,_) (⟨yc,yc,ye⟩) (by rw [prS,if_pos h6,if_neg h8])
 refine zr2 fun _ F=>?_
 refine zi F (fun h10=>?_) fun h10=>?_
 ·refine zr2 fun _ F=>?_
  refine Jn F M.at' 4 rfl rfl rfl rfl rfl rfl rfl rfl rfl fun _ F=>?_
  refine zr2 fun _ F=>?_
  refine Jn F M.at' 3 rfl rfl rfl rfl rfl rfl rfl rfl rfl fun _ F=>?_
  refine zr2 fun _ F=>?_
  refine J0 (kS F M (hc:=end_s M.tb M.v) (k:=fun v s11 w q11 M=>zk fun _ F=>?_))
  refine J0 (kW F M 4 [_,_,_] [_,_,_,_,_] (k:=fun w M=>zk fun _ F=>?_))
  refine J0 (kW F M 1 [_,_,_] [_,_,_,_,_] (k:=fun w M=>zk fun _ F=>?_))
  refine zi F (fun h12=>?_) fun h12=>?_
  ·refine zr2 fun _ F=>?_
   refine J0 (kS F M (hc:=JdQ M.tb M.v) (k:=fun v s13 w q13 M=>zk fun _ F=>?_))
   refine J0 (kW F M 1 [_,_,_] [_,_,_,_,_] (k:=fun w M=>zk fun _ F=>?_))
   refine Jc [(_,[_,_,_],_),(_,[_,_,_],_)] [] [] [0,1,2,3] M (hd2 M.at' 0 1) mixed zK fun w M hS=>?_
   refine zr2 fun _ F=>?_
   refine J2 rfl rfl (kW F M 3 [_,_,_] [_,_,_,_,_] (k:=fun w M=>kH (hd2 M.at' 1 2) (zkN fun _ F=>?_)))
   refine J2 rfl rfl (kW F M 3 [_,_,_] [_,_,_,_,_] (k:=fun w M=>kF (zkN fun _ F=>?_)))
   refine Jg F (JU rfl (zca F M.at' 1) (zca F M.at' 0)) ?_
   exact zfS M () (_,_,_) (⟨yc,yc,ye⟩) (by rw [prS,if_neg h6,if_pos h10,if_pos h12])
  refine zr2 fun _ F=>?_
  refine Jc [(_,[_,_,_],_),(_,[_,_,_],_)] [] [] [0,1,2,3] M (hd2 M.at' 1 0) mixed zK fun w M hS=>?_
  refine zr2 fun _ F=>?_
  refine J2 rfl rfl (kW F M 3 [_,_,_] [_,_,_,_,_] (k:=fun w M=>kH (hd2 M.at' 2 1) (zkN fun _ F=>?_)))
  refine J2 rfl rfl (kW F M 3 [_,_,_] [_,_,_,_,_] (k:=fun w M=>kF (zkN fun _ F=>?_)))
  refine Jg F (JU rfl (zca F M.at' 1) (zca F M.at' 0)) ?_
  exact zfS M () (_,_,_) (⟨yc,yc,ye⟩) (by rw [prS,if_neg h6,if_pos h10,if_neg h12])
 refine zr2 fun _ F=>?_
 refine zi F (fun h14=>?_) fun h14=>?_
 ·refine zr2 fun _ F=>?_
  refine Jn F M.at' 4 rfl rfl rfl rfl rfl rfl rfl rfl rfl fun _ F=>?_
  refine zr2 fun _ F=>?_
  refine Jn F M.at' 3 rfl rfl rfl rfl rfl rfl rfl rfl rfl fun _ F=>?_
  refine zr2 fun _ F=>?_
  refine J0 (kS F M (hc:=JhN M.tb M.v) (k:=fun v s15 w q15 M=>zk fun _ F=>?_))
  have q15a:=q15.1;have q15b:=q15.2
  refine J0 (kW F M 4 [_,_,_] [_,_,_,_,_] (k:=fun w M=>zk fun _ F=>?_))
  refine J0 (kW F M 1 [_,_,_] [_,_,_,_,_] (k:=fun w M=>zk fun _ F=>?_))
  refine J0 (kW F M 0 [_,_,_] [_,_,_,_,_] (k:=fun w M=>zk fun _ F=>?_))
  refine Jc [(_,[_,_,_],_),(_,[_,_,_],_)] [] [] [0,1,2,3] M (hd2 M.at' 1 0) mixed zK fun w M hS=>?_
  refine zr2 fun _ F=>?_
  refine J2 rfl rfl (kW F M 3 [_,_,_] [_,_,_,_,_] (k:=fun w M=>kH (hd2 M.at' 2 1) (zkN fun _ F=>?_)))
  refine J2 rfl rfl (kW F M 3 [_,_,_] [_,_,_,_,_] (k:=fun w M=>kF (zkN fun _ F=>?_)))
  refine Jg F (JU rfl (zca F M.at' 1) (zca F M.at' 0)) ?_
  exact zfS M () (_,_,_) (⟨yc,yc,ye⟩) (by rw [prS,if_neg h6,if_neg h10,if_pos h14])
 refine zr2 fun _ F=>?_
 refine J0 (J4b (ok:=okI) F M.at' ET_47 (kk:=fun b16 w m _ F=>?_))
 have M:=M.then m
 refine zr2 fun _ F=>?_
 refine Jn F M.at' 5 rfl rfl rfl rfl rfl rfl rfl rfl rfl fun _ F=>?_
 refine zr2 fun _ F=>?_
 refine J0 (kLS F M (hc:=Jhl M.tb M.v) (kk:=fun v s17 w q17 M=>zk fun _ F=>?_))
 have hn17:=GL.inv M.at' 0 rfl (by intro _;rfl)
 refine J0 (kW F M 6 [_,_,_] [_,_,_,_,_,_,_] (k:=fun w M=>zk fun _ F=>?_))
 have M:=M.pick [0,1,3,4,5,6] [_,_,_,_,_,_]
 have F:=F.cut (m':=[(10,_),(1,_),(3,_),(5,_),(6,_),(7,_),(8,_),(13,_),(38,_),(37,_),(57,_),(56,_),(74,_),(73,_),(9,_)]) rfl
 refine J1e (γ:=(Nat × ByteArray) × MV) (slots:=fun g=>[(10,nV g.1.1)]) (LL:=fun g=>[bx b1 [g.2.S,g.2.R,g.2.W] 210,owG 3 1 J0w okI s17,bx b5 [iV 0,iV 0,.string g.1.2] 155,bx b4 [iV 0,iV 0,.string (⟨#[]⟩:ByteArray)] 155,bx b3 [sN,sN,sN] 210,bx b2 [iV c.kind,.string c.name,.string c.to_,iV c.a,iV c.b,.string c.text] 153]) (vv:=fun g=>g.2) (DD:=fun g=>D) (uu:=fun _=>(u+2)) (pr:=fun g=>g.1.1≤s17.n∧g.1.2.size≤g.1.1 * 22) (g0:=((0,⟨#[]⟩),v)) (fun g=>s17.n - g.1.1) F M (⟨Nat.zero_le _,Nat.zero_le _⟩) fun g a w F M hp=>?_
 have hgq:=q17
 refine zr2 fun _ F=>?_
 refine zi F (fun h19=>?_) fun h19=>?_
 ·refine zr2 fun _ F=>?_
  refine Jc [(_,[_,_,_],_)] [rdx 1 J0w okI _ _] [] [0,1,2,3,4,5,6,7,8,9,10] M (HdK.one M.at' 1 rfl (HdS.cons M.at' 2 rfl HdS.nil)) mixed zK fun w M hS=>?_
  refine zr2 fun _ F=>?_
  refine J0c F rfl rfl rfl rfl rfl rfl rfl rfl fun _ F=>?_
  refine zr2 fun _ F=>?_
  refine JbP (q:=s17.n) J3b F hS ET_47 0 (g.1.1) (Value.int .i64) zO (kk:=fun x20 _ hx20 ok20=>have hd20:=J2i _ ok20;have hc20:(g.1.2++Jj x20).size=g.1.2.size+(Jj x20).size:=ByteArray.size_append;zkN fun _ F=>?_)
  refine J2 rfl rfl (kQ F M (hc:=J5F M.st.nil.tb) (k:=fun s21 w q21 m M=>kB m (zkN fun _ F=>?_)))
  refine J0c F rfl rfl rfl rfl rfl rfl rfl rfl fun _ F=>?_
  refine zr2 fun _ F=>?_
  refine J2 rfl rfl (kW F M 2 [_,_,_] [_,_,_,_,_,_] (k:=fun w M=>kF (zkN fun _ F=>?_)))
  have M:=M.pick [1,2,0,3,4,5] [_,_,_,_,_,_]
  exact Jw ((g.1.1+1,_),g.2) (by dsimp only;omega) ⟨F.cut rfl,M,⟨by dsimp only;omega,by simp only [ByteArray.size_append,sz1];omega⟩⟩
 refine zr2 fun _ F=>?_
 refine Jc [(_,[_,_,_],_),(_,[_,_,_],_)] [] [] [0,1,2,3] M (hd2 M.at' 0 2) mixed zK fun w M hS=>?_
 refine zr2 fun _ F=>?_
 refine J2 rfl rfl (kW F M 4 [_,_,_] [_,_,_,_,_,_] (k:=fun w M=>kH (hd2 M.at' 1 3) (zkN fun _ F=>?_)))
 refine J2 rfl rfl (kW F M 4 [_,_,_] [_,_,_,_,_,_] (k:=fun w M=>kF (zkN fun _ F=>?_)))
 refine Jg F (JU rfl (zca F M.at' 1) (zca F M.at' 0)) ?_
 exact zfS M () (_,_,_) (⟨yc,yc,ye⟩) (by rw [prS,if_neg h6,if_neg h10,if_neg h14])
theorem J29 {c:CallD} (hT:TbO w []) (hm:RM X H w v D u) (hu:u+330≤68718428160:=by omega) (hi64:J1 X.P:=by assumption) (h_c:okK c:=by assumption) :
 Calls prog 178 #[v.val,iV X.P,.agg #[iV c.kind,.string c.name,.string c.to_,iV c.a,iV c.b,.string c.text]] w (PS X H w (fun v (r:Unit) (s:Int × Int × ByteArray)=>.tuple #[v.val,.agg #[iV s.1,iV s.2.1,.string s.2.2]]) () (doS D X.P c) (u+330) (fun (_:Unit) (s:Int × Int × ByteArray)=>J1 s.1∧J1 s.2.1∧okS s.2.2)):=by
 have hk1:=h_c.1;have hk2:=h_c.2.1;have hk3:=h_c.2.2.1;have hk4:=h_c.2.2.2.1;have hk5:=h_c.2.2.2.2.1;have hk6:=h_c.2.2.2.2.2
 have M:=Sp.start hT hm
 refine zE (f:=178) fun _ F=>?_
 refine J0 (kBx F M [_,_,_] (k:=fun b1 w M=>zk fun _ F=>?_))
 refine J0 (kBx F M [_,_,_,_,_,_] (k:=fun b2 w M=>zk fun _ F=>?_))
 refine J0 (kAl F M JA [_,_,_] (k:=fun b3 w M=>zk fun _ F=>?_))
 refine J0 (kAl F M J00 [_,_,_] (k:=fun b4 w M=>zk fun _ F=>?_))
 refine Jn F M.at' 3 rfl rfl rfl rfl rfl rfl rfl rfl rfl fun _ F=>?_
 refine zr2 fun _ F=>?_
 refine J0 (kS F M (hc:=J78 M.tb M.v) (k:=fun v s5 w q5 M=>zk fun _ F=>?_))
 have q5a:=q5.1;have q5b:=q5.2
 refine J0 (kW F M 3 [_,_,_] [_,_,_,_] (k:=fun w M=>zk fun _ F=>?_))
 refine zi F (fun h6=>?_) fun h6=>?_
 ·refine zr2 fun _ F=>?_
  refine J0 (kBd F J1q (k:=zk fun _ F=>?_))
  refine J0 (kW F M 2 [_,_,_] [_,_,_,_] (k:=fun w M=>zk fun _ F=>?_))
  refine J0 (kW F M 2 [_,_,_] [_,_,_,_] (k:=fun w M=>zk fun _ F=>?_))
  refine Jg F (JU rfl (zca F M.at' 1) (zca F M.at' 0)) ?_
  exact zfS M () (_,_,_) (⟨yc,yc,ye⟩) (congrArg (Prod.mk ()) (JbB h6).symm)
 refine zr2 fun _ F=>?_
 refine Jn F M.at' 3 rfl rfl rfl rfl rfl rfl rfl rfl rfl fun _ F=>?_
 refine zr2 fun _ F=>?_
 refine J0 (kQ F M (hc:=Jfn M.st.nil.tb) (k:=fun s7 w q7 m M=>zk fun _ F=>?_))
 refine zib F (fun h8=>?_) fun h8=>?_
 ·refine zr2 fun _ F=>?_
  refine J0 (kBd F J1q (k:=zk fun _ F=>?_))
  refine J0 (kW F M 2 [_,_,_] [_,_,_,_] (k:=fun w M=>zk fun _ F=>?_))
  refine J0 (kW F M 2 [_,_,_] [_,_,_,_] (k:=fun w M=>zk fun _ F=>?_))
  refine Jg F (JU rfl (zca F M.at' 1) (zca F M.at' 0)) ?_
  exact zfS M () (_,_,_) (⟨yc,yc,ye⟩) (congrArg (Prod.mk ()) (JbA (nt h8)).symm)
 refine zr2 fun _ F=>?_
 have hbd:=J4s (nf (by assumption))
 refine J0 (kBd F J1q (k:=zk fun _ F=>?_))
 refine J0 (kAl F M J00 [_,_,_] (k:=fun b9 w M=>zk fun _ F=>?_))
 refine J0 (kW F M 0 [_,_,_] [_,_,_,_,_] (k:=fun w M=>zk fun _ F=>?_))
 refine Jn F M.at' 4 rfl rfl rfl rfl rfl rfl rfl rfl rfl fun _ F=>?_
 refine zr2 fun _ F=>?_
 refine zi F (fun h10=>?_) fun h10=>?_
 ·refine zr2 fun _ F=>?_
  refine Jn F M.at' 4 rfl rfl rfl rfl rfl rfl rfl rfl rfl fun _ F=>?_
  refine zr2 fun _ F=>?_
  refine J0 (kS F M (hc:=Jel M.tb M.v) (k:=fun v s11 w q11 M=>zk fun _ F=>?_))
  have q11a:=q11.1;have q11b:=q11.2
  refine J0 (kW F M 1 [_,_,_] [_,_,_,_,_] (k:=fun w M=>zk fun _ F=>?_))
  refine J0 (kW F M 1 [_,_,_] [_,_,_,_,_] (k:=fun w M=>zk fun _ F=>?_))
  refine J0 (kW F M 0 [_,_,_] [_,_,_,_,_] (k:=fun w M=>zk fun _ F=>?_))
  refine Jc [(_,[_,_,_],_),(_,[_,_,_],_)] [] [] [0,1,2,3] M (hd2 M.at' 1 0) mixed zK fun w M hS=>?_
  refine zr2 fun _ F=>?_
  refine J2 rfl rfl (kW F M 3 [_,_,_] [_,_,_,_,_] (k:=fun w M=>kH (hd2 M.at' 2 1) (zkN fun _ F=>?_)))
  refine J2 rfl rfl (kW F M 3 [_,_,_] [_,_,_,_,_] (k:=fun w M=>kF (zkN fun _ F=>?_)))
  refine Jg F (JU rfl (zca F M.at' 1) (zca F M.at' 0)) ?_
  exact zfS M () (_,_,_) (⟨yc,yc,ye⟩) (congrArg (Prod.mk ()) (JJ h6 (nf h8) h10 rfl).symm)
 refine zr2 fun _ F=>?_
 refine zi F (fun h12=>?_) fun h12=>?_
 ·refine zr2 fun _ F=>?_
  refine Jn F M.at' 4 rfl rfl rfl rfl rfl rfl rfl rfl rfl fun _ F=>?_
  refine zr2 fun _ F=>?_
  refine Jn F M.at' 4 rfl rfl rfl rfl rfl rfl rfl rfl rfl fun _ F=>?_
  refine zr2 fun _ F=>?_
  refine J0 (kS F M (hc:=Jeh M.tb M.v) (k:=fun v s13 w q13 M=>zk fun _ F=>?_))
  refine J0 (kW F M 1 [_,_,_] [_,_,_,_,_] (k:=fun w M=>zk fun _ F=>?_))
  refine J0 (kW F M 1 [_,_,_] [_,_,_,_,_] (k:=fun w M=>zk fun _ F=>?_))
  refine Jc [(_,[_,_,_],_),(_,[_,_,_],_)] [] [] [0,1,2,3] M (hd2 M.at' 1 0) mixed zK fun w M hS=>?_
  refine zr2 fun _ F=>?_
  refine J2 rfl rfl (kW F M 3 [_,_,_] [_,_,_,_,_] (k:=fun w M=>kH (hd2 M.at' 2 1) (zkN fun _ F=>?_)))
  refine J2 rfl rfl (kW F M 3 [_,_,_] [_,_,_,_,_] (k:=fun w M=>kF (zkN fun _ F=>?_)))
  refine Jg F (JU rfl (zca F M.at' 1) (zca F M.at' 0)) ?_
  exact zfS M () (_,_,_) (⟨yc,yc,ye⟩) (congrArg (Prod.mk ()) (JJ h6 (nf h8) h12 rfl).symm)
 refine zr2 fun _ F=>?_
 refine zi F (fun h14=>?_) fun h14=>?_
 ·refine zr2 fun _ F=>?_
  refine Jn F M.at' 4 rfl rfl rfl rfl rfl rfl rfl rfl rfl fun _ F=>?_
  refine zr2 fun _ F=>?_
  refine J0 (kS F M (hc:=unlinkName_s M.tb M.v) (k:=fun v s15 w q15 M=>zk fun _ F=>?_))
  refine J0 (kW F M 1 [_,_,_] [_,_,_,_,_] (k:=fun w M=>zk fun _ F=>?_))
  refine J0 (kW F M 1 [_,_,_] [_,_,_,_,_] (k:=fun w M=>zk fun _ F=>?_))
  refine Jc [(_,[_,_,_],_),(_,[_,_,_],_)] [] [] [0,1,2,3] M (hd2 M.at' 1 0) mixed zK fun w M hS=>?_
  refine zr2 fun _ F=>?_
  refine J2 rfl rfl (kW F M 3 [_,_,_] [_,_,_,_,_] (k:=fun w M=>kH (hd2 M.at' 2 1) (zkN fun _ F=>?_)))
  refine J2 rfl rfl (kW F M 3 [_,_,_] [_,_,_,_,_] (k:=fun w M=>kF (zkN fun _ F=>?_)))
  refine Jg F (JU rfl (zca F M.at' 1) (zca F M.at' 0)) ?_
  exact zfS M () (_,_,_) (⟨yc,yc,ye⟩) (congrArg (Prod.mk ()) (JJ h6 (nf h8) h14 rfl).symm)
 refine zr2 fun _ F=>?_
 refine zi F (fun h16=>?_) fun h16=>?_
 ·refine zr2 fun _ F=>?_
  refine Jn F M.at' 4 rfl rfl rfl rfl rfl rfl rfl rfl rfl fun _ F=>?_
  refine zr2 fun _ F=>?_
  refine Jn F M.at' 4 rfl rfl rfl rfl rfl rfl rfl rfl rfl fun _ F=>?_
  refine zr2 fun _ F=>?_
  refine J0 (kS F M (hc:=JdE M.tb M.v) (k:=fun v s17 w q17 M=>zk fun _ F=>?_))
  refine J0 (kW F M 1 [_,_,_] [_,_,_,_,_] (k:=fun w M=>zk fun _ F=>?_))
  refine J0 (kW F M 1 [_,_,_] [_,_,_,_,_] (k:=fun w M=>zk fun _ F=>?_))
  refine Jc [(_,[_,_,_],_),(_,[_,_,_],_)] [] [] [0,1,2,3] M (hd2 M.at' 1 0) mixed zK fun w M hS=>?_
  refine zr2 fun _ F=>?_
  refine J2 rfl rfl (kW F M 3 [_,_,_] [_,_,_,_,_] (k:=fun w M=>kH (hd2 M.at' 2 1) (zkN fun _ F=>?_)))
  refine J2 rfl rfl (kW F M 3 [_,_,_] [_,_,_,_,_] (k:=fun w M=>kF (zkN fun _ F=>?_)))
  refine Jg F (JU rfl (zca F M.at' 1) (zca F M.at' 0)) ?_
  exact zfS M () (_,_,_) (⟨yc,yc,ye⟩) (congrArg (Prod.mk ()) (JJ h6 (nf h8) h16 rfl).symm)
 refine zr2 fun _ F=>?_
 refine zi F (fun h18=>?_) fun h18=>?_
 ·refine zr2 fun _ F=>?_
  refine J0 (kS F M (hc:=JfG M.tb M.v) (k:=fun v s19 w q19 M=>zk fun _ F=>?_))
  have q19a:=q19.1;have q19b:=q19.2;have q19c:=q19.2.1;have q19d:=q19.2.2
  refine J0 (kW F M 3 [_,_,_] [_,_,_,_,_] (k:=fun w M=>zk fun _ F=>?_))
  refine J0 (kW F M 3 [_,_,_] [_,_,_,_,_] (k:=fun w M=>zk fun _ F=>?_))
  refine Jg F (JU rfl (zca F M.at' 1) (zca F M.at' 0)) ?_
  exact zfS M () (_,_,_) (⟨yc,yc,ye⟩) (congrArg (Prod.mk ()) (JJ h6 (nf h8) h18 rfl).symm)
 refine zr2 fun _ F=>?_
 refine zi F (fun h20=>?_) fun h20=>?_
 ·refine zr2 fun _ F=>?_
  refine zi F (fun _=>?_) fun hz=>absurd h20 hz
  refine zr2 fun _ F=>?_
  refine Jn F M.at' 4 rfl rfl rfl rfl rfl rfl rfl rfl rfl fun _ F=>?_
  refine zr2 fun _ F=>?_
  refine J0 (kS F M (hc:=J7l M.tb M.v) (k:=fun v s21 w q21 M=>zk fun _ F=>?_))
  have q21a:=q21.1;have q21b:=q21.2;have q21c:=q21.2.1;have q21d:=q21.2.2
  refine J0 (kW F M 3 [_,_,_] [_,_,_,_,_] (k:=fun w M=>zk fun _ F=>?_))
  refine J0 (kW F M 3 [_,_,_] [_,_,_,_,_] (k:=fun w M=>zk fun _ F=>?_))
  refine Jg F (JU rfl (zca F M.at' 1) (zca F M.at' 0)) ?_
  exact zfS M () (_,_,_) (⟨yc,yc,ye⟩) (congrArg (Prod.mk ()) (JJ h6 (nf h8) h20 (JbC h20)).symm)
 refine zr2 fun _ F=>?_
 refine zi F (fun h22=>?_) fun h22=>?_
 ·refine zr2 fun _ F=>?_
  refine zi F (fun _=>?_) fun hz=>absurd h22 hz
  refine zr2 fun _ F=>?_
  refine Jn F M.at' 4 rfl rfl rfl rfl rfl rfl rfl rfl rfl fun _ F=>?_
  refine zr2 fun _ F=>?_
  refine J0 (kS F M (hc:=J7l M.tb M.v) (k:=fun v s23 w q23 M=>zk fun _ F=>?_))
  have q23a:=q23.1;have q23b:=q23.2;have q23c:=q23.2.1;have q23d:=q23.2.2
  refine J0 (kW F M 3 [_,_,_] [_,_,_,_,_] (k:=fun w M=>zk fun _ F=>?_))
  refine J0 (kW F M 3 [_,_,_] [_,_,_,_,_] (k:=fun w M=>zk fun _ F=>?_))
  refine Jg F (JU rfl (zca F M.at' 1) (zca F M.at' 0)) ?_
  exact zfS M () (_,_,_) (⟨yc,yc,ye⟩) (congrArg (Prod.mk ()) (JJ h6 (nf h8) h22 (JbD h22)).symm)
 refine zr2 fun _ F=>?_
 refine zi F (fun h24=>?_) fun h24=>?_
 ·refine zr2 fun _ F=>?_
  refine Jn F M.at' 4 rfl rfl rfl rfl rfl rfl rfl rfl rfl fun _ F=>?_
  refine zr2 fun _ F=>?_
  refine J0 (kS F M (hc:=J7l M.tb M.v) (k:=fun v s25 w q25 M=>zk fun _ F=>?_))
  have q25a:=q25.1;have q25b:=q25.2;have q25c:=q25.2.1;have q25d:=q25.2.2
  refine J0 (kW F M 3 [_,_,_] [_,_,_,_,_] (k:=fun w M=>zk fun _ F=>?_))
  refine J0 (kW F M 3 [_,_,_] [_,_,_,_,_] (k:=fun w M=>zk fun _ F=>?_))
  refine Jg F (JU rfl (zca F M.at' 1) (zca F M.at' 0)) ?_
  exact zfS M () (_,_,_) (⟨yc,yc,ye⟩) (congrArg (Prod.mk ()) (JJ h6 (nf h8) h24 (JbE h24)).symm)
 refine zr2 fun _ F=>?_
 refine zi F (fun h26=>?_) fun h26=>?_
 ·refine zr2 fun _ F=>?_
  refine J0 (kS F M (hc:=Jen M.tb M.v) (k:=fun v s27 w q27 M=>zk fun _ F=>?_))
  have q27a:=q27.1;have q27b:=q27.2
  refine J0 (kW F M 1 [_,_,_] [_,_,_,_,_] (k:=fun w M=>zk fun _ F=>?_))
  refine J0 (kW F M 1 [_,_,_] [_,_,_,_,_] (k:=fun w M=>zk fun _ F=>?_))
  refine J0 (kW F M 0 [_,_,_] [_,_,_,_,_] (k:=fun w M=>zk fun _ F=>?_))
  refine Jc [(_,[_,_,_],_),(_,[_,_,_],_)] [] [] [0,1,2,3] M (hd2 M.at' 1 0) mixed zK fun w M hS=>?_
  refine zr2 fun _ F=>?_
  refine J2 rfl rfl (kW F M 3 [_,_,_] [_,_,_,_,_] (k:=fun w M=>kH (hd2 M.at' 2 1) (zkN fun _ F=>?_)))
  refine J2 rfl rfl (kW F M 3 [_,_,_] [_,_,_,_,_] (k:=fun w M=>kF (zkN fun _ F=>?_)))
  refine Jg F (JU rfl (zca F M.at' 1) (zca F M.at' 0)) ?_
  exact zfS M () (_,_,_) (⟨yc,yc,ye⟩) (congrArg (Prod.mk ()) (JJ h6 (nf h8) h26 rfl).symm)
 refine zr2 fun _ F=>?_
 refine zi F (fun h28=>?_) fun h28=>?_
 ·refine zr2 fun _ F=>?_
  refine Jn F M.at' 4 rfl rfl rfl rfl rfl rfl rfl rfl rfl fun _ F=>?_
  refine zr2 fun _ F=>?_
  refine Jn F M.at' 4 rfl rfl rfl rfl rfl rfl rfl rfl rfl fun _ F=>?_
  refine zr2 fun _ F=>?_
  refine J0 (kS F M (hc:=Jf6 M.tb M.v) (k:=fun v s29 w q29 M=>zk fun _ F=>?_))
  refine J0 (kW F M 1 [_,_,_] [_,_,_,_,_] (k:=fun w M=>zk fun _ F=>?_))
  refine J0 (kW F M 1 [_,_,_] [_,_,_,_,_] (k:=fun w M=>zk fun _ F=>?_))
  refine Jc [(_,[_,_,_],_),(_,[_,_,_],_)] [] [] [0,1,2,3] M (hd2 M.at' 1 0) mixed zK fun w M hS=>?_
  refine zr2 fun _ F=>?_
  refine J2 rfl rfl (kW F M 3 [_,_,_] [_,_,_,_,_] (k:=fun w M=>kH (hd2 M.at' 2 1) (zkN fun _ F=>?_)))
  refine J2 rfl rfl (kW F M 3 [_,_,_] [_,_,_,_,_] (k:=fun w M=>kF (zkN fun _ F=>?_)))
  refine Jg F (JU rfl (zca F M.at' 1) (zca F M.at' 0)) ?_
  exact zfS M () (_,_,_) (⟨yc,yc,ye⟩) (congrArg (Prod.mk ()) (JJ h6 (nf h8) h28 rfl).symm)
 refine zr2 fun _ F=>?_
 refine zi F (fun h30=>?_) fun h30=>?_
 ·refine zr2 fun _ F=>?_
  refine Jn F M.at' 4 rfl rfl rfl rfl rfl rfl rfl rfl rfl fun _ F=>?_
  refine zr2 fun _ F=>?_
  refine J0 (kS F M (hc:=Jez M.tb M.v) (k:=fun v s31 w q31 M=>zk fun _ F=>?_))
  have q31a:=q31.1;have q31b:=q31.2
  refine J0 (kW F M 1 [_,_,_] [_,_,_,_,_] (k:=fun w M=>zk fun _ F=>?_))
  refine J0 (kW F M 1 [_,_,_] [_,_,_,_,_] (k:=fun w M=>zk fun _ F=>?_))
  refine J0 (kW F M 0 [_,_,_] [_,_,_,_,_] (k:=fun w M=>zk fun _ F=>?_))
  refine Jc [(_,[_,_,_],_),(_,[_,_,_],_)] [] [] [0,1,2,3] M (hd2 M.at' 1 0) mixed zK fun w M hS=>?_
  refine zr2 fun _ F=>?_
  refine J2 rfl rfl (kW F M 3 [_,_,_] [_,_,_,_,_] (k:=fun w M=>kH (hd2 M.at' 2 1) (zkN fun _ F=>?_)))
  refine J2 rfl rfl (kW F M 3 [_,_,_] [_,_,_,_,_] (k:=fun w M=>kF (zkN fun _ F=>?_)))
  refine Jg F (JU rfl (zca F M.at' 1) (zca F M.at' 0)) ?_
  exact zfS M () (_,_,_) (⟨yc,yc,ye⟩) (congrArg (Prod.mk ()) (JJ h6 (nf h8) h30 rfl).symm)
 refine zr2 fun _ F=>?_
 refine zi F (fun h32=>?_) fun h32=>?_
 ·refine zr2 fun _ F=>?_
  refine Jn F M.at' 4 rfl rfl rfl rfl rfl rfl rfl rfl rfl fun _ F=>?_
  refine zr2 fun _ F=>?_
  refine Jn F M.at' 4 rfl rfl rfl rfl rfl rfl rfl rfl rfl fun _ F=>?_
  refine zr2 fun _ F=>?_
  refine J0 (kS F M (hc:=JhU M.tb M.v) (k:=fun v s33 w q33 M=>zk fun _ F=>?_))
  refine J0 (kW F M 1 [_,_,_] [_,_,_,_,_] (k:=fun w M=>zk fun _ F=>?_))
  refine J0 (kW F M 1 [_,_,_] [_,_,_,_,_] (k:=fun w M=>zk fun _ F=>?_))
  refine Jc [(_,[_,_,_],_),(_,[_,_,_],_)] [] [] [0,1,2,3] M (hd2 M.at' 1 0) mixed zK fun w M hS=>?_
  refine zr2 fun _ F=>?_
  refine J2 rfl rfl (kW F M 3 [_,_,_] [_,_,_,_,_] (k:=fun w M=>kH (hd2 M.at' 2 1) (zkN fun _ F=>?_)))
  refine J2 rfl rfl (kW F M 3 [_,_,_] [_,_,_,_,_] (k:=fun w M=>kF (zkN fun _ F=>?_)))
  refine Jg F (JU rfl (zca F M.at' 1) (zca F M.at' 0)) ?_
  exact zfS M () (_,_,_) (⟨yc,yc,ye⟩) (congrArg (Prod.mk ()) (JJ h6 (nf h8) h32 rfl).symm)
 refine zr2 fun _ F=>?_
 refine zi F (fun h34=>?_) fun h34=>?_
 ·refine zr2 fun _ F=>?_
  refine J0 (kS F M (hc:=JdL M.tb M.v) (k:=fun v s35 w q35 M=>zk fun _ F=>?_))
  have q35a:=q35.1;have q35b:=q35.2
  refine J0 (kW F M 1 [_,_,_] [_,_,_,_,_] (k:=fun w M=>zk fun _ F=>?_))
  refine J0 (kW F M 1 [_,_,_] [_,_,_,_,_] (k:=fun w M=>zk fun _ F=>?_))
  refine J0 (kW F M 0 [_,_,_] [_,_,_,_,_] (k:=fun w M=>zk fun _ F=>?_))
  refine Jc [(_,[_,_,_],_),(_,[_,_,_],_)] [] [] [0,1,2,3] M (hd2 M.at' 1 0) mixed zK fun w M hS=>?_
  refine zr2 fun _ F=>?_
  refine J2 rfl rfl (kW F M 3 [_,_,_] [_,_,_,_,_] (k:=fun w M=>kH (hd2 M.at' 2 1) (zkN fun _ F=>?_)))
  refine J2 rfl rfl (kW F M 3 [_,_,_] [_,_,_,_,_] (k:=fun w M=>kF (zkN fun _ F=>?_)))
  refine Jg F (JU rfl (zca F M.at' 1) (zca F M.at' 0)) ?_
  exact zfS M () (_,_,_) (⟨yc,yc,ye⟩) (congrArg (Prod.mk ()) (JJ h6 (nf h8) h34 rfl).symm)
 refine zr2 fun _ F=>?_
 refine zi F (fun h36=>?_) fun h36=>?_
 ·refine zr2 fun _ F=>?_
  refine Jn F M.at' 4 rfl rfl rfl rfl rfl rfl rfl rfl rfl fun _ F=>?_
  refine zr2 fun _ F=>?_
  refine J0 (kS F M (hc:=setTimer_s M.tb M.v) (k:=fun v s37 w q37 M=>zk fun _ F=>?_))
  refine J0 (kW F M 1 [_,_,_] [_,_,_,_,_] (k:=fun w M=>zk fun _ F=>?_))
  refine J0 (kW F M 1 [_,_,_] [_,_,_,_,_] (k:=fun w M=>zk fun _ F=>?_))
  refine Jc [(_,[_,_,_],_),(_,[_,_,_],_)] [] [] [0,1,2,3] M (hd2 M.at' 1 0) mixed zK fun w M hS=>?_
  refine zr2 fun _ F=>?_
  refine J2 rfl rfl (kW F M 3 [_,_,_] [_,_,_,_,_] (k:=fun w M=>kH (hd2 M.at' 2 1) (zkN fun _ F=>?_)))
  refine J2 rfl rfl (kW F M 3 [_,_,_] [_,_,_,_,_] (k:=fun w M=>kF (zkN fun _ F=>?_)))
  refine Jg F (JU rfl (zca F M.at' 1) (zca F M.at' 0)) ?_
  exact zfS M () (_,_,_) (⟨yc,yc,ye⟩) (congrArg (Prod.mk ()) (JJ h6 (nf h8) h36 rfl).symm)
 refine zr2 fun _ F=>?_
 refine zi F (fun h38=>?_) fun h38=>?_
 ·refine zr2 fun _ F=>?_
  refine Jn F M.at' 4 rfl rfl rfl rfl rfl rfl rfl rfl rfl fun _ F=>?_
  refine zr2 fun _ F=>?_
  refine J0 (kS F M (hc:=JhX M.tb M.v) (k:=fun v s39 w q39 M=>zk fun _ F=>?_))
  have q39a:=q39.1;have q39b:=q39.2
  refine J0 (kW F M 1 [_,_,_] [_,_,_,_,_] (k:=fun w M=>zk fun _ F=>?_))
  refine J0 (kW F M 1 [_,_,_] [_,_,_,_,_] (k:=fun w M=>zk fun _ F=>?_))
  refine J0 (kW F M 0 [_,_,_] [_,_,_,_,_] (k:=fun w M=>zk fun _ F=>?_))
  refine Jc [(_,[_,_,_],_),(_,[_,_,_],_)] [] [] [0,1,2,3] M (hd2 M.at' 1 0) mixed zK fun w M hS=>?_
  refine zr2 fun _ F=>?_
  refine J2 rfl rfl (kW F M 3 [_,_,_] [_,_,_,_,_] (k:=fun w M=>kH (hd2 M.at' 2 1) (zkN fun _ F=>?_)))
  refine J2 rfl rfl (kW F M 3 [_,_,_] [_,_,_,_,_] (k:=fun w M=>kF (zkN fun _ F=>?_)))
  refine Jg F (JU rfl (zca F M.at' 1) (zca F M.at' 0)) ?_
  exact zfS M () (_,_,_) (⟨yc,yc,ye⟩) (congrArg (Prod.mk ()) (JJ h6 (nf h8) h38 rfl).symm)
 refine zr2 fun _ F=>?_
 refine zi F (fun h40=>?_) fun h40=>?_
 ·refine zr2 fun _ F=>?_
  refine Jn F M.at' 4 rfl rfl rfl rfl rfl rfl rfl rfl rfl fun _ F=>?_
  refine zr2 fun _ F=>?_
  refine Jn F M.at' 4 rfl rfl rfl rfl rfl rfl rfl rfl rfl fun _ F=>?_
  refine zr2 fun _ F=>?_
  refine J0 (kS F M (hc:=storePage_s M.tb M.v) (k:=fun v s41 w q41 M=>zk fun _ F=>?_))
  refine J0 (kW F M 1 [_,_,_] [_,_,_,_,_] (k:=fun w M=>zk fun _ F=>?_))
  refine J0 (kW F M 1 [_,_,_] [_,_,_,_,_] (k:=fun w M=>zk fun _ F=>?_))
  refine Jc [(_,[_,_,_],_),(_,[_,_,_],_)] [] [] [0,1,2,3] M (hd2 M.at' 1 0) mixed zK fun w M hS=>?_
  refine zr2 fun _ F=>?_
  refine J2 rfl rfl (kW F M 3 [_,_,_] [_,_,_,_,_] (k:=fun w M=>kH (hd2 M.at' 2 1) (zkN fun _ F=>?_)))
  refine J2 rfl rfl (kW F M 3 [_,_,_] [_,_,_,_,_] (k:=fun w M=>kF (zkN fun _ F=>?_)))
  refine Jg F (JU rfl (zca F M.at' 1) (zca F M.at' 0)) ?_
  exact zfS M () (_,_,_) (⟨yc,yc,ye⟩) (congrArg (Prod.mk ()) (JJ h6 (nf h8) h40 rfl).symm)
 refine zr2 fun _ F=>?_
 refine zi F (fun h42=>?_) fun h42=>?_
 ·refine zr2 fun _ F=>?_
  refine Jn F M.at' 4 rfl rfl rfl rfl rfl rfl rfl rfl rfl fun _ F=>?_
  refine zr2 fun _ F=>?_
  refine J0 (kS F M (hc:=Jej M.tb M.v) (k:=fun v s43 w q43 M=>zk fun _ F=>?_))
  have q43a:=q43.1;have q43b:=q43.2
  refine J0 (kW F M 1 [_,_,_] [_,_,_,_,_] (k:=fun w M=>zk fun _ F=>?_))
  refine J0 (kW F M 1 [_,_,_] [_,_,_,_,_] (k:=fun w M=>zk fun _ F=>?_))
  refine J0 (kW F M 0 [_,_,_] [_,_,_,_,_] (k:=fun w M=>zk fun _ F=>?_))
  refine Jc [(_,[_,_,_],_),(_,[_,_,_],_)] [] [] [0,1,2,3] M (hd2 M.at' 1 0) mixed zK fun w M hS=>?_
  refine zr2 fun _ F=>?_
  refine J2 rfl rfl (kW F M 3 [_,_,_] [_,_,_,_,_] (k:=fun w M=>kH (hd2 M.at' 2 1) (zkN fun _ F=>?_)))
  refine J2 rfl rfl (kW F M 3 [_,_,_] [_,_,_,_,_] (k:=fun w M=>kF (zkN fun _ F=>?_)))
  refine Jg F (JU rfl (zca F M.at' 1) (zca F M.at' 0)) ?_
  exact zfS M () (_,_,_) (⟨yc,yc,ye⟩) (congrArg (Prod.mk ()) (JJ h6 (nf h8) h42 rfl).symm)
 refine zr2 fun _ F=>?_
 refine zi F (fun h44=>?_) fun h44=>?_
 ·refine zr2 fun _ F=>?_
  refine Jn F M.at' 4 rfl rfl rfl rfl rfl rfl rfl rfl rfl fun _ F=>?_
  refine zr2 fun _ F=>?_
  refine J0 (kS F M (hc:=JfN M.tb M.v) (k:=fun v s45 w q45 M=>zk fun _ F=>?_))
  refine J0 (kW F M 1 [_,_,_] [_,_,_,_,_] (k:=fun w M=>zk fun _ F=>?_))
  refine J0 (kW F M 1 [_,_,_] [_,_,_,_,_] (k:=fun w M=>zk fun _ F=>?_))
  refine Jc [(_,[_,_,_],_),(_,[_,_,_],_)] [] [] [0,1,2,3] M (hd2 M.at' 1 0) mixed zK fun w M hS=>?_
  refine zr2 fun _ F=>?_
  refine J2 rfl rfl (kW F M 3 [_,_,_] [_,_,_,_,_] (k:=fun w M=>kH (hd2 M.at' 2 1) (zkN fun _ F=>?_)))
  refine J2 rfl rfl (kW F M 3 [_,_,_] [_,_,_,_,_] (k:=fun w M=>kF (zkN fun _ F=>?_)))
  refine Jg F (JU rfl (zca F M.at' 1) (zca F M.at' 0)) ?_
  exact zfS M () (_,_,_) (⟨yc,yc,ye⟩) (congrArg (Prod.mk ()) (JJ h6 (nf h8) h44 rfl).symm)
 refine zr2 fun _ F=>?_
 refine Jn F M.at' 4 rfl rfl rfl rfl rfl rfl rfl rfl rfl fun _ F=>?_
 refine zr2 fun _ F=>?_
 refine J0 (kS F M (hc:=Jhz M.tb M.v) (k:=fun v s46 w q46 M=>zk fun _ F=>?_))
 have q46a:=q46.1;have q46b:=q46.2;have q46c:=q46.2.1;have q46d:=q46.2.2
 refine J0 (kW F M 3 [_,_,_] [_,_,_,_,_] (k:=fun w M=>zk fun _ F=>?_))
 refine J0 (kW F M 3 [_,_,_] [_,_,_,_,_] (k:=fun w M=>zk fun _ F=>?_))
 refine Jg F (JU rfl (zca F M.at' 1) (zca F M.at' 0)) ?_
 exact zfS M () (_,_,_) (⟨yc,yc,ye⟩) (congrArg (Prod.mk ()) (do_p h6 (nf h8) (by have:=J4s (nf h8);omega)).symm)
end
end Go.Proofs.YtipdbeklopjbmaaGreatDoor
