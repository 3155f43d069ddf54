/-
  Walks: the reference's names, children, calls on files.
-/
import Derived.Test.YtipdbeklopjbmaaGreatDoorKaFs
import Derived.Test.YtipdbeklopjbmaaGreatDoorP10
import Derived.Test.YtipdbeklopjbmaaGreatDoorP16
set_option linter.unusedVariables false
set_option linter.unusedSimpArgs false
namespace Go.Proofs.YtipdbeklopjbmaaGreatDoor
open Go.ChangeShapes Go.WideShapes Go.ChangeAt Go.RowKit
set_option maxRecDepth 100000
set_option maxHeartbeats 1000000
section
set_option maxHeartbeats 8000000
variable {X:Uni} {w:World} {b u:Nat} {v:MV} {D:List CellD} {H:Nat→Prop}
theorem callOk_s {c:CallD} (hT:TbO w []) (h_c:okK c:=by assumption) :
 Calls Tryz.prog 214 #[.agg #[.int .i64 c.kind,.string c.name,.string c.to_,.int .i64 c.a,.int .i64 c.b,.string c.text]] w (PO w (fun (s:Unit)=>.bool (callOk c)) (fun _=>True)):=by
 have hk1:=h_c.1;have hk2:=h_c.2.1;have hk3:=h_c.2.2.1;have hk4:=h_c.2.2.2.1;have hk5:=h_c.2.2.2.2.1;have hk6:=h_c.2.2.2.2.2
 have M:St [] w [] w:=⟨Mv.refl (At.nil _),hT⟩
 refine zE (f:=214) fun _ F=>?_
 refine l_op (kBxI F M [_,_,_,_,_,_] (k:=fun b1 w M=>zk fun _ F=>?_))
 refine l_op (kO F M (hc:=within_s M.nil.tb) (k:=fun s2 w q2 M=>zk fun _ F=>?_))
 refine zGb F (fun h3 F=>?_) fun h3 F=>?_
 ·have hi3:=inB_bd h3;refine zr2 fun _ F=>?_
  refine zG F (fun h4 F=>?_) fun h4 F=>?_
  ·refine zr2 fun _ F=>?_
   refine zG F (fun h5 F=>?_) fun h5 F=>?_
   ·refine zr2 fun _ F=>?_
    refine x_done F (results_1 rfl (zta F)) ?_
    have M:=M.pick [] []
    exact ⟨(),congrArg Ending.returned (by exact congrArg Value.bool (by unfold callOk;simp only [*,decide_true,decide_false,Bool.true_and,Bool.false_and,Bool.and_true,Bool.and_false];try rfl)),M.mv,trivial⟩
   ·refine zr2 fun _ F=>?_
    refine x_done F (results_1 rfl (zta F)) ?_
    have M:=M.pick [] []
    exact ⟨(),congrArg Ending.returned (by exact congrArg Value.bool (by unfold callOk;simp only [*,decide_true,decide_false,Bool.true_and,Bool.false_and,Bool.and_true,Bool.and_false];try rfl)),M.mv,trivial⟩
  ·refine zr2 fun _ F=>?_
   refine x_done F (results_1 rfl (zta F)) ?_
   have M:=M.pick [] []
   exact ⟨(),congrArg Ending.returned (by exact congrArg Value.bool (by unfold callOk;simp only [*,decide_true,decide_false,Bool.true_and,Bool.false_and,Bool.and_true,Bool.and_false];try rfl)),M.mv,trivial⟩
 ·refine zr2 fun _ F=>?_
  refine x_done F (results_1 rfl (zta F)) ?_
  have M:=M.pick [] []
  exact ⟨(),congrArg Ending.returned (by exact congrArg Value.bool (by unfold callOk;simp only [*,decide_true,decide_false,Bool.true_and,Bool.false_and,Bool.and_true,Bool.and_false];try rfl)),M.mv,trivial⟩
theorem names_s (hT:TbO w []) (hm:RM X H w v D u) (hu:u+1≤68718428160:=by omega) :
 Calls Tryz.prog 286 #[v.val] w (PSL X H w 9 1 encS okS (fun (s:GL ByteArray)=>s.l.length≤68719476736∧∀ x ∈ s.l,x.size≤1048576) D (u+1)):=by
 have M:=Sp.start hT hm
 refine zE (f:=286) fun _ F=>?_
 refine l_op (kBx F M [_,_,_] (k:=fun b1 w M=>zk fun _ F=>?_))
 refine l_op (kAl F M ZI_210 [_,_,_] (k:=fun b2 w M=>zk fun _ F=>?_))
 refine l_op (kUS F M (hc:=under_s M.tb M.v) (k:=fun v s3 w q3 M=>zk fun _ F=>?_))
 refine l_op (kW F M 2 [_,_,_] [_,_,_] (k:=fun w M=>zk fun _ F=>?_))
 refine l_op (kNilG (ok:=okS) F M.at' ET_44 (kk:=fun b4 w m _ F=>?_))
 have M:=M.then m
 refine zr2 fun _ F=>?_
 have hq5:=q3.le
 have F:=F.cut (m':=[(6,_),(5,_),(1,_),(2,_),(3,_),(4,_)]) rfl
 refine kLoopS (γ:=(Nat × GL ByteArray) × MV) (slots:=fun g=>[(6,.int .i64 ((g.1.1:Nat):Int)),(5,g.1.2.val)]) (LL:=fun g=>[owG 9 1 encS okS g.1.2,bx b1 [g.2.S,g.2.R,g.2.W] 210,owK s3 (keysUnder D (⟨#[110,47]⟩:ByteArray)),bx b2 [.slice none 0 0,.slice none 0 0,.slice none 0 0] 210]) (vv:=fun g=>g.2) (DD:=fun g=>D) (uu:=fun _=>(u+1)) (pr:=fun g=>g.1.1≤s3.n∧g.1.2.l.length=g.1.1∧∀ x ∈ g.1.2.l,x.size≤1048576) (g0:=((0,⟨_,_,_,_⟩),v)) (fun g=>s3.n - g.1.1) F M (⟨Nat.zero_le _,rfl,fun _ h=>by cases h⟩) fun g a w F M hp=>?_
 refine zr2 fun _ F=>?_
 refine zi F (fun h6=>?_) fun h6=>?_
 ·refine zr2 fun _ F=>?_
  refine kEl (s:=s3) F M.at' ET_44 2 g.1.1 (by omega) (kk:=fun x7 _ hx7 ok7=>zk fun _ F=>?_)
  have hz7:=q3.sz _ (nth_mem hx7)
  have hg7:=begins_le (q3.bg _ (nth_mem hx7))
  refine kSl F (2) (by first|omega|exact size_pos (by assumption)|(simp only [sz0,sz1,sz2] at *;omega)) (k:=fun he8=>zk fun _ F=>?_)
  refine kPushG F M.at' 0 (x7.extract 2 x7.size) ET_44 (hx:=by unfold okS;omega) (kk:=fun B9 N9 C9 _ w l9 m _ F=>?_)
  have M:=M.then m
  refine zr2 fun _ F=>?_
  exact lend ((g.1.1+1,⟨_,_,_,_⟩),g.2) (by dsimp only;omega) ⟨F.cut rfl,M,⟨by dsimp only;omega,by simp only [List.length_append,List.length_singleton];omega,fun y hy=>(List.mem_append.1 hy).elim (hp.2.2 y) fun h=>by rw [List.mem_singleton.1 h];omega⟩⟩
 ·refine zr2 fun _ F=>?_
  refine l_op (kW F M 3 [_,_,_] [_,_,_,_] (k:=fun w M=>zk fun _ F=>?_))
  refine x_done F (results_2 rfl (zca F M.at' 0) (zta F)) ?_
  have M:=M.pick [1] [_]
  exact zfSL (s:=g.1.2) M (⟨by have h1:=hp.1;have h2:=hp.2.1;omega,hp.2.2⟩) rfl
theorem kids_s {p:Int} (hT:TbO w []) (hm:RM X H w v D u) (hu:u+2≤68718428160:=by omega) (h_p:i64ok p:=by exact zI6) :
 Calls Tryz.prog 303 #[v.val,.int .i64 p] w (PSL X H w 3 1 encI okI (fun (s:GL Int)=>s.l.length≤68719476736) D (u+2)):=by
 have M:=Sp.start hT hm
 refine zE (f:=303) fun _ F=>?_
 refine l_op (kBx F M [_,_,_] (k:=fun b1 w M=>zk fun _ F=>?_))
 refine l_op (kAl F M ZI_210 [_,_,_] (k:=fun b2 w M=>zk fun _ F=>?_))
 refine l_op (kUS F M (hc:=under_s M.tb M.v) (k:=fun v s3 w q3 M=>zk fun _ F=>?_))
 refine l_op (kW F M 2 [_,_,_] [_,_,_] (k:=fun w M=>zk fun _ F=>?_))
 refine l_op (kNilG (ok:=okI) F M.at' ET_47 (kk:=fun b4 w m _ F=>?_))
 have M:=M.then m
 refine zr2 fun _ F=>?_
 have hq5:=q3.le
 have M:=M.ext (ks:=keysUnder D (⟨#[114,47]⟩:ByteArray)) under_knw
 have F:=F.cut (m':=[(8,_),(7,_),(1,_),(2,_),(4,_),(5,_),(6,_)]) rfl
 refine kLoopS (γ:=(Nat × GL Int) × MV) (slots:=fun g=>[(8,.int .i64 ((g.1.1:Nat):Int)),(7,g.1.2.val)]) (LL:=fun g=>[owG 3 1 encI okI g.1.2,bx b1 [g.2.S,g.2.R,g.2.W] 210,owK s3 (keysUnder D (⟨#[114,47]⟩:ByteArray)),bx b2 [.slice none 0 0,.slice none 0 0,.slice none 0 0] 210]) (vv:=fun g=>g.2) (DD:=fun g=>D) (uu:=fun _=>(u+1)) (pr:=fun g=>g.1.1≤s3.n∧g.1.2.l.length≤g.1.1) (g0:=((0,⟨_,_,_,_⟩),v)) (fun g=>s3.n - g.1.1) F M (⟨Nat.zero_le _,Nat.zero_le _⟩) fun g a w F M hp=>?_
 refine zr2 fun _ F=>?_
 refine zi F (fun h6=>?_) fun h6=>?_
 ·refine zr2 fun _ F=>?_
  refine kEl (s:=s3) F M.at' ET_44 2 g.1.1 (by omega) (kk:=fun x7 _ hx7 ok7=>zk fun _ F=>?_)
  have hz7:=q3.sz _ (nth_mem hx7)
  have hg7:=begins_le (q3.bg _ (nth_mem hx7))
  refine zG F (fun h8 F=>?_) fun h8 F=>?_
  ·refine zr2 fun _ F=>?_
   exact lend ((g.1.1+1,g.1.2),g.2) (by dsimp only;omega) ⟨F.cut rfl,M,⟨by dsimp only;omega,by first|(simp only [List.length_append,List.length_singleton];omega)|(dsimp only;omega)⟩⟩
  ·refine zr2 fun _ F=>?_
   refine l_op (kSl3 F (x7.size - 2) (hl:=by omega) (kk:=fun he9=>zk fun _ F=>?_))
   refine zi F (fun h10=>?_) fun h10=>?_
   ·refine zr2 fun _ F=>?_
    exact lend ((g.1.1+1,g.1.2),g.2) (by dsimp only;omega) ⟨F.cut rfl,M,⟨by dsimp only;omega,by first|(simp only [List.length_append,List.length_singleton];omega)|(dsimp only;omega)⟩⟩
   ·refine zr2 fun _ F=>?_
    refine l_op (kS F M (hc:=num_si M.tb M.v (p0:=ext_knw hx7)) (k:=fun v s11 w q11 M=>zk fun _ F=>?_))
    refine l_op (kW F M 1 [_,_,_] [_,_,_,_] (k:=fun w M=>zk fun _ F=>?_))
    refine zi F (fun h12=>?_) fun h12=>?_
    ·refine zr2 fun _ F=>?_
     refine l_op (kSl2 F (2) (x7.size - 2) (kk:=fun he13=>zk fun _ F=>?_))
     refine l_op (kQ F M (hc:=numOf_s M.st.nil.tb) (k:=fun s14 w q14 m M=>zk fun _ F=>?_))
     refine kPushG F M.at' 1 (((numOf (x7.extract 2 (x7.size - 2)):Nat):Int)) ET_47 (hx:=by exact i64nat (by omega)) (kk:=fun B15 N15 C15 _ w l15 m _ F=>?_)
     have M:=M.then m
     refine zr2 fun _ F=>?_
     exact lend ((g.1.1+1,⟨_,_,_,_⟩),v) (by dsimp only;omega) ⟨F.cut rfl,M,⟨by dsimp only;omega,by first|(simp only [List.length_append,List.length_singleton];omega)|(dsimp only;omega)⟩⟩
    ·refine zr2 fun _ F=>?_
     have M:=M.pick [1,0,2,3] [_,_,_,_]
     exact lend ((g.1.1+1,g.1.2),v) (by dsimp only;omega) ⟨F.cut rfl,M,⟨by dsimp only;omega,by first|(simp only [List.length_append,List.length_singleton];omega)|(dsimp only;omega)⟩⟩
 ·refine zr2 fun _ F=>?_
  have M:=M.unext
  refine l_op (kW F M 3 [_,_,_] [_,_,_,_] (k:=fun w M=>zk fun _ F=>?_))
  refine x_done F (results_2 rfl (zca F M.at' 0) (zta F)) ?_
  have M:=M.pick [1] [_]
  exact zfSL (s:=g.1.2) M (by have h1:=hp.1;have h2:=hp.2;omega) rfl
theorem file_s {c:CallD} (hT:TbO w []) (hm:RM X H w v D u) (hu:u+310≤68718428160:=by omega) (h_c:okK c:=by assumption) (p0:c.text.size≤64:=by omega) :
 Calls Tryz.prog 220 #[v.val,.agg #[.int .i64 c.kind,.string c.name,.string c.to_,.int .i64 c.a,.int .i64 c.b,.string c.text]] w (PS X H w (fun v (r:Unit) (s:Int × Int × ByteArray)=>.tuple #[v.val,.agg #[.int .i64 s.1,.int .i64 s.2.1,.string s.2.2]]) () (flS D c) (u+310) (fun (_:Unit) (s:Int × Int × ByteArray)=>i64ok s.1∧i64ok s.2.1∧okS s.2.2)):=by
 have hk1:=h_c.1;have hk2:=h_c.2.1;have hk3:=h_c.2.2.1;have hk4:=h_c.2.2.2.1;have hk5:=h_c.2.2.2.2.1;have hk6:=h_c.2.2.2.2.2
 have M:=Sp.start hT hm
 refine zE (f:=220) fun _ F=>?_
 refine l_op (kBx F M [_,_,_] (k:=fun b1 w M=>zk fun _ F=>?_))
 refine l_op (kBx F M [_,_,_,_,_,_] (k:=fun b2 w M=>zk fun _ F=>?_))
 refine l_op (kAl F M ZI_210 [_,_,_] (k:=fun b3 w M=>zk fun _ F=>?_))
 refine l_op (kAl F M ZI_155 [_,_,_] (k:=fun b4 w M=>zk fun _ F=>?_))
 refine m_ld F M.at' 3 rfl rfl rfl rfl rfl rfl rfl rfl rfl fun _ F=>?_
 refine zr2 fun _ F=>?_
 refine l_op (kS F M (hc:=fileOf_s M.tb M.v) (k:=fun v s5 w q5 M=>zk fun _ F=>?_))
 have q5a:=q5.1;have q5b:=q5.2
 refine l_op (kW F M 3 [_,_,_] [_,_,_,_] (k:=fun w M=>zk fun _ F=>?_))
 refine zi F (fun h6=>?_) fun h6=>?_
 ·refine zr2 fun _ F=>?_
  refine l_op (kBd F BI_155 (k:=zk fun _ F=>?_))
  refine l_op (kW F M 2 [_,_,_] [_,_,_,_] (k:=fun w M=>zk fun _ F=>?_))
  refine l_op (kW F M 2 [_,_,_] [_,_,_,_] (k:=fun w M=>zk fun _ F=>?_))
  refine x_done F (results_2 rfl (zca F M.at' 1) (zca F M.at' 0)) ?_
  exact zfS M () (_,_,_) (⟨zI2,zI2,zI3⟩) (by rw [flS,if_pos h6])
 ·refine zr2 fun _ F=>?_
  refine l_op (kBd F BI_155 (k:=zk fun _ F=>?_))
  refine l_op (kAl F M ZI_155 [_,_,_] (k:=fun b7 w M=>zk fun _ F=>?_))
  refine l_op (kW F M 0 [_,_,_] [_,_,_,_,_] (k:=fun w M=>zk fun _ F=>?_))
  refine m_ld F M.at' 4 rfl rfl rfl rfl rfl rfl rfl rfl rfl fun _ F=>?_
  refine zr2 fun _ F=>?_
  refine zi F (fun h8=>?_) fun h8=>?_
  ·refine zr2 fun _ F=>?_
   refine m_ld F M.at' 4 rfl rfl rfl rfl rfl rfl rfl rfl rfl fun _ F=>?_
   refine zr2 fun _ F=>?_
   refine m_ld F M.at' 4 rfl rfl rfl rfl rfl rfl rfl rfl rfl fun _ F=>?_
   refine zr2 fun _ F=>?_
   refine l_op (kS F M (hc:=readFile_s M.tb M.v) (k:=fun v s9 w q9 M=>zk fun _ F=>?_))
   refine l_op (kW F M 1 [_,_,_] [_,_,_,_,_] (k:=fun w M=>zk fun _ F=>?_))
   refine l_op (kW F M 1 [_,_,_] [_,_,_,_,_] (k:=fun w M=>zk fun _ F=>?_))
   refine x_rdS [(_,[_,_,_],_),(_,[_,_,_],_)] [] [] [0,1,2,3] M (HdK.none (HdS.cons M.at' 1 rfl (HdS.cons M.at' 0 rfl HdS.nil))) mixed (by kernel_rfl) fun w M hS=>?_
   refine zr2 fun _ F=>?_
   refine n_op rfl rfl (kW F M 3 [_,_,_] [_,_,_,_,_] (k:=fun w M=>kH (HdK.none (HdS.cons M.at' 2 rfl (HdS.cons M.at' 1 rfl HdS.nil))) (zkN fun _ F=>?_)))
   refine n_op rfl rfl (kW F M 3 [_,_,_] [_,_,_,_,_] (k:=fun w M=>kF (zkN fun _ F=>?_)))
   refine x_done F (results_2 rfl (zca F M.at' 1) (zca F M.at' 0)) ?_
   exact zfS M () (_,_,_) (⟨zI2,zI2,zI3⟩) (by rw [flS,if_neg h6,if_pos h8])
  ·refine zr2 fun _ F=>?_
   refine zi F (fun h10=>?_) fun h10=>?_
   ·refine zr2 fun _ F=>?_
    refine m_ld F M.at' 4 rfl rfl rfl rfl rfl rfl rfl rfl rfl fun _ F=>?_
    refine zr2 fun _ F=>?_
    refine m_ld F M.at' 4 rfl rfl rfl rfl rfl rfl rfl rfl rfl fun _ F=>?_
    refine zr2 fun _ F=>?_
    refine l_op (kS F M (hc:=writeFile_s M.tb M.v) (k:=fun v s11 w q11 M=>zk fun _ F=>?_))
    refine l_op (kW F M 1 [_,_,_] [_,_,_,_,_] (k:=fun w M=>zk fun _ F=>?_))
    refine l_op (kW F M 1 [_,_,_] [_,_,_,_,_] (k:=fun w M=>zk fun _ F=>?_))
    refine x_rdS [(_,[_,_,_],_),(_,[_,_,_],_)] [] [] [0,1,2,3] M (HdK.none (HdS.cons M.at' 1 rfl (HdS.cons M.at' 0 rfl HdS.nil))) mixed (by kernel_rfl) fun w M hS=>?_
    refine zr2 fun _ F=>?_
    refine n_op rfl rfl (kW F M 3 [_,_,_] [_,_,_,_,_] (k:=fun w M=>kH (HdK.none (HdS.cons M.at' 2 rfl (HdS.cons M.at' 1 rfl HdS.nil))) (zkN fun _ F=>?_)))
    refine n_op rfl rfl (kW F M 3 [_,_,_] [_,_,_,_,_] (k:=fun w M=>kF (zkN fun _ F=>?_)))
    refine x_done F (results_2 rfl (zca F M.at' 1) (zca F M.at' 0)) ?_
    exact zfS M () (_,_,_) (⟨zI2,zI2,zI3⟩) (by rw [flS,if_neg h6,if_neg h8,if_pos h10])
   ·refine zr2 fun _ F=>?_
    refine m_ld F M.at' 4 rfl rfl rfl rfl rfl rfl rfl rfl rfl fun _ F=>?_
    refine zr2 fun _ F=>?_
    refine l_op (kS F M (hc:=cutFile_s M.tb M.v) (k:=fun v s12 w q12 M=>zk fun _ F=>?_))
    refine l_op (kW F M 1 [_,_,_] [_,_,_,_,_] (k:=fun w M=>zk fun _ F=>?_))
    refine l_op (kW F M 1 [_,_,_] [_,_,_,_,_] (k:=fun w M=>zk fun _ F=>?_))
    refine x_rdS [(_,[_,_,_],_),(_,[_,_,_],_)] [] [] [0,1,2,3] M (HdK.none (HdS.cons M.at' 1 rfl (HdS.cons M.at' 0 rfl HdS.nil))) mixed (by kernel_rfl) fun w M hS=>?_
    refine zr2 fun _ F=>?_
    refine n_op rfl rfl (kW F M 3 [_,_,_] [_,_,_,_,_] (k:=fun w M=>kH (HdK.none (HdS.cons M.at' 2 rfl (HdS.cons M.at' 1 rfl HdS.nil))) (zkN fun _ F=>?_)))
    refine n_op rfl rfl (kW F M 3 [_,_,_] [_,_,_,_,_] (k:=fun w M=>kF (zkN fun _ F=>?_)))
    refine x_done F (results_2 rfl (zca F M.at' 1) (zca F M.at' 0)) ?_
    exact zfS M () (_,_,_) (⟨zI2,zI2,zI3⟩) (by rw [flS,if_neg h6,if_neg h8,if_neg h10])
end
end Go.Proofs.YtipdbeklopjbmaaGreatDoor
