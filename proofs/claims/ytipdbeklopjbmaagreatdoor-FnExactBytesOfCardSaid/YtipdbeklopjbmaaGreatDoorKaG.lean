/-
  Walks: the program's names, children, calls on files.
-/
import Derived.Test.YtipdbeklopjbmaaGreatDoorKaF
import Derived.Test.YtipdbeklopjbmaaGreatDoorP16
import Derived.Test.YtipdbeklopjbmaaGreatDoorP10
set_option linter.unusedVariables false
set_option linter.unusedSimpArgs false
namespace Go.Proofs.YtipdbeklopjbmaaGreatDoor
open Go.ChangeShapes Go.WideShapes Go.ChangeAt Go.RowKit
set_option maxRecDepth 100000
set_option maxHeartbeats 1000000
section
set_option maxHeartbeats 8000000
variable {X:Uni} {w:World} {b u:Nat} {v:MV} {D:List CellD} {H:Nat→Prop}
theorem cutSuf_k {x:ByteArray} {t:ByteArray} (hT:TbO w []) (h_x:okS x:=by exact zI4) (h_t:okS t:=by exact zI4) :
 Calls Tryz.prog 336 #[.string x,.string t] w (PO w (fun (s:Unit)=>.tuple #[.string (cutSuf x t),.bool (hasSuf x t)]) (fun _=>(cutSuf x t).size≤x.size)):=by
 refine (strings_CutSuffix_c (H:=fun _=>True) h_x h_t).mono ?_
 rintro e w' ⟨rfl,m,ok⟩
 exact ⟨(),rfl,m,cutSuf_leK _ _⟩
theorem callOk_k {c:CallD} (hT:TbO w []) (h_c:okK c:=by assumption) :
 Calls Tryz.prog 238 #[.agg #[.int .i64 c.kind,.string c.name,.string c.to_,.int .i64 c.a,.int .i64 c.b,.string c.text]] w (PO w (fun (s:Unit)=>.bool (callOk c)) (fun _=>True)):=by
 have hk1:=h_c.1;have hk2:=h_c.2.1;have hk3:=h_c.2.2.1;have hk4:=h_c.2.2.2.1;have hk5:=h_c.2.2.2.2.1;have hk6:=h_c.2.2.2.2.2
 have M:St [] w [] w:=⟨Mv.refl (At.nil _),hT⟩
 refine zE (f:=238) fun _ F=>?_
 refine l_op (kBxI F M [_,_,_,_,_,_] (k:=fun b1 w M=>zk fun _ F=>?_))
 refine l_op (kO F M (hc:=within_k M.nil.tb) (k:=fun s2 w q2 M=>zk fun _ F=>?_))
 refine zGb F (fun h3 F=>?_) fun h3 F=>?_
 ·have hi3:=inB_bd h3;refine zr2 fun _ F=>?_
  refine zG F (fun h4 F=>?_) fun h4 F=>?_
  ·refine zr2 fun _ F=>?_
   refine zG F (fun h5 F=>?_) fun h5 F=>?_
   ·refine zr2 fun _ F=>?_
    refine x_done F (results_1 rfl (zta F)) ?_
    have M:=M.pick [] []
    exact ⟨(),congrArg Ending.returned (by exact congrArg Value.bool (by unfold callOk;simp only [*,decide_true,decide_false,Bool.true_and,Bool.false_and,Bool.and_true,Bool.and_false];try rfl)),M.mv,trivial⟩
   ·refine zr2 fun _ F=>?_
    refine x_done F (results_1 rfl (zta F)) ?_
    have M:=M.pick [] []
    exact ⟨(),congrArg Ending.returned (by exact congrArg Value.bool (by unfold callOk;simp only [*,decide_true,decide_false,Bool.true_and,Bool.false_and,Bool.and_true,Bool.and_false];try rfl)),M.mv,trivial⟩
  ·refine zr2 fun _ F=>?_
   refine x_done F (results_1 rfl (zta F)) ?_
   have M:=M.pick [] []
   exact ⟨(),congrArg Ending.returned (by exact congrArg Value.bool (by unfold callOk;simp only [*,decide_true,decide_false,Bool.true_and,Bool.false_and,Bool.and_true,Bool.and_false];try rfl)),M.mv,trivial⟩
 ·refine zr2 fun _ F=>?_
  refine x_done F (results_1 rfl (zta F)) ?_
  have M:=M.pick [] []
  exact ⟨(),congrArg Ending.returned (by exact congrArg Value.bool (by unfold callOk;simp only [*,decide_true,decide_false,Bool.true_and,Bool.false_and,Bool.and_true,Bool.and_false];try rfl)),M.mv,trivial⟩
theorem names_k (hA:AT w [mB X b v D u]) (hu:u+1≤68718428160:=by omega) :
 Calls Tryz.prog 243 #[.pointer (some ⟨b,0,none⟩)] w (PIL X b v D u w 9 1 encS okS (fun (s:GL ByteArray)=>s.l.length≤68719476736∧∀ x ∈ s.l,x.size≤1048576) D (u+1)):=by
 have M:=St.start hA
 refine zE (f:=243) fun _ F=>?_
 refine l_op (kU F M (hc:=under_k M.hd) (k:=fun v s1 w q1 M=>zk fun _ F=>?_))
 have hq2:=q1.le
 have M:=M.then (mv_nilO (e:=9) (k:=1) (enc:=encS) (ok:=okS) M.at')
 have M:=M.pick [1,2,0] [_,_,_]
 have F:=F.cut (m':=[(9,_),(3,_),(2,_),(7,_),(8,_)]) rfl
 refine kLoop (γ:=(Nat × GL ByteArray) × MV) (slots:=fun g=>[(9,.int .i64 ((g.1.1:Nat):Int)),(3,g.1.2.val)]) (LL:=fun g=>[owK s1 (keysUnder D (⟨#[110,47]⟩:ByteArray)),mB X b g.2 (D) (u+1),owG 9 1 encS okS g.1.2]) (pr:=fun g=>g.1.1≤s1.n∧g.1.2.l.length=g.1.1∧∀ x ∈ g.1.2.l,x.size≤1048576) (g0:=((0,⟨_,_,_,_⟩),v)) (fun g=>s1.n - g.1.1) F M (⟨Nat.zero_le _,rfl,fun _ h=>by cases h⟩) fun g a w F M hp=>?_
 refine zr2 fun _ F=>?_
 refine zi F (fun h4=>?_) fun h4=>?_
 ·refine zr2 fun _ F=>?_
  refine kEl (s:=s1) F M.at' ET_44 0 g.1.1 (by omega) (kk:=fun x5 _ hx5 ok5=>zk fun _ F=>?_)
  have hz5:=q1.sz _ (nth_mem hx5)
  have hg5:=begins_le (q1.bg _ (nth_mem hx5))
  refine kSl F (2) (by first|omega|exact size_pos (by assumption)|(simp only [sz0,sz1,sz2] at *;omega)) (k:=fun he6=>zk fun _ F=>?_)
  refine kPushG F M.at' 2 (x5.extract 2 x5.size) ET_44 (hx:=by unfold okS;omega) (kk:=fun B7 N7 C7 _ w l7 m _ F=>?_)
  have M:=M.then m
  refine zr2 fun _ F=>?_
  have M:=M.pick [1,2,0] [_,_,_]
  exact lend ((g.1.1+1,⟨_,_,_,_⟩),g.2) (by dsimp only;omega) ⟨F.cut rfl,M,⟨by dsimp only;omega,by simp only [List.length_append,List.length_singleton];omega,fun y hy=>(List.mem_append.1 hy).elim (hp.2.2 y) fun h=>by rw [List.mem_singleton.1 h];omega⟩⟩
 ·refine zr2 fun _ F=>?_
  have M:=M.tail
  refine x_done F (results_1 rfl (zta F)) ?_
  have M:=M.pick [1,0] [_,_]
  exact zfIL (s:=g.1.2) M (⟨by have h1:=hp.1;have h2:=hp.2.1;omega,hp.2.2⟩) rfl
theorem kids_k {p:Int} (hA:AT w [mB X b v D u]) (hu:u+2≤68718428160:=by omega) (h_p:i64ok p:=by exact zI6) :
 Calls Tryz.prog 253 #[.pointer (some ⟨b,0,none⟩),.int .i64 p] w (PIL X b v D u w 3 1 encI okI (fun (s:GL Int)=>s.l.length≤68719476736) D (u+2)):=by
 have M:=St.start hA
 refine zE (f:=253) fun _ F=>?_
 refine l_op (kU F M (hc:=under_k M.hd) (k:=fun v s1 w q1 M=>zk fun _ F=>?_))
 have hq2:=q1.le
 have M:=M.then (mv_nilO (e:=3) (k:=1) (enc:=encI) (ok:=okI) M.at')
 have M:=M.pick [1,2,0] [_,_,_]
 have M:=M.ext (ks:=keysUnder D (⟨#[114,47]⟩:ByteArray)) under_knw
 have F:=F.cut (m':=[(13,_),(5,_),(0,_),(1,_),(4,_),(11,_),(12,_)]) rfl
 refine kLoop (γ:=(Nat × GL Int) × MV) (slots:=fun g=>[(13,.int .i64 ((g.1.1:Nat):Int)),(5,g.1.2.val)]) (LL:=fun g=>[owK s1 (keysUnder D (⟨#[114,47]⟩:ByteArray)),mB (X.ext (keysUnder D (⟨#[114,47]⟩:ByteArray))) b g.2 (D) (u+1),owG 3 1 encI okI g.1.2]) (pr:=fun g=>g.1.1≤s1.n∧g.1.2.l.length≤g.1.1) (g0:=((0,⟨_,_,_,_⟩),v)) (fun g=>s1.n - g.1.1) F M (⟨Nat.zero_le _,Nat.zero_le _⟩) fun g a w F M hp=>?_
 refine zr2 fun _ F=>?_
 refine zi F (fun h4=>?_) fun h4=>?_
 ·refine zr2 fun _ F=>?_
  refine kEl (s:=s1) F M.at' ET_44 0 g.1.1 (by omega) (kk:=fun x5 _ hx5 ok5=>zk fun _ F=>?_)
  have hz5:=q1.sz _ (nth_mem hx5)
  have hg5:=begins_le (q1.bg _ (nth_mem hx5))
  refine l_op (kO F M (hc:=cutSuf_k M.nil.tb) (k:=fun s6 w q6 M=>zk fun _ F=>?_))
  refine zG F (fun h7 F=>?_) fun h7 F=>?_
  ·refine zr2 fun _ F=>?_
   refine zGb F (fun h8 F=>?_) fun h8 F=>?_
   ·refine zr2 fun _ F=>?_
    refine l_op (kI2 F M (hc:=num_i M.hd2 (p0:=ext_knw hx5)) (k:=fun v s9 w q9 M=>zk fun _ F=>?_))
    refine zi F (fun h10=>?_) fun h10=>?_
    ·refine zr2 fun _ F=>?_
     refine l_op (kSl3 F (2) (hl:=by have h5:=cutSuf_5K (x:=x5) (by omega);omega) (kk:=fun he11=>zk fun _ F=>?_))
     refine l_op (kO F M (hc:=numOf_k M.nil.tb) (k:=fun s12 w q12 M=>zk fun _ F=>?_))
     refine kPushG F M.at' 2 (((numOf ((cutSuf x5 (⟨#[47,112]⟩:ByteArray)).extract 2 (cutSuf x5 (⟨#[47,112]⟩:ByteArray)).size):Nat):Int)) ET_47 (hx:=by exact i64nat (by omega)) (kk:=fun B13 N13 C13 _ w l13 m _ F=>?_)
     have M:=M.then m
     refine zr2 fun _ F=>?_
     have M:=M.pick [1,2,0] [_,_,_]
     exact lend ((g.1.1+1,⟨_,_,_,_⟩),v) (by dsimp only;omega) ⟨F.cut rfl,M,⟨by dsimp only;omega,by first|(simp only [List.length_append,List.length_singleton];omega)|(dsimp only;omega)⟩⟩
    ·refine zr2 fun _ F=>?_
     exact lend ((g.1.1+1,g.1.2),v) (by dsimp only;omega) ⟨F.cut rfl,M,⟨by dsimp only;omega,by first|(simp only [List.length_append,List.length_singleton];omega)|(dsimp only;omega)⟩⟩
   ·refine zr2 fun _ F=>?_
    exact lend ((g.1.1+1,g.1.2),g.2) (by dsimp only;omega) ⟨F.cut rfl,M,⟨by dsimp only;omega,by first|(simp only [List.length_append,List.length_singleton];omega)|(dsimp only;omega)⟩⟩
  ·refine zr2 fun _ F=>?_
   exact lend ((g.1.1+1,g.1.2),g.2) (by dsimp only;omega) ⟨F.cut rfl,M,⟨by dsimp only;omega,by first|(simp only [List.length_append,List.length_singleton];omega)|(dsimp only;omega)⟩⟩
 ·refine zr2 fun _ F=>?_
  have M:=M.unext
  have M:=M.tail
  refine x_done F (results_1 rfl (zta F)) ?_
  have M:=M.pick [1,0] [_,_]
  exact zfIL (s:=g.1.2) M (by have h1:=hp.1;have h2:=hp.2;omega) rfl
theorem doFile_k {c:CallD} (hA:AT w [mB X b v D u]) (hu:u+310≤68718428160:=by omega) (h_c:okK c:=by assumption) (p0:c.text.size≤64:=by omega) :
 Calls Tryz.prog 244 #[.pointer (some ⟨b,0,none⟩),.agg #[.int .i64 c.kind,.string c.name,.string c.to_,.int .i64 c.a,.int .i64 c.b,.string c.text]] w (PI X b v D u w (fun (r:Unit) (s:Int × Int × ByteArray)=>.agg #[.int .i64 s.1,.int .i64 s.2.1,.string s.2.2]) () (flS D c) (u+310) (fun (_:Unit) (s:Int × Int × ByteArray)=>i64ok s.1∧i64ok s.2.1∧okS s.2.2)):=by
 have hk1:=h_c.1;have hk2:=h_c.2.1;have hk3:=h_c.2.2.1;have hk4:=h_c.2.2.2.1;have hk5:=h_c.2.2.2.2.1;have hk6:=h_c.2.2.2.2.2
 have M:=St.start hA
 refine zE (f:=244) fun _ F=>?_
 refine l_op (kBxI F M [_,_,_,_,_,_] (k:=fun b1 w M=>zk fun _ F=>?_))
 refine l_op (kAlI F M ZI_155 [_,_,_] (k:=fun b2 w M=>zk fun _ F=>?_))
 have M:=M.pick [2,0,1] [_,_,_]
 refine l_op (kI F M (hc:=fileOf_k M.hd) (k:=fun v s3 w q3 M=>zk fun _ F=>?_))
 have q3a:=q3.1;have q3b:=q3.2
 refine zi F (fun h4=>?_) fun h4=>?_
 ·refine zr2 fun _ F=>?_
  refine l_op (kBd F BI_155 (k:=zk fun _ F=>?_))
  refine l_op (kWI F M 1 [_,_,_] [_,_,_] (k:=fun w M=>zk fun _ F=>?_))
  refine x_done F (results_1 rfl (zca F M.at' 0)) ?_
  have M:=M.pick [1] [_]
  exact zfI M () (_,_,_) (⟨zI2,zI2,zI3⟩) (by rw [flS,if_pos h4])
 ·refine zr2 fun _ F=>?_
  refine zi F (fun h5=>?_) fun h5=>?_
  ·refine zr2 fun _ F=>?_
   refine l_op (kI F M (hc:=readFile_k M.hd) (k:=fun v s6 w q6 M=>zk fun _ F=>?_))
   refine l_op (kBd F BI_155 (k:=zk fun _ F=>?_))
   refine l_op (kWI F M 1 [_,_,_] [_,_,_] (k:=fun w M=>zk fun _ F=>?_))
   refine x_done F (results_1 rfl (zca F M.at' 0)) ?_
   have M:=M.pick [1] [_]
   exact zfI M () (_,_,_) (⟨zI2,zI2,zI3⟩) (by rw [flS,if_neg h4,if_pos h5])
  ·refine zr2 fun _ F=>?_
   refine zi F (fun h7=>?_) fun h7=>?_
   ·refine zr2 fun _ F=>?_
    refine l_op (kI F M (hc:=writeFile_k M.hd) (k:=fun v s8 w q8 M=>zk fun _ F=>?_))
    refine l_op (kBd F BI_155 (k:=zk fun _ F=>?_))
    refine l_op (kWI F M 1 [_,_,_] [_,_,_] (k:=fun w M=>zk fun _ F=>?_))
    refine x_done F (results_1 rfl (zca F M.at' 0)) ?_
    have M:=M.pick [1] [_]
    exact zfI M () (_,_,_) (⟨zI2,zI2,zI3⟩) (by rw [flS,if_neg h4,if_neg h5,if_pos h7])
   ·refine zr2 fun _ F=>?_
    refine l_op (kI F M (hc:=cutFile_k M.hd) (k:=fun v s9 w q9 M=>zk fun _ F=>?_))
    refine l_op (kBd F BI_155 (k:=zk fun _ F=>?_))
    refine l_op (kWI F M 1 [_,_,_] [_,_,_] (k:=fun w M=>zk fun _ F=>?_))
    refine x_done F (results_1 rfl (zca F M.at' 0)) ?_
    have M:=M.pick [1] [_]
    exact zfI M () (_,_,_) (⟨zI2,zI2,zI3⟩) (by rw [flS,if_neg h4,if_neg h5,if_neg h7])
end
end Go.Proofs.YtipdbeklopjbmaaGreatDoor
