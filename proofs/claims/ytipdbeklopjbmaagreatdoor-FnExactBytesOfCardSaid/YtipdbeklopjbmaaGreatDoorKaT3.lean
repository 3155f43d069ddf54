/-
  Walks: the reference's calls.
-/
import Derived.Test.YtipdbeklopjbmaaGreatDoorP21
set_option linter.unusedVariables false
set_option linter.unusedSimpArgs false
namespace Go.Proofs.YtipdbeklopjbmaaGreatDoor
open Go.ChangeShapes Go.WideShapes Go.ChangeAt Go.RowKit
set_option maxRecDepth 100000
set_option maxHeartbeats 1000000
section
set_option maxHeartbeats 8000000
variable {X:Uni} {w:World} {b u:Nat} {v:MV} {D:List CellD} {H:Nat→Prop}
theorem makePipe_s (hT:TbO w []) (hm:RM X H w v D u) (hu:u+8≤68718428160:=by omega) :
 Calls Tryz.prog 221 #[v.val] w (PS X H w (fun v (r:Unit) (s:Int × Int)=>.tuple #[v.val,.int .i64 s.1,.int .i64 s.2]) () (mpS D) (u+8) (fun (_:Unit) (s:Int × Int)=>i64ok s.1∧i64ok s.2)):=by
 have M:=Sp.start hT hm
 refine zE (f:=221) fun _ F=>?_
 refine l_op (kBx F M [_,_,_] (k:=fun b1 w M=>zk fun _ F=>?_))
 refine l_op (kAl F M ZI_210 [_,_,_] (k:=fun b2 w M=>zk fun _ F=>?_))
 refine l_op (kS F M (hc:=num_s M.tb M.v) (k:=fun v s3 w q3 M=>zk fun _ F=>?_))
 refine l_op (kW F M 1 [_,_,_] [_,_] (k:=fun w M=>zk fun _ F=>?_))
 refine zi F (fun h4=>?_) fun h4=>?_
 ·refine zr2 fun _ F=>?_
  refine l_op (kW F M 1 [_,_,_] [_,_] (k:=fun w M=>zk fun _ F=>?_))
  refine x_done F (results_3 rfl (zca F M.at' 0) (zta F) (zta F)) ?_
  exact zfS M () (_,_) (⟨zI1,zI1⟩) (by rw [mpS,if_pos h4])
 ·refine zr2 fun _ F=>?_
  refine l_op (kS F M (hc:=bump_s M.tb M.v) (k:=fun v s5 w q5 M=>zk fun _ F=>?_))
  refine l_op (kW F M 0 [_,_,_] [_,_] (k:=fun w M=>zk fun _ F=>?_))
  refine x_rdS [(_,[_,_,_],_)] [] [] [0,1,4,2,3,5,6,7] M (HdK.none (HdS.cons M.at' 0 rfl HdS.nil)) mixed (by kernel_rfl) fun w M hS=>?_
  refine zr2 fun _ F=>?_
  refine n_op rfl rfl (kQ F M (hc:=l08Key_s M.st.nil.tb) (k:=fun s6 w q6 m M=>kB m (zkN fun _ F=>?_)))
  refine n_op rfl rfl (kS F M (hc:=setNum_s M.tb M.v) (k:=fun v s7 w q7 M=>kF (zkN fun _ F=>?_)))
  refine n_op rfl rfl (kW F M 1 [_,_,_] [_,_] (k:=fun w M=>kF (zkN fun _ F=>?_)))
  refine x_done F (results_3 rfl (zca F M.at' 0) (zta F) (zta F)) ?_
  exact zfS M () (_,_) (⟨zI1,zI1⟩) (by rw [mpS,if_neg h4])
theorem reap_s {p:Int} {id:Int} (hT:TbO w []) (hm:RM X H w v D u) (hu:u+8≤68718428160:=by omega) (h_p:i64ok p:=by exact zI6) (h_id:i64ok id:=by exact zI6) :
 Calls Tryz.prog 302 #[v.val,.int .i64 p,.int .i64 id] w (PS X H w (fun v (r:Unit) (s:Int × Int)=>.tuple #[v.val,.int .i64 s.1,.int .i64 s.2]) () (rpS D p id) (u+8) (fun (_:Unit) (s:Int × Int)=>i64ok s.1∧i64ok s.2)):=by
 have M:=Sp.start hT hm
 refine zE (f:=302) fun _ F=>?_
 refine l_op (kBx F M [_,_,_] (k:=fun b1 w M=>zk fun _ F=>?_))
 refine l_op (kAl F M ZI_210 [_,_,_] (k:=fun b2 w M=>zk fun _ F=>?_))
 refine x_rdS [(_,[_,_,_],_)] [] [] [0,1,2,3,4,5,6,7,8] M (HdK.none (HdS.cons M.at' 1 rfl HdS.nil)) mixed (by kernel_rfl) fun w M hS=>?_
 refine zr2 fun _ F=>?_
 refine n_op rfl rfl (kQ F M (hc:=l09Key_s M.st.nil.tb) (k:=fun s3 w q3 m M=>kB m (zkN fun _ F=>?_)))
 refine n_op rfl rfl (kS F M (hc:=num_s M.tb M.v) (k:=fun v s4 w q4 M=>kF (zkN fun _ F=>?_)))
 refine n_op rfl rfl (kW F M 1 [_,_,_] [_,_] (k:=fun w M=>kF (zkN fun _ F=>?_)))
 refine zG F (fun h5 F=>?_) fun h5 F=>?_
 ·refine zr2 fun _ F=>?_
  refine l_op (kW F M 1 [_,_,_] [_,_] (k:=fun w M=>zk fun _ F=>?_))
  refine x_done F (results_3 rfl (zca F M.at' 0) (zta F) (zta F)) ?_
  exact zfS M () (_,_) (⟨zI1,zI1⟩) (by rw [rpS,if_pos h5])
 ·refine zr2 fun _ F=>?_
  refine zi F (fun h6=>?_) fun h6=>?_
  ·refine zr2 fun _ F=>?_
   refine l_op (kW F M 1 [_,_,_] [_,_] (k:=fun w M=>zk fun _ F=>?_))
   refine x_done F (results_3 rfl (zca F M.at' 0) (zta F) (zta F)) ?_
   exact zfS M () (_,_) (⟨zI1,zI1⟩) (by rw [rpS,if_neg h5,if_pos h6])
  ·refine zr2 fun _ F=>?_
   refine l_op (kS F M (hc:=state_s M.tb M.v) (k:=fun v s7 w q7 M=>zk fun _ F=>?_))
   refine l_op (kW F M 0 [_,_,_] [_,_] (k:=fun w M=>zk fun _ F=>?_))
   refine zi F (fun h8=>?_) fun h8=>?_
   ·refine zr2 fun _ F=>?_
    refine l_op (kW F M 1 [_,_,_] [_,_] (k:=fun w M=>zk fun _ F=>?_))
    refine x_done F (results_3 rfl (zca F M.at' 0) (zta F) (zta F)) ?_
    exact zfS M () (_,_) (⟨zI1,zI1⟩) (by rw [rpS,if_neg h5,if_neg h6,if_pos h8])
   ·refine zr2 fun _ F=>?_
    refine zi F (fun h9=>?_) fun h9=>?_
    ·refine zr2 fun _ F=>?_
     refine l_op (kW F M 1 [_,_,_] [_,_] (k:=fun w M=>zk fun _ F=>?_))
     refine x_done F (results_3 rfl (zca F M.at' 0) (zta F) (zta F)) ?_
     exact zfS M () (_,_) (⟨zI1,zI1⟩) (by rw [rpS,if_neg h5,if_neg h6,if_neg h8,if_neg h9])
    ·refine zr2 fun _ F=>?_
     refine x_rdS [(_,[_,_,_],_)] [] [] [0,1,2,3,4,5,6,7,8] M (HdK.none (HdS.cons M.at' 0 rfl HdS.nil)) mixed (by kernel_rfl) fun w M hS=>?_
     refine zr2 fun _ F=>?_
     refine n_op rfl rfl (kQ F M (hc:=l09Key_s M.st.nil.tb) (k:=fun s10 w q10 m M=>kB m (zkN fun _ F=>?_)))
     refine n_op rfl rfl (kS F M (hc:=num_s M.tb M.v) (k:=fun v s11 w q11 M=>kF (zkN fun _ F=>?_)))
     refine n_op rfl rfl (kW F M 0 [_,_,_] [_,_] (k:=fun w M=>kF (zkN fun _ F=>?_)))
     refine x_rdS [(_,[_,_,_],_)] [] [] [0,1,4,5,2,3,6,7,8] M (HdK.none (HdS.cons M.at' 0 rfl HdS.nil)) mixed (by kernel_rfl) fun w M hS=>?_
     refine zr2 fun _ F=>?_
     refine n_op rfl rfl (kQ F M (hc:=l09Key_s M.st.nil.tb) (k:=fun s12 w q12 m M=>kB m (zkN fun _ F=>?_)))
     refine n_op rfl rfl (kS F M (hc:=wipe_s M.tb M.v) (k:=fun v s13 w q13 M=>kF (zkN fun _ F=>?_)))
     refine n_op rfl rfl (kW F M 1 [_,_,_] [_,_] (k:=fun w M=>kF (zkN fun _ F=>?_)))
     refine x_done F (results_3 rfl (zca F M.at' 0) (zta F) (zta F)) ?_
     exact zfS M () (_,_) (⟨zI1,zI1⟩) (by rw [rpS,if_neg h5,if_neg h6,if_neg h8,if_pos (Decidable.not_not.1 h9)])
theorem dropPages_s {id:Int} (hT:TbO w []) (hm:RM X H w v D u) (hu:u+1≤68718428160:=by omega) (h_id:i64ok id:=by exact zI6) :
 Calls Tryz.prog 301 #[v.val,.int .i64 id] w (PS X H w (fun v (r:Unit) (s:Unit)=>v.val) () (wipeS D (kPg id)) (u+1) noq):=by
 have M:=Sp.start hT hm
 refine zE (f:=301) fun _ F=>?_
 refine l_op (kBx F M [_,_,_] (k:=fun b1 w M=>zk fun _ F=>?_))
 refine l_op (kAl F M ZI_210 [_,_,_] (k:=fun b2 w M=>zk fun _ F=>?_))
 refine x_rdS [(_,[_,_,_],_)] [] [] [0,1,2,3,4] M (HdK.none (HdS.cons M.at' 1 rfl HdS.nil)) mixed (by kernel_rfl) fun w M hS=>?_
 refine zr2 fun _ F=>?_
 refine n_op rfl rfl (kQ F M (hc:=l11Head_s M.st.nil.tb) (k:=fun s3 w q3 m M=>kB m (zkN fun _ F=>?_)))
 refine n_op rfl rfl (kS F M (hc:=wipe_s M.tb M.v) (k:=fun v s4 w q4 M=>kF (zkN fun _ F=>?_)))
 refine n_op rfl rfl (kW F M 0 [_,_,_] [_,_] (k:=fun w M=>kF (zkN fun _ F=>?_)))
 refine x_done F (results_1 rfl (zca F M.at' 0)) ?_
 exact zfS M () () (trivial) (rfl)
theorem tick_s {n:Int} (hT:TbO w []) (hm:RM X H w v D u) (hu:u+4≤68718428160:=by omega) (h_n:i64ok n:=by exact zI6) :
 Calls Tryz.prog 227 #[v.val,.int .i64 n] w (PS X H w (fun v (r:Unit) (s:Int × Int)=>.tuple #[v.val,.int .i64 s.1,.int .i64 s.2]) () (tkS D n) (u+4) (fun (_:Unit) (s:Int × Int)=>i64ok s.1∧i64ok s.2)):=by
 have M:=Sp.start hT hm
 refine zE (f:=227) fun _ F=>?_
 refine l_op (kBx F M [_,_,_] (k:=fun b1 w M=>zk fun _ F=>?_))
 refine l_op (kAl F M ZI_210 [_,_,_] (k:=fun b2 w M=>zk fun _ F=>?_))
 refine zi F (fun h3=>?_) fun h3=>?_
 ·refine zr2 fun _ F=>?_
  refine l_op (kW F M 0 [_,_,_] [_,_] (k:=fun w M=>zk fun _ F=>?_))
  refine x_done F (results_3 rfl (zca F M.at' 0) (zta F) (zta F)) ?_
  exact zfS M () (_,_) (⟨zI1,zI1⟩) (by rw [tkS,if_pos h3])
 ·refine zr2 fun _ F=>?_
  refine l_op (kS F M (hc:=num_s M.tb M.v) (k:=fun v s4 w q4 M=>zk fun _ F=>?_))
  refine l_op (kW F M 1 [_,_,_] [_,_] (k:=fun w M=>zk fun _ F=>?_))
  refine zi F (fun h5=>?_) fun h5=>?_
  ·refine zr2 fun _ F=>?_
   refine l_op (kW F M 1 [_,_,_] [_,_] (k:=fun w M=>zk fun _ F=>?_))
   refine x_done F (results_3 rfl (zca F M.at' 0) (zta F) (zta F)) ?_
   exact zfS M () (_,_) (⟨zI1,zI1⟩) (by rw [tkS,if_neg h3,if_pos h5])
  ·refine zr2 fun _ F=>?_
   refine l_op (kS F M (hc:=setNum_s M.tb M.v) (k:=fun v s6 w q6 M=>zk fun _ F=>?_))
   refine l_op (kW F M 0 [_,_,_] [_,_] (k:=fun w M=>zk fun _ F=>?_))
   refine l_op (kUS F M (hc:=under_s M.tb M.v) (k:=fun v s7 w q7 M=>zk fun _ F=>?_))
   refine l_op (kW F M 1 [_,_,_] [_,_,_] (k:=fun w M=>zk fun _ F=>?_))
   have hq8:=q7.le
   have M:=M.ext (ks:=keysUnder (setS D (⟨#[99,47,99,108,111,99,107]⟩:ByteArray) (numI D (⟨#[99,47,99,108,111,99,107]⟩:ByteArray)+n)) (⟨#[116,47]⟩:ByteArray)) under_knw
   have F:=F.cut (m':=[(10,_),(9,_),(1,_),(2,_),(4,_),(5,_),(6,_),(13,_),(7,_),(23,_),(8,_)]) rfl
   refine kLoopS (γ:=(Nat × Nat) × MV) (slots:=fun g=>[(10,.int .i64 ((g.1.1:Nat):Int)),(9,.int .i64 ((g.1.2:Nat):Int))]) (LL:=fun g=>[bx b1 [g.2.S,g.2.R,g.2.W] 210,owK s7 (keysUnder (setS D (⟨#[99,47,99,108,111,99,107]⟩:ByteArray) (numI D (⟨#[99,47,99,108,111,99,107]⟩:ByteArray)+n)) (⟨#[116,47]⟩:ByteArray)),bx b2 [.slice none 0 0,.slice none 0 0,.slice none 0 0] 210]) (vv:=fun g=>g.2) (DD:=fun g=>tkA (numI D (⟨#[99,47,99,108,111,99,107]⟩:ByteArray)+n) ((keysUnder (setS D (⟨#[99,47,99,108,111,99,107]⟩:ByteArray) (numI D (⟨#[99,47,99,108,111,99,107]⟩:ByteArray)+n)) (⟨#[116,47]⟩:ByteArray)).take g.1.1) (setS D (⟨#[99,47,99,108,111,99,107]⟩:ByteArray) (numI D (⟨#[99,47,99,108,111,99,107]⟩:ByteArray)+n))) (uu:=fun _=>(u+3)) (pr:=fun g=>g.1.1≤s7.n∧g.1.2≤g.1.1) (g0:=((0,0),v)) (fun g=>s7.n - g.1.1) F M (⟨Nat.zero_le _,Nat.le_refl _⟩) fun g a w F M hp=>?_
   refine zr2 fun _ F=>?_
   refine zi F (fun h9=>?_) fun h9=>?_
   ·refine zr2 fun _ F=>?_
    refine x_rdS [(_,[_,_,_],_)] [rdK s7 _] [] [0,1,2,3,4,5,6,7,8,9,10] M (HdK.one M.at' 1 rfl (HdS.cons M.at' 0 rfl HdS.nil)) mixed (by kernel_rfl) fun w M hS=>?_
    refine zr2 fun _ F=>?_
    refine nEl (s:=s7) F hS ET_44 0 g.1.1 (by omega) (kk:=fun x10 _ hx10 ok10=>zkN fun _ F=>?_)
    have hz10:=q7.sz _ (nth_mem hx10)
    have hg10:=begins_le (q7.bg _ (nth_mem hx10))
    refine n_op rfl rfl (kS F M (hc:=num_si M.tb M.v (p0:=ext_knw hx10)) (k:=fun v s11 w q11 M=>kF (zkN fun _ F=>?_)))
    refine n_op rfl rfl (kW F M 0 [_,_,_] [_,_,_] (k:=fun w M=>kF (zkN fun _ F=>?_)))
    refine zi F (fun h12=>?_) fun h12=>?_
    ·refine zr2 fun _ F=>?_
     refine x_rdS [(_,[_,_,_],_)] [rdK s7 _] [] [0,1,2,3,4,5,6] M (HdK.one M.at' 1 rfl (HdS.cons M.at' 0 rfl HdS.nil)) mixed (by kernel_rfl) fun w M hS=>?_
     refine zr2 fun _ F=>?_
     refine nElX (s:=s7) F hS ET_44 0 g.1.1 (by omega) hx10 (kk:=fun _ ok13=>zkN fun _ F=>?_)
     refine n_op rfl rfl (kS F M (hc:=lay_si (ext_knw hx10) (.inl rfl) M.tb M.v) (k:=fun v s14 w q14 M=>kF (zkN fun _ F=>?_)))
     refine n_op rfl rfl (kW F M 0 [_,_,_] [_,_,_] (k:=fun w M=>kF (zkN fun _ F=>?_)))
     refine x_rdS [(_,[_,_,_],_)] [rdK s7 _] [] [0,1,2,3,4,5,6,7,8,9,10,11] M (HdK.one M.at' 1 rfl (HdS.cons M.at' 0 rfl HdS.nil)) mixed (by kernel_rfl) fun w M hS=>?_
     refine zr2 fun _ F=>?_
     refine nElX (s:=s7) F hS ET_44 0 g.1.1 (by omega) hx10 (kk:=fun _ ok15=>zkN fun _ F=>?_)
     refine nSl F (2) (by first|omega|exact size_pos (by assumption)|(simp only [sz0,sz1,sz2] at *;omega)) (k:=fun he16=>zkN fun _ F=>?_)
     refine n_op rfl rfl (kQ F M (hc:=numOf_s M.st.nil.tb) (k:=fun s17 w q17 m M=>kB m (zkN fun _ F=>?_)))
     refine n_op rfl rfl (kS F M (hc:=send_si M.tb M.v (p0:=sgK_of (by assumption))) (k:=fun v s18 w q18 M=>kH (HdK.one M.at' 1 rfl (HdS.cons M.at' 0 rfl HdS.nil)) (zkN fun _ F=>?_)))
     refine n_op rfl rfl (kW F M 0 [_,_,_] [_,_,_] (k:=fun w M=>kF (zkN fun _ F=>?_)))
     exact lend ((g.1.1+1,g.1.2+1),v) (by dsimp only;omega) ⟨F.cut rfl,M.cast (tkA_do hx10 (by omega)),by dsimp only;omega⟩
    ·refine zr2 fun _ F=>?_
     exact lend ((g.1.1+1,g.1.2),v) (by dsimp only;omega) ⟨F.cut rfl,M.cast (tkA_no hx10 (by omega)),by dsimp only;omega⟩
   ·refine zr2 fun _ F=>?_
    have M:=M.unext
    refine l_op (kW F M 2 [_,_,_] [_,_,_] (k:=fun w M=>zk fun _ F=>?_))
    refine x_done F (results_3 rfl (zca F M.at' 0) (zta F) (zta F)) ?_
    exact zfS M () (_,_) (⟨zI1,zI1⟩) (by rw [tkS,if_neg h3,if_neg h5,take_all q7.n h9])
end
end Go.Proofs.YtipdbeklopjbmaaGreatDoor
