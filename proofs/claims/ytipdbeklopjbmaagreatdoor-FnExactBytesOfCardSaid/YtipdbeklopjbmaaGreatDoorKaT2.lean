/-
  Walks: the reference's calls.
-/
import Derived.Test.YtipdbeklopjbmaaGreatDoorP21
set_option linter.unusedVariables false
set_option linter.unusedSimpArgs false
namespace Go.Proofs.YtipdbeklopjbmaaGreatDoor
open Go.ChangeShapes Go.WideShapes Go.ChangeAt Go.RowKit
set_option maxRecDepth 100000
set_option maxHeartbeats 1000000
section
set_option maxHeartbeats 8000000
variable {X:Uni} {w:World} {b u:Nat} {v:MV} {D:List CellD} {H:Nat→Prop}
theorem unlinkName_s {f:ByteArray} (hT:TbO w []) (hm:RM X H w v D u) (hu:u+8≤68718428160:=by omega) (h_f:okS f:=by exact zI4) :
 Calls Tryz.prog 217 #[v.val,.string f] w (PS X H w (fun v (r:Unit) (s:Int)=>.tuple #[v.val,.int .i64 s]) () (ulS D f) (u+8) (fun (_:Unit) (s:Int)=>i64ok s)):=by
 have M:=Sp.start hT hm
 refine zE (f:=217) fun _ F=>?_
 refine l_op (kBx F M [_,_,_] (k:=fun b1 w M=>zk fun _ F=>?_))
 refine l_op (kAl F M ZI_210 [_,_,_] (k:=fun b2 w M=>zk fun _ F=>?_))
 refine l_op (kQ F M (hc:=nameOk_s M.st.nil.tb) (k:=fun s3 w q3 m M=>zk fun _ F=>?_))
 refine zib F (fun h4=>?_) fun h4=>?_
 ·refine zr2 fun _ F=>?_
  refine l_op (kW F M 0 [_,_,_] [_,_] (k:=fun w M=>zk fun _ F=>?_))
  refine x_done F (results_2 rfl (zca F M.at' 0) (zta F)) ?_
  exact zfS M () _ zI1 (by rw [ulS,if_pos h4])
 ·have hi4:=nameOk_size (nf h4);refine zr2 fun _ F=>?_
  refine l_op (kS F M (hc:=fileOf_s M.tb M.v) (k:=fun v s5 w q5 M=>zk fun _ F=>?_))
  refine l_op (kW F M 1 [_,_,_] [_,_] (k:=fun w M=>zk fun _ F=>?_))
  refine zi F (fun h6=>?_) fun h6=>?_
  ·refine zr2 fun _ F=>?_
   refine l_op (kW F M 1 [_,_,_] [_,_] (k:=fun w M=>zk fun _ F=>?_))
   refine x_done F (results_2 rfl (zca F M.at' 0) (zta F)) ?_
   exact zfS M () _ zI1 (by rw [ulS,iFb h4,if_pos h6])
  ·refine zr2 fun _ F=>?_
   refine l_op (kS F M (hc:=lay_s nmp M.tb M.v) (k:=fun v s7 w q7 M=>zk fun _ F=>?_))
   refine l_op (kW F M 0 [_,_,_] [_,_] (k:=fun w M=>zk fun _ F=>?_))
   refine x_rdS [(_,[_,_,_],_)] [] [] [0,1,2,3,4,5,6,7,8] M (HdK.none (HdS.cons M.at' 0 rfl HdS.nil)) mixed (by kernel_rfl) fun w M hS=>?_
   refine zr2 fun _ F=>?_
   refine n_op rfl rfl (kQ F M (hc:=keyNum_s M.st.nil.tb) (k:=fun s8 w q8 m M=>kB m (zkN fun _ F=>?_)))
   refine n_op rfl rfl (kS F M (hc:=num_s M.tb M.v) (k:=fun v s9 w q9 M=>kF (zkN fun _ F=>?_)))
   refine n_op rfl rfl (kW F M 0 [_,_,_] [_,_] (k:=fun w M=>kF (zkN fun _ F=>?_)))
   refine zi F (fun h10=>?_) fun h10=>?_
   ·refine zr2 fun _ F=>?_
    refine x_rdS [(_,[_,_,_],_)] [] [] [0,1,3,4,2,5,6,7] M (HdK.none (HdS.cons M.at' 0 rfl HdS.nil)) mixed (by kernel_rfl) fun w M hS=>?_
    refine zr2 fun _ F=>?_
    refine n_op rfl rfl (kQ F M (hc:=keyNum_s M.st.nil.tb) (k:=fun s11 w q11 m M=>kB m (zkN fun _ F=>?_)))
    refine n_op rfl rfl (kS F M (hc:=setNum_s M.tb M.v) (k:=fun v s12 w q12 M=>kF (zkN fun _ F=>?_)))
    refine n_op rfl rfl (kW F M 1 [_,_,_] [_,_] (k:=fun w M=>kF (zkN fun _ F=>?_)))
    refine x_done F (results_2 rfl (zca F M.at' 0) (zta F)) ?_
    exact zfS M () _ zI1 (by rw [ulS,iFb h4,if_neg h6,if_pos h10])
   ·refine zr2 fun _ F=>?_
    refine x_rdS [(_,[_,_,_],_)] [] [] [0,1,2,3,4,5] M (HdK.none (HdS.cons M.at' 0 rfl HdS.nil)) mixed (by kernel_rfl) fun w M hS=>?_
    refine zr2 fun _ F=>?_
    refine n_op rfl rfl (kQ F M (hc:=keyNum_s M.st.nil.tb) (k:=fun s13 w q13 m M=>kB m (zkN fun _ F=>?_)))
    refine n_op rfl rfl (kS F M (hc:=wipe_s M.tb M.v) (k:=fun v s14 w q14 M=>kF (zkN fun _ F=>?_)))
    refine n_op rfl rfl (kW F M 1 [_,_,_] [_,_] (k:=fun w M=>kF (zkN fun _ F=>?_)))
    refine x_done F (results_2 rfl (zca F M.at' 0) (zta F)) ?_
    exact zfS M () _ zI1 (by rw [ulS,iFb h4,if_neg h6,if_neg h10])
theorem end_s {id:Int} {n:Int} (hT:TbO w []) (hm:RM X H w v D u) (hu:u+8≤68718428160:=by omega) (h_id:i64ok id:=by exact zI6) (h_n:i64ok n:=by exact zI6) :
 Calls Tryz.prog 300 #[v.val,.int .i64 id,.int .i64 n] w (PS X H w (fun v (r:Int) (s:Unit)=>.tuple #[v.val,.int .i64 r]) (enF D id n).1 (enF D id n).2 (u+8) (fun (r:Int) (_:Unit)=>i64ok r)):=by
 have M:=Sp.start hT hm
 refine zE (f:=300) fun _ F=>?_
 refine l_op (kBx F M [_,_,_] (k:=fun b1 w M=>zk fun _ F=>?_))
 refine l_op (kAl F M ZI_210 [_,_,_] (k:=fun b2 w M=>zk fun _ F=>?_))
 refine l_op (kS F M (hc:=state_s M.tb M.v) (k:=fun v s3 w q3 M=>zk fun _ F=>?_))
 refine l_op (kW F M 1 [_,_,_] [_,_] (k:=fun w M=>zk fun _ F=>?_))
 refine zi F (fun h4=>?_) fun h4=>?_
 ·refine zr2 fun _ F=>?_
  refine l_op (kW F M 1 [_,_,_] [_,_] (k:=fun w M=>zk fun _ F=>?_))
  refine x_done F (results_2 rfl (zca F M.at' 0) (zta F)) ?_
  exact zfS M _ () zI1 (by rw [enF,if_pos h4])
 ·refine zr2 fun _ F=>?_
  refine l_op (kQ F M (hc:=within_s M.st.nil.tb) (k:=fun s5 w q5 m M=>zk fun _ F=>?_))
  refine zib F (fun h6=>?_) fun h6=>?_
  ·refine zr2 fun _ F=>?_
   refine l_op (kW F M 1 [_,_,_] [_,_] (k:=fun w M=>zk fun _ F=>?_))
   refine x_done F (results_2 rfl (zca F M.at' 0) (zta F)) ?_
   exact zfS M _ () zI1 (by rw [enF,if_neg h4,if_pos h6])
  ·have hi6:=inB_bd (nf h6);refine zr2 fun _ F=>?_
   refine x_rdS [(_,[_,_,_],_)] [] [] [0,1,2,3,4] M (HdK.none (HdS.cons M.at' 0 rfl HdS.nil)) mixed (by kernel_rfl) fun w M hS=>?_
   refine zr2 fun _ F=>?_
   refine n_op rfl rfl (kQ F M (hc:=l09Key_s M.st.nil.tb) (k:=fun s7 w q7 m M=>kB m (zkN fun _ F=>?_)))
   refine n_op rfl rfl (kS F M (hc:=setNum_s M.tb M.v) (k:=fun v s8 w q8 M=>kF (zkN fun _ F=>?_)))
   refine n_op rfl rfl (kW F M 0 [_,_,_] [_,_] (k:=fun w M=>kF (zkN fun _ F=>?_)))
   refine x_rdS [(_,[_,_,_],_)] [] [] [0,1,3,4,2,5,6,7] M (HdK.none (HdS.cons M.at' 0 rfl HdS.nil)) mixed (by kernel_rfl) fun w M hS=>?_
   refine zr2 fun _ F=>?_
   refine n_op rfl rfl (kQ F M (hc:=l09Key_s M.st.nil.tb) (k:=fun s9 w q9 m M=>kB m (zkN fun _ F=>?_)))
   refine n_op rfl rfl (kS F M (hc:=setNum_s M.tb M.v) (k:=fun v s10 w q10 M=>kF (zkN fun _ F=>?_)))
   refine n_op rfl rfl (kW F M 1 [_,_,_] [_,_] (k:=fun w M=>kF (zkN fun _ F=>?_)))
   refine x_done F (results_2 rfl (zca F M.at' 0) (zta F)) ?_
   exact zfS M _ () zI1 (by rw [enF,if_neg h4,iFb h6])
theorem setTimer_s {id:Int} {n:Int} (hT:TbO w []) (hm:RM X H w v D u) (hu:u+2≤68718428160:=by omega) (h_id:i64ok id:=by exact zI6) (h_n:i64ok n:=by exact zI6) :
 Calls Tryz.prog 226 #[v.val,.int .i64 id,.int .i64 n] w (PS X H w (fun v (r:Unit) (s:Int)=>.tuple #[v.val,.int .i64 s]) () (tmS D id n) (u+2) (fun (_:Unit) (s:Int)=>i64ok s)):=by
 have M:=Sp.start hT hm
 refine zE (f:=226) fun _ F=>?_
 refine l_op (kBx F M [_,_,_] (k:=fun b1 w M=>zk fun _ F=>?_))
 refine l_op (kAl F M ZI_210 [_,_,_] (k:=fun b2 w M=>zk fun _ F=>?_))
 refine l_op (kQ F M (hc:=within_s M.st.nil.tb) (k:=fun s3 w q3 m M=>zk fun _ F=>?_))
 refine zib F (fun h4=>?_) fun h4=>?_
 ·refine zr2 fun _ F=>?_
  refine l_op (kW F M 0 [_,_,_] [_,_] (k:=fun w M=>zk fun _ F=>?_))
  refine x_done F (results_2 rfl (zca F M.at' 0) (zta F)) ?_
  exact zfS M () _ zI1 (by rw [tmS,if_pos h4])
 ·have hi4:=inB_bd (nf h4);refine zr2 fun _ F=>?_
  refine x_rdS [(_,[_,_,_],_)] [] [] [0,1,3,2,4,5,6] M (HdK.none (HdS.cons M.at' 1 rfl HdS.nil)) mixed (by kernel_rfl) fun w M hS=>?_
  refine zr2 fun _ F=>?_
  refine n_op rfl rfl (kQ F M (hc:=keyNum_s M.st.nil.tb) (k:=fun s5 w q5 m M=>kB m (zkN fun _ F=>?_)))
  refine n_op rfl rfl (kS F M (hc:=setNum_s M.tb M.v) (k:=fun v s6 w q6 M=>kF (zkN fun _ F=>?_)))
  refine n_op rfl rfl (kW F M 0 [_,_,_] [_,_] (k:=fun w M=>kF (zkN fun _ F=>?_)))
  refine x_done F (results_2 rfl (zca F M.at' 0) (zta F)) ?_
  exact zfS M () _ zI1 (by rw [tmS,iFb h4])
theorem fork_s {t:Int} (hT:TbO w []) (hm:RM X H w v D u) (hu:u+1≤68718428160:=by omega) (hi64:i64ok X.P:=by assumption) (h_t:i64ok t:=by exact zI6) (p0:1≤t∧t≤12:=by assumption) :
 Calls Tryz.prog 299 #[v.val,.int .i64 X.P,.int .i64 t] w (PS X H w (fun v (r:Unit) (s:Unit)=>v.val) () (fkS D X.P t) (u+1) noq):=by
 have M:=Sp.start hT hm
 refine zE (f:=299) fun _ F=>?_
 have hps:=M.pgS
 have hzt:(kPg t).size≤1000:=ksz h_t (by decide)
 refine l_op (kBx F M [_,_,_] (k:=fun b1 w M=>zk fun _ F=>?_))
 refine l_op (kAl F M ZI_210 [_,_,_] (k:=fun b2 w M=>zk fun _ F=>?_))
 refine x_rdS [(_,[_,_,_],_)] [] [] [0,1,2,3,4,5,6,7,8] M (HdK.none (HdS.cons M.at' 1 rfl HdS.nil)) mixed (by kernel_rfl) fun w M hS=>?_
 refine zr2 fun _ F=>?_
 refine n_op rfl rfl (kQ F M (hc:=l11Head_s M.st.nil.tb) (k:=fun s3 w q3 m M=>kB m (zkN fun _ F=>?_)))
 refine n_op rfl rfl (kUS F M (hc:=under_s M.tb M.v) (k:=fun v s4 w q4 M=>kF (zkN fun _ F=>?_)))
 refine n_op rfl rfl (kW F M 2 [_,_,_] [_,_,_] (k:=fun w M=>kF (zkN fun _ F=>?_)))
 have hq5:=q4.le
 have M:=M.ext (ks:=keysUnder D (kPg X.P)) under_knw
 have F:=F.cut (m':=[(8,_),(1,_),(2,_),(3,_),(6,_),(7,_)]) rfl
 refine kLoopS (γ:=Nat × MV) (slots:=fun g=>[(8,.int .i64 ((g.1:Nat):Int))]) (LL:=fun g=>[bx b1 [g.2.S,g.2.R,g.2.W] 210,owK s4 (keysUnder D (kPg X.P)),bx b2 [.slice none 0 0,.slice none 0 0,.slice none 0 0] 210]) (vv:=fun g=>g.2) (DD:=fun g=>fkA (kPg X.P) (kPg t) ((keysUnder D (kPg X.P)).take g.1) D) (uu:=fun _=>(u+1)) (pr:=fun g=>g.1≤s4.n) (g0:=(0,v)) (fun g=>s4.n - g.1) F M (Nat.zero_le _) fun g a w F M hp=>?_
 refine zr2 fun _ F=>?_
 refine zi F (fun h6=>?_) fun h6=>?_
 ·refine zr2 fun _ F=>?_
  refine x_rdS [(_,[_,_,_],_)] [rdK s4 _] [] [0,1,2,3,4,5,6,7,8,9,10] M (HdK.one M.at' 1 rfl (HdS.cons M.at' 0 rfl HdS.nil)) mixed (by kernel_rfl) fun w M hS=>?_
  refine zr2 fun _ F=>?_
  refine nEl (s:=s4) F hS ET_44 0 g.1 (by omega) (kk:=fun x7 _ hx7 ok7=>zkN fun _ F=>?_)
  have hz7:=q4.sz _ (nth_mem hx7)
  have hg7:=begins_le (q4.bg _ (nth_mem hx7))
  refine n_op rfl rfl (kS F M (hc:=look_si (ext_knw hx7) M.tb M.v) (k:=fun v s8 w q8 M=>kF (zkN fun _ F=>?_)))
  refine n_op rfl rfl (kW F M 0 [_,_,_] [_,_,_] (k:=fun w M=>kF (zkN fun _ F=>?_)))
  refine x_rdS [(_,[_,_,_],_)] [rdK s4 _] [] [0,1,3,4,5,6,7,12,2,8,9,10,11,13,14] M (HdK.one M.at' 1 rfl (HdS.cons M.at' 0 rfl HdS.nil)) mixed (by kernel_rfl) fun w M hS=>?_
  refine zr2 fun _ F=>?_
  refine nElX (s:=s4) F hS ET_44 0 g.1 (by omega) hx7 (kk:=fun _ ok9=>zkN fun _ F=>?_)
  refine n_op rfl rfl (kQ F M (hc:=l11Head_s M.st.nil.tb) (k:=fun s10 w q10 m M=>kB m (zkN fun _ F=>?_)))
  refine n_op rfl rfl (kQ F M (hc:=l11Head_s M.st.nil.tb) (k:=fun s11 w q11 m M=>kB m (zkN fun _ F=>?_)))
  refine nSl F ((kPg X.P).size) (by first|omega|exact size_pos (by assumption)|(simp only [sz0,sz1,sz2] at *;omega)) (k:=fun he12=>zkN fun _ F=>?_)
  refine n_op rfl rfl (kS F M (hc:=lay_si (fk_knw p0 (hps _ (nth_mem hx7))) (.inr (fk_npg p0 (hps _ (nth_mem hx7)))) M.tb M.v) (k:=fun v s13 w q13 M=>kH (HdK.one M.at' 1 rfl (HdS.cons M.at' 0 rfl HdS.nil)) (zkN fun _ F=>?_)))
  refine n_op rfl rfl (kW F M 0 [_,_,_] [_,_,_] (k:=fun w M=>kF (zkN fun _ F=>?_)))
  exact lend (g.1+1,v) (by dsimp only;omega) ⟨F.cut rfl,M.cast (fkA_step hx7),by dsimp only;omega⟩
 ·refine zr2 fun _ F=>?_
  have M:=M.unext
  refine l_op (kW F M 2 [_,_,_] [_,_,_] (k:=fun w M=>zk fun _ F=>?_))
  refine x_done F (results_1 rfl (zca F M.at' 0)) ?_
  exact zfS M () () (trivial) (by rw [fkS,take_all q4.n h6])
theorem storePage_s {p:Int} {x:ByteArray} (hT:TbO w []) (hm:RM X H w v D u) (hu:u+2≤68718428160:=by omega) (hi64:i64ok X.P:=by assumption) (h_p:i64ok p:=by exact zI6) (h_x:okS x:=by exact zI4) :
 Calls Tryz.prog 228 #[v.val,.int .i64 X.P,.int .i64 p,.string x] w (PS X H w (fun v (r:Unit) (s:Int)=>.tuple #[v.val,.int .i64 s]) () (gpS D X.P p x) (u+2) (fun (_:Unit) (s:Int)=>i64ok s)):=by
 have M:=Sp.start hT hm
 refine zE (f:=228) fun _ F=>?_
 refine l_op (kBx F M [_,_,_] (k:=fun b1 w M=>zk fun _ F=>?_))
 refine l_op (kAl F M ZI_210 [_,_,_] (k:=fun b2 w M=>zk fun _ F=>?_))
 refine l_op (kQ F M (hc:=within_s M.st.nil.tb) (k:=fun s3 w q3 m M=>zk fun _ F=>?_))
 refine zGb F (fun h4 F=>?_) fun h4 F=>?_
 ·refine zr2 fun _ F=>?_
  refine l_op (kW F M 0 [_,_,_] [_,_] (k:=fun w M=>zk fun _ F=>?_))
  refine x_done F (results_2 rfl (zca F M.at' 0) (zta F)) ?_
  exact zfS M () _ zI1 (by rw [gpS,if_pos h4])
 ·have hi4:=inB_bd (nf h4);refine zr2 fun _ F=>?_
  refine zi F (fun h5=>?_) fun h5=>?_
  ·refine zr2 fun _ F=>?_
   refine l_op (kW F M 0 [_,_,_] [_,_] (k:=fun w M=>zk fun _ F=>?_))
   refine x_done F (results_2 rfl (zca F M.at' 0) (zta F)) ?_
   exact zfS M () _ zI1 (by rw [gpS,iFb h4,if_pos h5])
  ·refine zr2 fun _ F=>?_
   refine zi F (fun h6=>?_) fun h6=>?_
   ·refine zr2 fun _ F=>?_
    refine x_rdS [(_,[_,_,_],_)] [] [] [0,1,3,2,4,5,6,7] M (HdK.none (HdS.cons M.at' 1 rfl HdS.nil)) mixed (by kernel_rfl) fun w M hS=>?_
    refine zr2 fun _ F=>?_
    refine n_op rfl rfl (kQ F M (hc:=l11Head_s M.st.nil.tb) (k:=fun s7 w q7 m M=>kB m (zkN fun _ F=>?_)))
    refine n_op rfl rfl (kQ F M (hc:=keyNum_s M.st.nil.tb) (k:=fun s8 w q8 m M=>kB m (zkN fun _ F=>?_)))
    refine n_op rfl rfl (kS F M (hc:=lay_s (pg_npg (by assumption)) M.tb M.v) (k:=fun v s9 w q9 M=>kF (zkN fun _ F=>?_)))
    refine n_op rfl rfl (kW F M 0 [_,_,_] [_,_] (k:=fun w M=>kF (zkN fun _ F=>?_)))
    refine x_done F (results_2 rfl (zca F M.at' 0) (zta F)) ?_
    exact zfS M () _ zI1 (by rw [gpS,iFb h4,if_neg h5,if_pos h6])
   ·refine zr2 fun _ F=>?_
    refine l_op (kQ F M (hc:=hex_s M.st.nil.tb) (k:=fun s10 w q10 m M=>zk fun _ F=>?_))
    refine x_rdS [(_,[_,_,_],_)] [] [] [0,1,3,5,6,2,4,7,8,9] M (HdK.none (HdS.cons M.at' 1 rfl HdS.nil)) mixed (by kernel_rfl) fun w M hS=>?_
    refine zr2 fun _ F=>?_
    refine n_op rfl rfl (kQ F M (hc:=l11Head_s M.st.nil.tb) (k:=fun s11 w q11 m M=>kB m (zkN fun _ F=>?_)))
    refine n_op rfl rfl (kQ F M (hc:=keyNum_s M.st.nil.tb) (k:=fun s12 w q12 m M=>kB m (zkN fun _ F=>?_)))
    refine n_op rfl rfl (kS F M (hc:=lay_s (pg_npg (by assumption)) M.tb M.v) (k:=fun v s13 w q13 M=>kF (zkN fun _ F=>?_)))
    refine n_op rfl rfl (kW F M 0 [_,_,_] [_,_] (k:=fun w M=>kF (zkN fun _ F=>?_)))
    refine x_done F (results_2 rfl (zca F M.at' 0) (zta F)) ?_
    exact zfS M () _ zI1 (by rw [gpS,iFb h4,if_neg h5,if_neg h6])
end
end Go.Proofs.YtipdbeklopjbmaaGreatDoor
