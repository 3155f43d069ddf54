/-
  Walks: the reference's calls.
-/
import Derived.Test.YtipdbeklopjbmaaGreatDoorP21
set_option linter.unusedVariables false
set_option linter.unusedSimpArgs false
namespace Go.Proofs.YtipdbeklopjbmaaGreatDoor
open Go.ChangeShapes Go.WideShapes Go.ChangeAt Go.RowKit
set_option maxRecDepth 100000
set_option maxHeartbeats 1000000
section
set_option maxHeartbeats 8000000
variable {X:Uni} {w:World} {b u:Nat} {v:MV} {D:List CellD} {H:Nat→Prop}
theorem makeName_s {x:ByteArray} (hT:TbO w []) (hm:RM X H w v D u) (hu:u+8≤68718428160:=by omega) (h_x:okS x:=by exact zI4) :
 Calls Tryz.prog 215 #[v.val,.string x] w (PS X H w (fun v (r:Unit) (s:Int × Int)=>.tuple #[v.val,.int .i64 s.1,.int .i64 s.2]) () (mkS D x) (u+8) (fun (_:Unit) (s:Int × Int)=>i64ok s.1∧i64ok s.2)):=by
 have M:=Sp.start hT hm
 refine zE (f:=215) fun _ F=>?_
 refine l_op (kBx F M [_,_,_] (k:=fun b1 w M=>zk fun _ F=>?_))
 refine l_op (kAl F M ZI_210 [_,_,_] (k:=fun b2 w M=>zk fun _ F=>?_))
 refine l_op (kQ F M (hc:=nameOk_s M.st.nil.tb) (k:=fun s3 w q3 m M=>zk fun _ F=>?_))
 refine zib F (fun h4=>?_) fun h4=>?_
 ·refine zr2 fun _ F=>?_
  refine l_op (kW F M 0 [_,_,_] [_,_] (k:=fun w M=>zk fun _ F=>?_))
  refine x_done F (results_3 rfl (zca F M.at' 0) (zta F) (zta F)) ?_
  exact zfS M () (_,_) (⟨zI1,zI1⟩) (by rw [mkS,if_pos h4])
 ·have hi4:=nameOk_size (nf h4);refine zr2 fun _ F=>?_
  refine l_op (kS F M (hc:=fileOf_s M.tb M.v) (k:=fun v s5 w q5 M=>zk fun _ F=>?_))
  refine l_op (kW F M 1 [_,_,_] [_,_] (k:=fun w M=>zk fun _ F=>?_))
  refine zi F (fun h6=>?_) fun h6=>?_
  ·refine zr2 fun _ F=>?_
   refine l_op (kW F M 1 [_,_,_] [_,_] (k:=fun w M=>zk fun _ F=>?_))
   refine x_done F (results_3 rfl (zca F M.at' 0) (zta F) (zta F)) ?_
   exact zfS M () (_,_) (⟨zI1,zI1⟩) (by rw [mkS,iFb h4,if_pos h6])
  ·refine zr2 fun _ F=>?_
   refine l_op (kS F M (hc:=num_s M.tb M.v) (k:=fun v s7 w q7 M=>zk fun _ F=>?_))
   refine l_op (kW F M 0 [_,_,_] [_,_] (k:=fun w M=>zk fun _ F=>?_))
   refine zi F (fun h8=>?_) fun h8=>?_
   ·refine zr2 fun _ F=>?_
    refine l_op (kW F M 1 [_,_,_] [_,_] (k:=fun w M=>zk fun _ F=>?_))
    refine x_done F (results_3 rfl (zca F M.at' 0) (zta F) (zta F)) ?_
    exact zfS M () (_,_) (⟨zI1,zI1⟩) (by rw [mkS,iFb h4,if_neg h6,if_pos h8])
   ·refine zr2 fun _ F=>?_
    refine l_op (kS F M (hc:=bump_s M.tb M.v) (k:=fun v s9 w q9 M=>zk fun _ F=>?_))
    refine l_op (kW F M 0 [_,_,_] [_,_] (k:=fun w M=>zk fun _ F=>?_))
    refine l_op (kS F M (hc:=setNum_s M.tb M.v) (k:=fun v s10 w q10 M=>zk fun _ F=>?_))
    refine l_op (kW F M 0 [_,_,_] [_,_] (k:=fun w M=>zk fun _ F=>?_))
    refine x_rdS [(_,[_,_,_],_)] [] [] [0,1,4,2,3,5,6,7] M (HdK.none (HdS.cons M.at' 0 rfl HdS.nil)) mixed (by kernel_rfl) fun w M hS=>?_
    refine zr2 fun _ F=>?_
    refine n_op rfl rfl (kQ F M (hc:=keyNum_s M.st.nil.tb) (k:=fun s11 w q11 m M=>kB m (zkN fun _ F=>?_)))
    refine n_op rfl rfl (kS F M (hc:=setNum_s M.tb M.v) (k:=fun v s12 w q12 M=>kF (zkN fun _ F=>?_)))
    refine n_op rfl rfl (kW F M 1 [_,_,_] [_,_] (k:=fun w M=>kF (zkN fun _ F=>?_)))
    refine x_done F (results_3 rfl (zca F M.at' 0) (zta F) (zta F)) ?_
    exact zfS M () (_,_) (⟨zI1,zI1⟩) (by rw [mkS,iFb h4,if_neg h6,if_neg h8])
theorem putPipe_s {id:Int} {x:ByteArray} (hT:TbO w []) (hm:RM X H w v D u) (hu:u+8≤68718428160:=by omega) (h_id:i64ok id:=by exact zI6) (h_x:okS x:=by exact zI4) :
 Calls Tryz.prog 222 #[v.val,.int .i64 id,.string x] w (PS X H w (fun v (r:Unit) (s:Int)=>.tuple #[v.val,.int .i64 s]) () (ppS D id x) (u+8) (fun (_:Unit) (s:Int)=>i64ok s)):=by
 have M:=Sp.start hT hm
 refine zE (f:=222) fun _ F=>?_
 refine l_op (kBx F M [_,_,_] (k:=fun b1 w M=>zk fun _ F=>?_))
 refine l_op (kAl F M ZI_210 [_,_,_] (k:=fun b2 w M=>zk fun _ F=>?_))
 refine l_op (kS F M (hc:=isPipe_s M.tb M.v) (k:=fun v s3 w q3 M=>zk fun _ F=>?_))
 refine l_op (kW F M 1 [_,_,_] [_,_] (k:=fun w M=>zk fun _ F=>?_))
 refine zib F (fun h4=>?_) fun h4=>?_
 ·refine zr2 fun _ F=>?_
  refine l_op (kW F M 1 [_,_,_] [_,_] (k:=fun w M=>zk fun _ F=>?_))
  refine x_done F (results_2 rfl (zca F M.at' 0) (zta F)) ?_
  exact zfS M () _ zI1 (by rw [ppS,if_pos h4])
 ·refine zr2 fun _ F=>?_
  refine zi F (fun h5=>?_) fun h5=>?_
  ·refine zr2 fun _ F=>?_
   refine l_op (kW F M 1 [_,_,_] [_,_] (k:=fun w M=>zk fun _ F=>?_))
   refine x_done F (results_2 rfl (zca F M.at' 0) (zta F)) ?_
   exact zfS M () _ zI1 (by rw [ppS,iFb h4,if_pos h5])
  ·refine zr2 fun _ F=>?_
   refine x_rdS [(_,[_,_,_],_)] [] [] [0,1,2,3,4,5,6,7,8] M (HdK.none (HdS.cons M.at' 0 rfl HdS.nil)) mixed (by kernel_rfl) fun w M hS=>?_
   refine zr2 fun _ F=>?_
   refine n_op rfl rfl (kQ F M (hc:=l08Key_s M.st.nil.tb) (k:=fun s6 w q6 m M=>kB m (zkN fun _ F=>?_)))
   refine n_op rfl rfl (kS F M (hc:=num_s M.tb M.v) (k:=fun v s7 w q7 M=>kF (zkN fun _ F=>?_)))
   refine n_op rfl rfl (kW F M 0 [_,_,_] [_,_] (k:=fun w M=>kF (zkN fun _ F=>?_)))
   refine x_rdS [(_,[_,_,_],_)] [] [] [0,1,2,3,4,5,6,7,8] M (HdK.none (HdS.cons M.at' 0 rfl HdS.nil)) mixed (by kernel_rfl) fun w M hS=>?_
   refine zr2 fun _ F=>?_
   refine n_op rfl rfl (kQ F M (hc:=l08Key_s M.st.nil.tb) (k:=fun s8 w q8 m M=>kB m (zkN fun _ F=>?_)))
   refine n_op rfl rfl (kS F M (hc:=num_s M.tb M.v) (k:=fun v s9 w q9 M=>kF (zkN fun _ F=>?_)))
   refine n_op rfl rfl (kW F M 0 [_,_,_] [_,_] (k:=fun w M=>kF (zkN fun _ F=>?_)))
   refine zi F (fun h10=>?_) fun h10=>?_
   ·refine zr2 fun _ F=>?_
    refine l_op (kW F M 1 [_,_,_] [_,_] (k:=fun w M=>zk fun _ F=>?_))
    refine x_done F (results_2 rfl (zca F M.at' 0) (zta F)) ?_
    exact zfS M () _ zI1 (by rw [ppS,iFb h4,if_neg h5,if_pos h10])
   ·refine zr2 fun _ F=>?_
    refine zi F (fun h11=>?_) fun h11=>?_
    ·refine zr2 fun _ F=>?_
     refine l_op (kW F M 1 [_,_,_] [_,_] (k:=fun w M=>zk fun _ F=>?_))
     refine x_done F (results_2 rfl (zca F M.at' 0) (zta F)) ?_
     exact zfS M () _ zI1 (by rw [ppS,iFb h4,if_neg h5,if_neg h10,if_pos h11])
    ·refine zr2 fun _ F=>?_
     refine l_op (kQ F M (hc:=hex_s M.st.nil.tb) (k:=fun s12 w q12 m M=>zk fun _ F=>?_))
     refine x_rdS [(_,[_,_,_],_)] [] [] [0,1,3,4,2,5,6] M (HdK.none (HdS.cons M.at' 0 rfl HdS.nil)) mixed (by kernel_rfl) fun w M hS=>?_
     refine zr2 fun _ F=>?_
     refine n_op rfl rfl (kQ F M (hc:=l08Key_s M.st.nil.tb) (k:=fun s13 w q13 m M=>kB m (zkN fun _ F=>?_)))
     refine n_op rfl rfl (kS F M (hc:=setNum_s M.tb M.v) (k:=fun v s14 w q14 M=>kF (zkN fun _ F=>?_)))
     refine n_op rfl rfl (kW F M 0 [_,_,_] [_,_] (k:=fun w M=>kF (zkN fun _ F=>?_)))
     refine x_rdS [(_,[_,_,_],_)] [] [] [0,1,2,3,5,6,4,7,8,9] M (HdK.none (HdS.cons M.at' 0 rfl HdS.nil)) mixed (by kernel_rfl) fun w M hS=>?_
     refine zr2 fun _ F=>?_
     refine n_op rfl rfl (kQ F M (hc:=l08Message_s M.st.nil.tb) (k:=fun s15 w q15 m M=>kB m (zkN fun _ F=>?_)))
     refine n_op rfl rfl (kS F M (hc:=lay_s nmp M.tb M.v) (k:=fun v s16 w q16 M=>kF (zkN fun _ F=>?_)))
     refine n_op rfl rfl (kW F M 1 [_,_,_] [_,_] (k:=fun w M=>kF (zkN fun _ F=>?_)))
     refine x_done F (results_2 rfl (zca F M.at' 0) (zta F)) ?_
     exact zfS M () _ zI1 (by rw [ppS,iFb h4,if_neg h5,if_neg h10,if_neg h11])
theorem send_s {id:Int} {n:Int} (hT:TbO w []) (hm:RM X H w v D u) (hu:u+8≤68718428160:=by omega) (h_id:i64ok id:=by exact zI6) (h_n:i64ok n:=by exact zI6) :
 Calls Tryz.prog 224 #[v.val,.int .i64 id,.int .i64 n] w (PS X H w (fun v (r:Unit) (s:Int)=>.tuple #[v.val,.int .i64 s]) () (sgS D id n) (u+8) (fun (_:Unit) (s:Int)=>i64ok s)):=by
 have M:=Sp.start hT hm
 refine zE (f:=224) fun _ F=>?_
 refine l_op (kBx F M [_,_,_] (k:=fun b1 w M=>zk fun _ F=>?_))
 refine l_op (kAl F M ZI_210 [_,_,_] (k:=fun b2 w M=>zk fun _ F=>?_))
 refine l_op (kS F M (hc:=state_s M.tb M.v) (k:=fun v s3 w q3 M=>zk fun _ F=>?_))
 refine l_op (kW F M 1 [_,_,_] [_,_] (k:=fun w M=>zk fun _ F=>?_))
 refine zi F (fun h4=>?_) fun h4=>?_
 ·refine zr2 fun _ F=>?_
  refine l_op (kW F M 1 [_,_,_] [_,_] (k:=fun w M=>zk fun _ F=>?_))
  refine x_done F (results_2 rfl (zca F M.at' 0) (zta F)) ?_
  exact zfS M () _ zI1 (by rw [sgS,if_pos h4])
 ·refine zr2 fun _ F=>?_
  refine l_op (kQ F M (hc:=within_s M.st.nil.tb) (k:=fun s5 w q5 m M=>zk fun _ F=>?_))
  refine zib F (fun h6=>?_) fun h6=>?_
  ·refine zr2 fun _ F=>?_
   refine l_op (kW F M 1 [_,_,_] [_,_] (k:=fun w M=>zk fun _ F=>?_))
   refine x_done F (results_2 rfl (zca F M.at' 0) (zta F)) ?_
   exact zfS M () _ zI1 (by rw [sgS,if_neg h4,if_pos h6])
  ·have hi6:=inB_bd (nf h6);refine zr2 fun _ F=>?_
   refine x_rdS [(_,[_,_,_],_)] [] [] [0,1,2,3,4,5,6,7,8] M (HdK.none (HdS.cons M.at' 0 rfl HdS.nil)) mixed (by kernel_rfl) fun w M hS=>?_
   refine zr2 fun _ F=>?_
   refine n_op rfl rfl (kQ F M (hc:=l10Key_s M.st.nil.tb) (k:=fun s7 w q7 m M=>kB m (zkN fun _ F=>?_)))
   refine n_op rfl rfl (kS F M (hc:=num_s M.tb M.v) (k:=fun v s8 w q8 M=>kF (zkN fun _ F=>?_)))
   refine n_op rfl rfl (kW F M 0 [_,_,_] [_,_] (k:=fun w M=>kF (zkN fun _ F=>?_)))
   refine x_rdS [(_,[_,_,_],_)] [] [] [0,1,2,3,4,5,6,7,8] M (HdK.none (HdS.cons M.at' 0 rfl HdS.nil)) mixed (by kernel_rfl) fun w M hS=>?_
   refine zr2 fun _ F=>?_
   refine n_op rfl rfl (kQ F M (hc:=l10Key_s M.st.nil.tb) (k:=fun s9 w q9 m M=>kB m (zkN fun _ F=>?_)))
   refine n_op rfl rfl (kS F M (hc:=num_s M.tb M.v) (k:=fun v s10 w q10 M=>kF (zkN fun _ F=>?_)))
   refine n_op rfl rfl (kW F M 0 [_,_,_] [_,_] (k:=fun w M=>kF (zkN fun _ F=>?_)))
   refine zi F (fun h11=>?_) fun h11=>?_
   ·refine zr2 fun _ F=>?_
    refine l_op (kW F M 1 [_,_,_] [_,_] (k:=fun w M=>zk fun _ F=>?_))
    refine x_done F (results_2 rfl (zca F M.at' 0) (zta F)) ?_
    exact zfS M () _ zI1 (by rw [sgS,if_neg h4,iFb h6,if_pos h11])
   ·refine zr2 fun _ F=>?_
    refine zi F (fun h12=>?_) fun h12=>?_
    ·refine zr2 fun _ F=>?_
     refine l_op (kW F M 1 [_,_,_] [_,_] (k:=fun w M=>zk fun _ F=>?_))
     refine x_done F (results_2 rfl (zca F M.at' 0) (zta F)) ?_
     exact zfS M () _ zI1 (by rw [sgS,if_neg h4,iFb h6,if_neg h11,if_pos h12])
    ·refine zr2 fun _ F=>?_
     refine x_rdS [(_,[_,_,_],_)] [] [] [0,1,3,4,2,5,6] M (HdK.none (HdS.cons M.at' 0 rfl HdS.nil)) mixed (by kernel_rfl) fun w M hS=>?_
     refine zr2 fun _ F=>?_
     refine n_op rfl rfl (kQ F M (hc:=l10Key_s M.st.nil.tb) (k:=fun s13 w q13 m M=>kB m (zkN fun _ F=>?_)))
     refine n_op rfl rfl (kS F M (hc:=setNum_s M.tb M.v) (k:=fun v s14 w q14 M=>kF (zkN fun _ F=>?_)))
     refine n_op rfl rfl (kW F M 0 [_,_,_] [_,_] (k:=fun w M=>kF (zkN fun _ F=>?_)))
     refine x_rdS [(_,[_,_,_],_)] [] [] [0,1,2,3,5,4,6,7,8] M (HdK.none (HdS.cons M.at' 0 rfl HdS.nil)) mixed (by kernel_rfl) fun w M hS=>?_
     refine zr2 fun _ F=>?_
     refine n_op rfl rfl (kQ F M (hc:=l10Signal_s M.st.nil.tb) (k:=fun s15 w q15 m M=>kB m (zkN fun _ F=>?_)))
     refine n_op rfl rfl (kS F M (hc:=setNum_s M.tb M.v) (k:=fun v s16 w q16 M=>kF (zkN fun _ F=>?_)))
     refine n_op rfl rfl (kW F M 1 [_,_,_] [_,_] (k:=fun w M=>kF (zkN fun _ F=>?_)))
     refine x_done F (results_2 rfl (zca F M.at' 0) (zta F)) ?_
     exact zfS M () _ zI1 (by rw [sgS,if_neg h4,iFb h6,if_neg h11,if_neg h12])
theorem putOut_s {x:ByteArray} (hT:TbO w []) (hm:RM X H w v D u) (hu:u+8≤68718428160:=by omega) (h_x:okS x:=by exact zI4) :
 Calls Tryz.prog 230 #[v.val,.string x] w (PS X H w (fun v (r:Unit) (s:Int)=>.tuple #[v.val,.int .i64 s]) () (poS D x) (u+8) (fun (_:Unit) (s:Int)=>i64ok s)):=by
 have hzx:=h_x
 unfold okS at hzx
 have M:=Sp.start hT hm
 refine zE (f:=230) fun _ F=>?_
 refine l_op (kBx F M [_,_,_] (k:=fun b1 w M=>zk fun _ F=>?_))
 refine l_op (kAl F M ZI_210 [_,_,_] (k:=fun b2 w M=>zk fun _ F=>?_))
 refine zG F (fun h3 F=>?_) fun h3 F=>?_
 ·refine zr2 fun _ F=>?_
  refine l_op (kW F M 0 [_,_,_] [_,_] (k:=fun w M=>zk fun _ F=>?_))
  refine x_done F (results_2 rfl (zca F M.at' 0) (zta F)) ?_
  exact zfS M () _ zI1 (by rw [poS,if_pos (po_1 h3)])
 ·refine zr2 fun _ F=>?_
  refine zi F (fun h4=>?_) fun h4=>?_
  ·refine zr2 fun _ F=>?_
   refine l_op (kW F M 0 [_,_,_] [_,_] (k:=fun w M=>zk fun _ F=>?_))
   refine x_done F (results_2 rfl (zca F M.at' 0) (zta F)) ?_
   exact zfS M () _ zI1 (by rw [poS,if_pos (po_2 h4)])
  ·refine zr2 fun _ F=>?_
   refine l_op (kS F M (hc:=num_s M.tb M.v) (k:=fun v s5 w q5 M=>zk fun _ F=>?_))
   refine l_op (kW F M 1 [_,_,_] [_,_] (k:=fun w M=>zk fun _ F=>?_))
   refine zi F (fun h6=>?_) fun h6=>?_
   ·refine zr2 fun _ F=>?_
    refine l_op (kW F M 1 [_,_,_] [_,_] (k:=fun w M=>zk fun _ F=>?_))
    refine x_done F (results_2 rfl (zca F M.at' 0) (zta F)) ?_
    exact zfS M () _ zI1 (by rw [poS,iFb (po_3 h3 h4),if_pos h6])
   ·refine zr2 fun _ F=>?_
    refine l_op (kQ F M (hc:=hex_s M.st.nil.tb) (k:=fun s7 w q7 m M=>zk fun _ F=>?_))
    refine l_op (kS F M (hc:=setNum_s M.tb M.v) (k:=fun v s8 w q8 M=>zk fun _ F=>?_))
    refine l_op (kW F M 0 [_,_,_] [_,_] (k:=fun w M=>zk fun _ F=>?_))
    refine x_rdS [(_,[_,_,_],_)] [] [] [0,1,2,4,5,3,6,7,8] M (HdK.none (HdS.cons M.at' 0 rfl HdS.nil)) mixed (by kernel_rfl) fun w M hS=>?_
    refine zr2 fun _ F=>?_
    refine n_op rfl rfl (kQ F M (hc:=keyNum_s M.st.nil.tb) (k:=fun s9 w q9 m M=>kB m (zkN fun _ F=>?_)))
    refine n_op rfl rfl (kS F M (hc:=lay_s nmp M.tb M.v) (k:=fun v s10 w q10 M=>kF (zkN fun _ F=>?_)))
    refine n_op rfl rfl (kW F M 1 [_,_,_] [_,_] (k:=fun w M=>kF (zkN fun _ F=>?_)))
    refine x_done F (results_2 rfl (zca F M.at' 0) (zta F)) ?_
    exact zfS M () _ zI1 (by rw [poS,iFb (po_3 h3 h4),if_neg h6])
theorem takePipe_s {id:Int} (hT:TbO w []) (hm:RM X H w v D u) (hu:u+8≤68718428160:=by omega) (h_id:i64ok id:=by exact zI6) :
 Calls Tryz.prog 223 #[v.val,.int .i64 id] w (PS X H w (fun v (r:Unit) (s:ByteArray × Int)=>.tuple #[v.val,.string s.1,.int .i64 s.2]) () (tpS D id) (u+8) (fun (_:Unit) (s:ByteArray × Int)=>okS s.1∧i64ok s.2)):=by
 have M:=Sp.start hT hm
 refine zE (f:=223) fun _ F=>?_
 refine l_op (kBx F M [_,_,_] (k:=fun b1 w M=>zk fun _ F=>?_))
 refine l_op (kAl F M ZI_210 [_,_,_] (k:=fun b2 w M=>zk fun _ F=>?_))
 refine l_op (kS F M (hc:=isPipe_s M.tb M.v) (k:=fun v s3 w q3 M=>zk fun _ F=>?_))
 refine l_op (kW F M 1 [_,_,_] [_,_] (k:=fun w M=>zk fun _ F=>?_))
 refine zib F (fun h4=>?_) fun h4=>?_
 ·refine zr2 fun _ F=>?_
  refine l_op (kW F M 1 [_,_,_] [_,_] (k:=fun w M=>zk fun _ F=>?_))
  refine x_done F (results_3 rfl (zca F M.at' 0) (zta F) (zta F)) ?_
  exact zfS M () (_,_) (⟨by first|assumption|exact zU,by unfold i64ok;omega⟩) (by rw [tpS,if_pos h4])
 ·refine zr2 fun _ F=>?_
  refine x_rdS [(_,[_,_,_],_)] [] [] [0,1,2,3,4,5,6,7,8] M (HdK.none (HdS.cons M.at' 0 rfl HdS.nil)) mixed (by kernel_rfl) fun w M hS=>?_
  refine zr2 fun _ F=>?_
  refine n_op rfl rfl (kQ F M (hc:=l08Key_s M.st.nil.tb) (k:=fun s5 w q5 m M=>kB m (zkN fun _ F=>?_)))
  refine n_op rfl rfl (kS F M (hc:=num_s M.tb M.v) (k:=fun v s6 w q6 M=>kF (zkN fun _ F=>?_)))
  refine n_op rfl rfl (kW F M 0 [_,_,_] [_,_] (k:=fun w M=>kF (zkN fun _ F=>?_)))
  refine x_rdS [(_,[_,_,_],_)] [] [] [0,1,2,3,4,5,6,7,8] M (HdK.none (HdS.cons M.at' 0 rfl HdS.nil)) mixed (by kernel_rfl) fun w M hS=>?_
  refine zr2 fun _ F=>?_
  refine n_op rfl rfl (kQ F M (hc:=l08Key_s M.st.nil.tb) (k:=fun s7 w q7 m M=>kB m (zkN fun _ F=>?_)))
  refine n_op rfl rfl (kS F M (hc:=num_s M.tb M.v) (k:=fun v s8 w q8 M=>kF (zkN fun _ F=>?_)))
  refine n_op rfl rfl (kW F M 0 [_,_,_] [_,_] (k:=fun w M=>kF (zkN fun _ F=>?_)))
  refine zi F (fun h9=>?_) fun h9=>?_
  ·refine zr2 fun _ F=>?_
   refine l_op (kW F M 1 [_,_,_] [_,_] (k:=fun w M=>zk fun _ F=>?_))
   refine x_done F (results_3 rfl (zca F M.at' 0) (zta F) (zta F)) ?_
   exact zfS M () (_,_) (⟨by first|assumption|exact zU,by unfold i64ok;omega⟩) (by rw [tpS,iFb h4,if_pos h9.symm])
  ·refine zr2 fun _ F=>?_
   refine x_rdS [(_,[_,_,_],_)] [] [] [0,1,2,3,4,5,6,7,8,9,10] M (HdK.none (HdS.cons M.at' 0 rfl HdS.nil)) mixed (by kernel_rfl) fun w M hS=>?_
   refine zr2 fun _ F=>?_
   refine n_op rfl rfl (kQ F M (hc:=l08Message_s M.st.nil.tb) (k:=fun s10 w q10 m M=>kB m (zkN fun _ F=>?_)))
   refine n_op rfl rfl (kS F M (hc:=look_s M.tb M.v) (k:=fun v s11 w q11 M=>kF (zkN fun _ F=>?_)))
   refine n_op rfl rfl (kW F M 0 [_,_,_] [_,_] (k:=fun w M=>kF (zkN fun _ F=>?_)))
   refine zG F (fun h12 F=>?_) fun h12 F=>?_
   ·refine zr2 fun _ F=>?_
    refine kIx F (0) (by first|omega|exact size_pos (by assumption)|exact size_pos (Ne.symm (by assumption))) (k:=zk fun _ F=>?_)
    refine zi F (fun h13=>?_) fun h13=>?_
    ·refine zr2 fun _ F=>?_
     refine kSl F (1) (by first|omega|exact size_pos (by assumption)|(simp only [sz0,sz1,sz2] at *;omega)) (k:=fun he14=>zk fun _ F=>?_)
     refine l_op (kQ F M (hc:=unhex_s M.st.nil.tb) (k:=fun s15 w q15 m M=>zk fun _ F=>?_))
     refine x_rdS [(_,[_,_,_],_)] [] [] [0,1,2,3,4,5,6] M (HdK.none (HdS.cons M.at' 0 rfl HdS.nil)) mixed (by kernel_rfl) fun w M hS=>?_
     refine zr2 fun _ F=>?_
     refine n_op rfl rfl (kQ F M (hc:=l08Message_s M.st.nil.tb) (k:=fun s16 w q16 m M=>kB m (zkN fun _ F=>?_)))
     refine n_op rfl rfl (kS F M (hc:=lay_s nmp M.tb M.v) (k:=fun v s17 w q17 M=>kF (zkN fun _ F=>?_)))
     refine n_op rfl rfl (kW F M 0 [_,_,_] [_,_] (k:=fun w M=>kF (zkN fun _ F=>?_)))
     refine x_rdS [(_,[_,_,_],_)] [] [] [0,1,3,4,6,2,5,7,8,9] M (HdK.none (HdS.cons M.at' 0 rfl HdS.nil)) mixed (by kernel_rfl) fun w M hS=>?_
     refine zr2 fun _ F=>?_
     refine n_op rfl rfl (kQ F M (hc:=l08Key_s M.st.nil.tb) (k:=fun s18 w q18 m M=>kB m (zkN fun _ F=>?_)))
     refine n_op rfl rfl (kS F M (hc:=setNum_s M.tb M.v) (k:=fun v s19 w q19 M=>kF (zkN fun _ F=>?_)))
     refine n_op rfl rfl (kW F M 1 [_,_,_] [_,_] (k:=fun w M=>kF (zkN fun _ F=>?_)))
     refine x_done F (results_3 rfl (zca F M.at' 0) (zta F) (zta F)) ?_
     exact zfS M () (_,_) (⟨by first|assumption|exact zU,by unfold i64ok;omega⟩) (by rw [tpS,iFb h4,if_neg fun e=>h9 e.symm])
    ·refine zr2 fun _ F=>?_
     refine x_rdS [(_,[_,_,_],_)] [] [] [0,1,2,3,4,5,6] M (HdK.none (HdS.cons M.at' 0 rfl HdS.nil)) mixed (by kernel_rfl) fun w M hS=>?_
     refine zr2 fun _ F=>?_
     refine n_op rfl rfl (kQ F M (hc:=l08Message_s M.st.nil.tb) (k:=fun s20 w q20 m M=>kB m (zkN fun _ F=>?_)))
     refine n_op rfl rfl (kS F M (hc:=lay_s nmp M.tb M.v) (k:=fun v s21 w q21 M=>kF (zkN fun _ F=>?_)))
     refine n_op rfl rfl (kW F M 0 [_,_,_] [_,_] (k:=fun w M=>kF (zkN fun _ F=>?_)))
     refine x_rdS [(_,[_,_,_],_)] [] [] [0,1,3,4,6,2,5,7,8,9] M (HdK.none (HdS.cons M.at' 0 rfl HdS.nil)) mixed (by kernel_rfl) fun w M hS=>?_
     refine zr2 fun _ F=>?_
     refine n_op rfl rfl (kQ F M (hc:=l08Key_s M.st.nil.tb) (k:=fun s22 w q22 m M=>kB m (zkN fun _ F=>?_)))
     refine n_op rfl rfl (kS F M (hc:=setNum_s M.tb M.v) (k:=fun v s23 w q23 M=>kF (zkN fun _ F=>?_)))
     refine n_op rfl rfl (kW F M 1 [_,_,_] [_,_] (k:=fun w M=>kF (zkN fun _ F=>?_)))
     refine x_done F (results_3 rfl (zca F M.at' 0) (zta F) (zta F)) ?_
     exact zfS M () (_,_) (⟨by first|assumption|exact zU,by unfold i64ok;omega⟩) (by rw [tpS,iFb h4,if_neg fun e=>h9 e.symm])
   ·refine zr2 fun _ F=>?_
    refine x_rdS [(_,[_,_,_],_)] [] [] [0,1,2,3,4,5,6] M (HdK.none (HdS.cons M.at' 0 rfl HdS.nil)) mixed (by kernel_rfl) fun w M hS=>?_
    refine zr2 fun _ F=>?_
    refine n_op rfl rfl (kQ F M (hc:=l08Message_s M.st.nil.tb) (k:=fun s24 w q24 m M=>kB m (zkN fun _ F=>?_)))
    refine n_op rfl rfl (kS F M (hc:=lay_s nmp M.tb M.v) (k:=fun v s25 w q25 M=>kF (zkN fun _ F=>?_)))
    refine n_op rfl rfl (kW F M 0 [_,_,_] [_,_] (k:=fun w M=>kF (zkN fun _ F=>?_)))
    refine x_rdS [(_,[_,_,_],_)] [] [] [0,1,3,4,6,2,5,7,8,9] M (HdK.none (HdS.cons M.at' 0 rfl HdS.nil)) mixed (by kernel_rfl) fun w M hS=>?_
    refine zr2 fun _ F=>?_
    refine n_op rfl rfl (kQ F M (hc:=l08Key_s M.st.nil.tb) (k:=fun s26 w q26 m M=>kB m (zkN fun _ F=>?_)))
    refine n_op rfl rfl (kS F M (hc:=setNum_s M.tb M.v) (k:=fun v s27 w q27 M=>kF (zkN fun _ F=>?_)))
    refine n_op rfl rfl (kW F M 1 [_,_,_] [_,_] (k:=fun w M=>kF (zkN fun _ F=>?_)))
    refine x_done F (results_3 rfl (zca F M.at' 0) (zta F) (zta F)) ?_
    exact zfS M () (_,_) (⟨by first|assumption|exact zU,by unfold i64ok;omega⟩) (by rw [tpS,iFb h4,if_neg fun e=>h9 e.symm])
end
end Go.Proofs.YtipdbeklopjbmaaGreatDoor
