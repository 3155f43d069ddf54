/-
  Walks: the reference's calls.
-/
import Derived.Test.YtipdbeklopjbmaaGreatDoorP21
set_option linter.unusedVariables false
set_option linter.unusedSimpArgs false
namespace Go.Proofs.YtipdbeklopjbmaaGreatDoor
open Go.ChangeShapes Go.WideShapes Go.ChangeAt Go.RowKit
set_option maxRecDepth 100000
set_option maxHeartbeats 1000000
section
set_option maxHeartbeats 8000000
variable {X:Uni} {w:World} {b u:Nat} {v:MV} {D:List CellD} {H:Nat→Prop}
theorem linkName_s {f:ByteArray} {t:ByteArray} (hT:TbO w []) (hm:RM X H w v D u) (hu:u+8≤68718428160:=by omega) (h_f:okS f:=by exact zI4) (h_t:okS t:=by exact zI4) :
 Calls Tryz.prog 216 #[v.val,.string f,.string t] w (PS X H w (fun v (r:Unit) (s:Int)=>.tuple #[v.val,.int .i64 s]) () (lkS D f t) (u+8) (fun (_:Unit) (s:Int)=>i64ok s)):=by
 have M:=Sp.start hT hm
 refine zE (f:=216) fun _ F=>?_
 refine l_op (kBx F M [_,_,_] (k:=fun b1 w M=>zk fun _ F=>?_))
 refine l_op (kAl F M ZI_210 [_,_,_] (k:=fun b2 w M=>zk fun _ F=>?_))
 refine l_op (kQ F M (hc:=nameOk_s M.st.nil.tb) (k:=fun s3 w q3 m M=>zk fun _ F=>?_))
 refine zGb F (fun h4 F=>?_) fun h4 F=>?_
 ·refine zr2 fun _ F=>?_
  refine l_op (kW F M 0 [_,_,_] [_,_] (k:=fun w M=>zk fun _ F=>?_))
  refine x_done F (results_2 rfl (zca F M.at' 0) (zta F)) ?_
  exact zfS M () _ zI1 (by rw [lkS,if_pos h4])
 ·have hi4:=nameOk_size (nf h4);refine zr2 fun _ F=>?_
  refine l_op (kQ F M (hc:=nameOk_s M.st.nil.tb) (k:=fun s5 w q5 m M=>zk fun _ F=>?_))
  refine zib F (fun h6=>?_) fun h6=>?_
  ·refine zr2 fun _ F=>?_
   refine l_op (kW F M 0 [_,_,_] [_,_] (k:=fun w M=>zk fun _ F=>?_))
   refine x_done F (results_2 rfl (zca F M.at' 0) (zta F)) ?_
   exact zfS M () _ zI1 (by rw [lkS,iFb h4,if_pos h6])
  ·have hi6:=nameOk_size (nf h6);refine zr2 fun _ F=>?_
   refine l_op (kS F M (hc:=fileOf_s M.tb M.v) (k:=fun v s7 w q7 M=>zk fun _ F=>?_))
   refine l_op (kW F M 1 [_,_,_] [_,_] (k:=fun w M=>zk fun _ F=>?_))
   refine zi F (fun h8=>?_) fun h8=>?_
   ·refine zr2 fun _ F=>?_
    refine l_op (kW F M 1 [_,_,_] [_,_] (k:=fun w M=>zk fun _ F=>?_))
    refine x_done F (results_2 rfl (zca F M.at' 0) (zta F)) ?_
    exact zfS M () _ zI1 (by rw [lkS,iFb h4,iFb h6,if_pos h8])
   ·refine zr2 fun _ F=>?_
    refine l_op (kS F M (hc:=fileOf_s M.tb M.v) (k:=fun v s9 w q9 M=>zk fun _ F=>?_))
    refine l_op (kW F M 0 [_,_,_] [_,_] (k:=fun w M=>zk fun _ F=>?_))
    refine zi F (fun h10=>?_) fun h10=>?_
    ·refine zr2 fun _ F=>?_
     refine l_op (kW F M 1 [_,_,_] [_,_] (k:=fun w M=>zk fun _ F=>?_))
     refine x_done F (results_2 rfl (zca F M.at' 0) (zta F)) ?_
     exact zfS M () _ zI1 (by rw [lkS,iFb h4,iFb h6,if_neg h8,if_pos h10])
    ·refine zr2 fun _ F=>?_
     refine x_rdS [(_,[_,_,_],_)] [] [] [0,1,2,3,4,5,6,7,8] M (HdK.none (HdS.cons M.at' 0 rfl HdS.nil)) mixed (by kernel_rfl) fun w M hS=>?_
     refine zr2 fun _ F=>?_
     refine n_op rfl rfl (kQ F M (hc:=keyNum_s M.st.nil.tb) (k:=fun s11 w q11 m M=>kB m (zkN fun _ F=>?_)))
     refine n_op rfl rfl (kS F M (hc:=num_s M.tb M.v) (k:=fun v s12 w q12 M=>kF (zkN fun _ F=>?_)))
     refine n_op rfl rfl (kW F M 0 [_,_,_] [_,_] (k:=fun w M=>kF (zkN fun _ F=>?_)))
     refine zi F (fun h13=>?_) fun h13=>?_
     ·refine zr2 fun _ F=>?_
      refine l_op (kW F M 1 [_,_,_] [_,_] (k:=fun w M=>zk fun _ F=>?_))
      refine x_done F (results_2 rfl (zca F M.at' 0) (zta F)) ?_
      exact zfS M () _ zI1 (by rw [lkS,iFb h4,iFb h6,if_neg h8,if_neg h10,if_pos h13])
     ·refine zr2 fun _ F=>?_
      refine l_op (kS F M (hc:=setNum_s M.tb M.v) (k:=fun v s14 w q14 M=>zk fun _ F=>?_))
      refine l_op (kW F M 0 [_,_,_] [_,_] (k:=fun w M=>zk fun _ F=>?_))
      refine x_rdS [(_,[_,_,_],_)] [] [] [0,1,3,4,2,5,6,7] M (HdK.none (HdS.cons M.at' 0 rfl HdS.nil)) mixed (by kernel_rfl) fun w M hS=>?_
      refine zr2 fun _ F=>?_
      refine n_op rfl rfl (kQ F M (hc:=keyNum_s M.st.nil.tb) (k:=fun s15 w q15 m M=>kB m (zkN fun _ F=>?_)))
      refine n_op rfl rfl (kS F M (hc:=setNum_s M.tb M.v) (k:=fun v s16 w q16 M=>kF (zkN fun _ F=>?_)))
      refine n_op rfl rfl (kW F M 1 [_,_,_] [_,_] (k:=fun w M=>kF (zkN fun _ F=>?_)))
      refine x_done F (results_2 rfl (zca F M.at' 0) (zta F)) ?_
      exact zfS M () _ zI1 (by rw [lkS,iFb h4,iFb h6,if_neg h8,if_neg h10,if_neg h13])
theorem spawn_s {p:Int} (hT:TbO w []) (hm:RM X H w v D u) (hu:u+8≤68718428160:=by omega) (h_p:i64ok p:=by exact zI6) :
 Calls Tryz.prog 191 #[v.val,.int .i64 p] w (PS X H w (fun v (r:Int × Int) (s:Unit)=>.tuple #[v.val,.int .i64 r.1,.int .i64 r.2]) (spF D p).1 (spF D p).2 (u+8) (fun (r:Int × Int) (_:Unit)=>i64ok r.1∧i64ok r.2)):=by
 have M:=Sp.start hT hm
 refine zE (f:=191) fun _ F=>?_
 refine l_op (kBx F M [_,_,_] (k:=fun b1 w M=>zk fun _ F=>?_))
 refine l_op (kAl F M ZI_210 [_,_,_] (k:=fun b2 w M=>zk fun _ F=>?_))
 refine l_op (kS F M (hc:=num_s M.tb M.v) (k:=fun v s3 w q3 M=>zk fun _ F=>?_))
 refine l_op (kW F M 1 [_,_,_] [_,_] (k:=fun w M=>zk fun _ F=>?_))
 refine zi F (fun h4=>?_) fun h4=>?_
 ·refine zr2 fun _ F=>?_
  refine l_op (kW F M 1 [_,_,_] [_,_] (k:=fun w M=>zk fun _ F=>?_))
  refine x_done F (results_3 rfl (zca F M.at' 0) (zta F) (zta F)) ?_
  exact zfS M (_,_) () (⟨zI1,zI1⟩) (by rw [spF,if_pos h4])
 ·refine zr2 fun _ F=>?_
  refine l_op (kS F M (hc:=bump_s M.tb M.v) (k:=fun v s5 w q5 M=>zk fun _ F=>?_))
  refine l_op (kW F M 0 [_,_,_] [_,_] (k:=fun w M=>zk fun _ F=>?_))
  refine x_rdS [(_,[_,_,_],_)] [] [] [0,1,2,3,4] M (HdK.none (HdS.cons M.at' 0 rfl HdS.nil)) mixed (by kernel_rfl) fun w M hS=>?_
  refine zr2 fun _ F=>?_
  refine n_op rfl rfl (kQ F M (hc:=l09Key_s M.st.nil.tb) (k:=fun s6 w q6 m M=>kB m (zkN fun _ F=>?_)))
  refine n_op rfl rfl (kS F M (hc:=setNum_s M.tb M.v) (k:=fun v s7 w q7 M=>kF (zkN fun _ F=>?_)))
  refine n_op rfl rfl (kW F M 0 [_,_,_] [_,_] (k:=fun w M=>kF (zkN fun _ F=>?_)))
  refine x_rdS [(_,[_,_,_],_)] [] [] [0,1,3,5,2,4,6,7,8] M (HdK.none (HdS.cons M.at' 0 rfl HdS.nil)) mixed (by kernel_rfl) fun w M hS=>?_
  refine zr2 fun _ F=>?_
  refine n_op rfl rfl (kQ F M (hc:=l09Key_s M.st.nil.tb) (k:=fun s8 w q8 m M=>kB m (zkN fun _ F=>?_)))
  refine n_op rfl rfl (kS F M (hc:=setNum_s M.tb M.v) (k:=fun v s9 w q9 M=>kF (zkN fun _ F=>?_)))
  refine n_op rfl rfl (kW F M 1 [_,_,_] [_,_] (k:=fun w M=>kF (zkN fun _ F=>?_)))
  refine x_done F (results_3 rfl (zca F M.at' 0) (zta F) (zta F)) ?_
  exact zfS M (_,_) () (⟨zI1,zI1⟩) (by rw [spF,if_neg h4])
theorem takeSignal_s {id:Int} (hT:TbO w []) (hm:RM X H w v D u) (hu:u+8≤68718428160:=by omega) (h_id:i64ok id:=by exact zI6) :
 Calls Tryz.prog 225 #[v.val,.int .i64 id] w (PS X H w (fun v (r:Unit) (s:Int × Int)=>.tuple #[v.val,.int .i64 s.1,.int .i64 s.2]) () (tsS D id) (u+8) (fun (_:Unit) (s:Int × Int)=>i64ok s.1∧i64ok s.2)):=by
 have M:=Sp.start hT hm
 refine zE (f:=225) fun _ F=>?_
 refine l_op (kBx F M [_,_,_] (k:=fun b1 w M=>zk fun _ F=>?_))
 refine l_op (kAl F M ZI_210 [_,_,_] (k:=fun b2 w M=>zk fun _ F=>?_))
 refine x_rdS [(_,[_,_,_],_)] [] [] [0,1,2,3,4,5,6,7,8] M (HdK.none (HdS.cons M.at' 1 rfl HdS.nil)) mixed (by kernel_rfl) fun w M hS=>?_
 refine zr2 fun _ F=>?_
 refine n_op rfl rfl (kQ F M (hc:=l10Key_s M.st.nil.tb) (k:=fun s3 w q3 m M=>kB m (zkN fun _ F=>?_)))
 refine n_op rfl rfl (kS F M (hc:=num_s M.tb M.v) (k:=fun v s4 w q4 M=>kF (zkN fun _ F=>?_)))
 refine n_op rfl rfl (kW F M 1 [_,_,_] [_,_] (k:=fun w M=>kF (zkN fun _ F=>?_)))
 refine x_rdS [(_,[_,_,_],_)] [] [] [0,1,2,3,4,5,6,7,8] M (HdK.none (HdS.cons M.at' 0 rfl HdS.nil)) mixed (by kernel_rfl) fun w M hS=>?_
 refine zr2 fun _ F=>?_
 refine n_op rfl rfl (kQ F M (hc:=l10Key_s M.st.nil.tb) (k:=fun s5 w q5 m M=>kB m (zkN fun _ F=>?_)))
 refine n_op rfl rfl (kS F M (hc:=num_s M.tb M.v) (k:=fun v s6 w q6 M=>kF (zkN fun _ F=>?_)))
 refine n_op rfl rfl (kW F M 0 [_,_,_] [_,_] (k:=fun w M=>kF (zkN fun _ F=>?_)))
 refine zi F (fun h7=>?_) fun h7=>?_
 ·refine zr2 fun _ F=>?_
  refine l_op (kW F M 1 [_,_,_] [_,_] (k:=fun w M=>zk fun _ F=>?_))
  refine x_done F (results_3 rfl (zca F M.at' 0) (zta F) (zta F)) ?_
  exact zfS M () (_,_) (⟨zI1,zI1⟩) (by rw [tsS,if_pos h7.symm])
 ·refine zr2 fun _ F=>?_
  refine x_rdS [(_,[_,_,_],_)] [] [] [0,1,2,3,4,5,6,7,8,9,10] M (HdK.none (HdS.cons M.at' 0 rfl HdS.nil)) mixed (by kernel_rfl) fun w M hS=>?_
  refine zr2 fun _ F=>?_
  refine n_op rfl rfl (kQ F M (hc:=l10Signal_s M.st.nil.tb) (k:=fun s8 w q8 m M=>kB m (zkN fun _ F=>?_)))
  refine n_op rfl rfl (kS F M (hc:=num_s M.tb M.v) (k:=fun v s9 w q9 M=>kF (zkN fun _ F=>?_)))
  refine n_op rfl rfl (kW F M 0 [_,_,_] [_,_] (k:=fun w M=>kF (zkN fun _ F=>?_)))
  refine x_rdS [(_,[_,_,_],_)] [] [] [0,1,2,3,4,5,6] M (HdK.none (HdS.cons M.at' 0 rfl HdS.nil)) mixed (by kernel_rfl) fun w M hS=>?_
  refine zr2 fun _ F=>?_
  refine n_op rfl rfl (kQ F M (hc:=l10Signal_s M.st.nil.tb) (k:=fun s10 w q10 m M=>kB m (zkN fun _ F=>?_)))
  refine n_op rfl rfl (kS F M (hc:=lay_s nmp M.tb M.v) (k:=fun v s11 w q11 M=>kF (zkN fun _ F=>?_)))
  refine n_op rfl rfl (kW F M 0 [_,_,_] [_,_] (k:=fun w M=>kF (zkN fun _ F=>?_)))
  refine x_rdS [(_,[_,_,_],_)] [] [] [0,1,3,4,6,2,5,7,8,9] M (HdK.none (HdS.cons M.at' 0 rfl HdS.nil)) mixed (by kernel_rfl) fun w M hS=>?_
  refine zr2 fun _ F=>?_
  refine n_op rfl rfl (kQ F M (hc:=l10Key_s M.st.nil.tb) (k:=fun s12 w q12 m M=>kB m (zkN fun _ F=>?_)))
  refine n_op rfl rfl (kS F M (hc:=setNum_s M.tb M.v) (k:=fun v s13 w q13 M=>kF (zkN fun _ F=>?_)))
  refine n_op rfl rfl (kW F M 1 [_,_,_] [_,_] (k:=fun w M=>kF (zkN fun _ F=>?_)))
  refine x_done F (results_3 rfl (zca F M.at' 0) (zta F) (zta F)) ?_
  exact zfS M () (_,_) (⟨zI1,zI1⟩) (by rw [tsS,if_neg fun e=>h7 e.symm])
theorem loadPage_s {id:Int} {p:Int} (hT:TbO w []) (hm:RM X H w v D u) (hu:u+2≤68718428160:=by omega) (h_id:i64ok id:=by exact zI6) (h_p:i64ok p:=by exact zI6) :
 Calls Tryz.prog 229 #[v.val,.int .i64 id,.int .i64 p] w (PS X H w (fun v (r:Unit) (s:ByteArray × Int)=>.tuple #[v.val,.string s.1,.int .i64 s.2]) () D (u+2) (fun (_:Unit) (s:ByteArray × Int)=>okS s.1∧i64ok s.2)):=by
 have M:=Sp.start hT hm
 refine zE (f:=229) fun _ F=>?_
 refine l_op (kBx F M [_,_,_] (k:=fun b1 w M=>zk fun _ F=>?_))
 refine l_op (kAl F M ZI_210 [_,_,_] (k:=fun b2 w M=>zk fun _ F=>?_))
 refine l_op (kQ F M (hc:=within_s M.st.nil.tb) (k:=fun s3 w q3 m M=>zk fun _ F=>?_))
 refine zib F (fun h4=>?_) fun h4=>?_
 ·refine zr2 fun _ F=>?_
  refine l_op (kW F M 0 [_,_,_] [_,_] (k:=fun w M=>zk fun _ F=>?_))
  refine x_done F (results_3 rfl (zca F M.at' 0) (zta F) (zta F)) ?_
  exact zfS M () (_,_) (⟨by first|assumption|exact zU,by unfold i64ok;omega⟩) (rfl)
 ·have hi4:=inB_bd (nf h4);refine zr2 fun _ F=>?_
  refine x_rdS [(_,[_,_,_],_)] [] [] [0,1,3,2,4,5,6,7,8,9,10] M (HdK.none (HdS.cons M.at' 1 rfl HdS.nil)) mixed (by kernel_rfl) fun w M hS=>?_
  refine zr2 fun _ F=>?_
  refine n_op rfl rfl (kQ F M (hc:=l11Head_s M.st.nil.tb) (k:=fun s5 w q5 m M=>kB m (zkN fun _ F=>?_)))
  refine n_op rfl rfl (kQ F M (hc:=keyNum_s M.st.nil.tb) (k:=fun s6 w q6 m M=>kB m (zkN fun _ F=>?_)))
  refine n_op rfl rfl (kS F M (hc:=look_s M.tb M.v) (k:=fun v s7 w q7 M=>kF (zkN fun _ F=>?_)))
  refine n_op rfl rfl (kW F M 1 [_,_,_] [_,_] (k:=fun w M=>kF (zkN fun _ F=>?_)))
  refine zG F (fun h8 F=>?_) fun h8 F=>?_
  ·refine zr2 fun _ F=>?_
   refine kIx F (0) (by first|omega|exact size_pos (by assumption)|exact size_pos (Ne.symm (by assumption))) (k:=zk fun _ F=>?_)
   refine zi F (fun h9=>?_) fun h9=>?_
   ·refine zr2 fun _ F=>?_
    refine kSl F (1) (by first|omega|exact size_pos (by assumption)|(simp only [sz0,sz1,sz2] at *;omega)) (k:=fun he10=>zk fun _ F=>?_)
    refine l_op (kQ F M (hc:=unhex_s M.st.nil.tb) (k:=fun s11 w q11 m M=>zk fun _ F=>?_))
    refine l_op (kW F M 1 [_,_,_] [_,_] (k:=fun w M=>zk fun _ F=>?_))
    refine x_done F (results_3 rfl (zca F M.at' 0) (zta F) (zta F)) ?_
    exact zfS M () (_,_) (⟨by first|assumption|exact zU,by unfold i64ok;omega⟩) (rfl)
   ·refine zr2 fun _ F=>?_
    refine l_op (kW F M 1 [_,_,_] [_,_] (k:=fun w M=>zk fun _ F=>?_))
    refine x_done F (results_3 rfl (zca F M.at' 0) (zta F) (zta F)) ?_
    exact zfS M () (_,_) (⟨by first|assumption|exact zU,by unfold i64ok;omega⟩) (rfl)
  ·refine zr2 fun _ F=>?_
   refine l_op (kW F M 1 [_,_,_] [_,_] (k:=fun w M=>zk fun _ F=>?_))
   refine x_done F (results_3 rfl (zca F M.at' 0) (zta F) (zta F)) ?_
   exact zfS M () (_,_) (⟨by first|assumption|exact zU,by unfold i64ok;omega⟩) (rfl)
end
end Go.Proofs.YtipdbeklopjbmaaGreatDoor
