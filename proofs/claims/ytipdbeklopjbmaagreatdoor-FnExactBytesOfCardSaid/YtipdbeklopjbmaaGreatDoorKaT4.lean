/-
  Walks: the reference's calls.
-/
import Derived.Test.YtipdbeklopjbmaaGreatDoorKaT0
import Derived.Test.YtipdbeklopjbmaaGreatDoorKaT1
import Derived.Test.YtipdbeklopjbmaaGreatDoorKaT2
import Derived.Test.YtipdbeklopjbmaaGreatDoorKaT3
set_option linter.unusedVariables false
set_option linter.unusedSimpArgs false
namespace Go.Proofs.YtipdbeklopjbmaaGreatDoor
open Go.ChangeShapes Go.WideShapes Go.ChangeAt Go.RowKit
set_option maxRecDepth 100000
set_option maxHeartbeats 1000000
section
set_option maxHeartbeats 8000000
variable {X:Uni} {w:World} {b u:Nat} {v:MV} {D:List CellD} {H:Nat→Prop}
theorem renameName_s {f:ByteArray} {t:ByteArray} (hT:TbO w []) (hm:RM X H w v D u) (hu:u+20≤68718428160:=by omega) (h_f:okS f:=by exact zI4) (h_t:okS t:=by exact zI4) :
 Calls Tryz.prog 218 #[v.val,.string f,.string t] w (PS X H w (fun v (r:Unit) (s:Int)=>.tuple #[v.val,.int .i64 s]) () (rnS D f t) (u+20) (fun (_:Unit) (s:Int)=>i64ok s)):=by
 have M:=Sp.start hT hm
 refine zE (f:=218) fun _ F=>?_
 refine l_op (kBx F M [_,_,_] (k:=fun b1 w M=>zk fun _ F=>?_))
 refine l_op (kAl F M ZI_210 [_,_,_] (k:=fun b2 w M=>zk fun _ F=>?_))
 refine l_op (kQ F M (hc:=nameOk_s M.st.nil.tb) (k:=fun s3 w q3 m M=>zk fun _ F=>?_))
 refine zGb F (fun h4 F=>?_) fun h4 F=>?_
 ·refine zr2 fun _ F=>?_
  refine l_op (kW F M 0 [_,_,_] [_,_] (k:=fun w M=>zk fun _ F=>?_))
  refine x_done F (results_2 rfl (zca F M.at' 0) (zta F)) ?_
  exact zfS M () _ zI1 (by rw [rnS,if_pos h4])
 ·have hi4:=nameOk_size (nf h4);refine zr2 fun _ F=>?_
  refine l_op (kQ F M (hc:=nameOk_s M.st.nil.tb) (k:=fun s5 w q5 m M=>zk fun _ F=>?_))
  refine zib F (fun h6=>?_) fun h6=>?_
  ·refine zr2 fun _ F=>?_
   refine l_op (kW F M 0 [_,_,_] [_,_] (k:=fun w M=>zk fun _ F=>?_))
   refine x_done F (results_2 rfl (zca F M.at' 0) (zta F)) ?_
   exact zfS M () _ zI1 (by rw [rnS,iFb h4,if_pos h6])
  ·have hi6:=nameOk_size (nf h6);refine zr2 fun _ F=>?_
   refine l_op (kS F M (hc:=fileOf_s M.tb M.v) (k:=fun v s7 w q7 M=>zk fun _ F=>?_))
   refine l_op (kW F M 1 [_,_,_] [_,_] (k:=fun w M=>zk fun _ F=>?_))
   refine zi F (fun h8=>?_) fun h8=>?_
   ·refine zr2 fun _ F=>?_
    refine l_op (kW F M 1 [_,_,_] [_,_] (k:=fun w M=>zk fun _ F=>?_))
    refine x_done F (results_2 rfl (zca F M.at' 0) (zta F)) ?_
    exact zfS M () _ zI1 (by rw [rnS,iFb h4,iFb h6,if_pos h8])
   ·refine zr2 fun _ F=>?_
    refine l_op (kS F M (hc:=fileOf_s M.tb M.v) (k:=fun v s9 w q9 M=>zk fun _ F=>?_))
    refine l_op (kW F M 0 [_,_,_] [_,_] (k:=fun w M=>zk fun _ F=>?_))
    refine zi F (fun h10=>?_) fun h10=>?_
    ·refine zr2 fun _ F=>?_
     refine l_op (kW F M 1 [_,_,_] [_,_] (k:=fun w M=>zk fun _ F=>?_))
     refine x_done F (results_2 rfl (zca F M.at' 0) (zta F)) ?_
     exact zfS M () _ zI1 (by rw [rnS,iFb h4,iFb h6,if_neg h8,if_pos h10])
    ·refine zr2 fun _ F=>?_
     refine zi F (fun h11=>?_) fun h11=>?_
     ·refine zr2 fun _ F=>?_
      refine l_op (kS F M (hc:=unlinkName_s M.tb M.v) (k:=fun v s12 w q12 M=>zk fun _ F=>?_))
      refine l_op (kW F M 0 [_,_,_] [_,_] (k:=fun w M=>zk fun _ F=>?_))
      refine l_op (kS F M (hc:=setNum_s M.tb M.v) (k:=fun v s13 w q13 M=>zk fun _ F=>?_))
      refine l_op (kW F M 0 [_,_,_] [_,_] (k:=fun w M=>zk fun _ F=>?_))
      refine l_op (kS F M (hc:=lay_s nmp M.tb M.v) (k:=fun v s14 w q14 M=>zk fun _ F=>?_))
      refine l_op (kW F M 1 [_,_,_] [_,_] (k:=fun w M=>zk fun _ F=>?_))
      refine x_done F (results_2 rfl (zca F M.at' 0) (zta F)) ?_
      exact zfS M () _ zI1 (by rw [rnS,iFb h4,iFb h6,if_neg h8,if_neg h10,if_pos h11])
     ·refine zr2 fun _ F=>?_
      refine l_op (kS F M (hc:=setNum_s M.tb M.v) (k:=fun v s15 w q15 M=>zk fun _ F=>?_))
      refine l_op (kW F M 0 [_,_,_] [_,_] (k:=fun w M=>zk fun _ F=>?_))
      refine l_op (kS F M (hc:=lay_s nmp M.tb M.v) (k:=fun v s16 w q16 M=>zk fun _ F=>?_))
      refine l_op (kW F M 1 [_,_,_] [_,_] (k:=fun w M=>zk fun _ F=>?_))
      refine x_done F (results_2 rfl (zca F M.at' 0) (zta F)) ?_
      exact zfS M () _ zI1 (by rw [rnS,iFb h4,iFb h6,if_neg h8,if_neg h10,if_neg h11])
end
end Go.Proofs.YtipdbeklopjbmaaGreatDoor
