/-
  Walks: the reference's call on a store.
-/
import Derived.Test.YtipdbeklopjbmaaGreatDoorP22
import Derived.Test.YtipdbeklopjbmaaGreatDoorP14
set_option linter.unusedVariables false
set_option linter.unusedSimpArgs false
namespace Go.Proofs.YtipdbeklopjbmaaGreatDoor
open Go.ChangeShapes Go.WideShapes Go.ChangeAt Go.RowKit Go.Proofs.Tryz
set_option maxRecDepth 100000
set_option maxHeartbeats 1000000
section
set_option maxHeartbeats 8000000
variable {X:Uni} {w:World} {b u:Nat} {v:MV} {D:List CellD} {H:Nat→Prop}
theorem J11 {c:CallD} (hT:TbO w []) (hm:RM X H w v D u) (hu:u+330≤68718428160:=by omega) (hi64:J1 X.P:=by assumption) (h_c:okK c:=by assumption) :
 Calls prog 148 #[v.S,iV X.P,.agg #[iV c.kind,.string c.name,.string c.to_,iV c.a,iV c.b,.string c.text]] w (PS X H w (fun v (r:Unit) (s:Int × Int × ByteArray)=>.tuple #[MV.S v,.agg #[iV s.1,iV s.2.1,.string s.2.2],.agg #[MV.R v,MV.W v]]) () (doS D X.P c) (u+330) (fun (_:Unit) (s:Int × Int × ByteArray)=>J1 s.1∧J1 s.2.1∧okS s.2.2)):=by
 have hk1:=h_c.1;have hk2:=h_c.2.1;have hk3:=h_c.2.2.1;have hk4:=h_c.2.2.2.1;have hk5:=h_c.2.2.2.2.1;have hk6:=h_c.2.2.2.2.2
 have M:=Sp.start hT hm
 refine zE (f:=148) fun _ F=>?_
 refine J0 (kBx F M [_,_,_,_,_,_] (k:=fun b1 w M=>zk fun _ F=>?_))
 refine J0 (kAl F M J00 [_,_,_] (k:=fun b2 w M=>zk fun _ F=>?_))
 refine J0 (kAl F M J0i [_,_] (k:=fun b3 w M=>zk fun _ F=>?_))
 refine J5L [(_,[_,_,_,_,_,_],_)] [] [] (.b3 [0,2,3] 1 (.b3 [] 4 (.b2 [5,6,7] 8 (.l [9,10,11]) 9 (.l [8,10,11])) 8 (.b2 [] 4 (.l [5,6,7,9,10,11]) 9 (.l [4,5,6,7,10,11])) 9 (.b2 [] 4 (.l [5,6,7,8,10,11]) 8 (.l [4,5,6,7,10,11]))) 8 (.b2 [] 1 (.b2 [] 4 (.l [5,6,7,9,10,11]) 9 (.l [4,5,6,7,10,11])) 9 (.l [1,4,5,6,7,10,11])) 9 (.b2 [] 1 (.b2 [] 4 (.l [5,6,7,8,10,11]) 8 (.l [4,5,6,7,10,11])) 8 (.l [1,4,5,6,7,10,11]))) M (hd1 M.at' 2) mixed zK fun w M hS=>?_
 refine en3 ?_
 refine zr2 fun _ F=>?_
 refine J4R ?_ ?_ ?_
 ·skip
  refine Jh rfl (kS F M (hc:=J3Y M.tb M.v) (k:=fun v s4 w q4 M=>oH (hd1 M.at' 2) (o3 (zkN fun _ F=>?_))))
  refine J4R ?_ ?_ ?_
  ·skip
   refine Jh rfl (kS F M (hc:=J29 M.tb M.v) (k:=fun v s5 w q5 M=>oF (o2 (zkN fun _ F=>?_))))
   refine J03 ?_ ?_
   ·skip
    refine Jh rfl (kAl F M JA [_,_,_] (k:=fun b6 w M=>oH (hd1 M.at' 3) (oL (zkN fun _ F=>?_))))
    refine J2 rfl rfl (kAl F M J00 [_,_,_] (k:=fun b7 w M=>kH (hd1 M.at' 4) (zkN fun _ F=>?_)))
    refine J2 rfl rfl (kW F M 1 [_,_,_] [_,_,_,_,_] (k:=fun w M=>kF (zkN fun _ F=>?_)))
    refine J2 rfl rfl (kW F M 1 [_,_,_] [_,_,_,_,_] (k:=fun w M=>kF (zkN fun _ F=>?_)))
    refine Jc [(_,[_,_,_],_),(_,[_,_,_],_)] [] [] [0,1,2,3,4,5,6,7] M (hd2 M.at' 1 0) mixed zK fun w M hS=>?_
    refine zr2 fun _ F=>?_
    refine J0c F rfl rfl rfl rfl rfl rfl rfl rfl fun _ F=>?_
    refine zr2 fun _ F=>?_
    refine J0c F rfl rfl rfl rfl rfl rfl rfl rfl fun _ F=>?_
    refine zr2 fun _ F=>?_
    refine J2 rfl rfl (kW F M 3 [_,_,_] [_,_,_,_,_] (k:=fun w M=>kH (hd2 M.at' 2 1) (zkN fun _ F=>?_)))
    refine J2 rfl rfl (kW F M 3 [_,_] [_,_,_,_,_] (k:=fun w M=>kF (zkN fun _ F=>?_)))
    refine Jg F (JQ rfl (zta F) (zca F M.at' 1) (zca F M.at' 0)) ?_
    exact zfS M () (_,_,_) ((by assumption)) (rfl)
   skip
   refine Jh rfl (kAl F M J00 [_,_,_] (k:=fun b8 w M=>oH (hd1 M.at' 3) (oL (zkN fun _ F=>?_))))
   refine J2 rfl rfl (kAl F M JA [_,_,_] (k:=fun b9 w M=>kH (hd1 M.at' 4) (zkN fun _ F=>?_)))
   refine J2 rfl rfl (kW F M 0 [_,_,_] [_,_,_,_,_] (k:=fun w M=>kF (zkN fun _ F=>?_)))
   refine J2 rfl rfl (kW F M 1 [_,_,_] [_,_,_,_,_] (k:=fun w M=>kF (zkN fun _ F=>?_)))
   refine Jc [(_,[_,_,_],_),(_,[_,_,_],_)] [] [] [0,1,2,3,4,5,6,7] M (hd2 M.at' 1 0) mixed zK fun w M hS=>?_
   refine zr2 fun _ F=>?_
   refine J0c F rfl rfl rfl rfl rfl rfl rfl rfl fun _ F=>?_
   refine zr2 fun _ F=>?_
   refine J0c F rfl rfl rfl rfl rfl rfl rfl rfl fun _ F=>?_
   refine zr2 fun _ F=>?_
   refine J2 rfl rfl (kW F M 3 [_,_,_] [_,_,_,_,_] (k:=fun w M=>kH (hd2 M.at' 2 1) (zkN fun _ F=>?_)))
   refine J2 rfl rfl (kW F M 3 [_,_] [_,_,_,_,_] (k:=fun w M=>kF (zkN fun _ F=>?_)))
   refine Jg F (JQ rfl (zta F) (zca F M.at' 1) (zca F M.at' 0)) ?_
   exact zfS M () (_,_,_) ((by assumption)) (rfl)
  ·skip
   refine Jh rfl (kAl F M JA [_,_,_] (k:=fun b10 w M=>oH (hd1 M.at' 3) (o2 (zkN fun _ F=>?_))))
   refine J03 ?_ ?_
   ·skip
    refine Jh rfl (kS F M (hc:=J29 M.tb M.v) (k:=fun v s11 w q11 M=>oF (oL (zkN fun _ F=>?_))))
    refine J2 rfl rfl (kAl F M J00 [_,_,_] (k:=fun b12 w M=>kH (hd1 M.at' 4) (zkN fun _ F=>?_)))
    refine J2 rfl rfl (kW F M 1 [_,_,_] [_,_,_,_,_] (k:=fun w M=>kF (zkN fun _ F=>?_)))
    refine J2 rfl rfl (kW F M 1 [_,_,_] [_,_,_,_,_] (k:=fun w M=>kF (zkN fun _ F=>?_)))
    refine Jc [(_,[_,_,_],_),(_,[_,_,_],_)] [] [] [0,1,2,3,4,5,6,7] M (hd2 M.at' 1 0) mixed zK fun w M hS=>?_
    refine zr2 fun _ F=>?_
    refine J0c F rfl rfl rfl rfl rfl rfl rfl rfl fun _ F=>?_
    refine zr2 fun _ F=>?_
    refine J0c F rfl rfl rfl rfl rfl rfl rfl rfl fun _ F=>?_
    refine zr2 fun _ F=>?_
    refine J2 rfl rfl (kW F M 3 [_,_,_] [_,_,_,_,_] (k:=fun w M=>kH (hd2 M.at' 2 1) (zkN fun _ F=>?_)))
    refine J2 rfl rfl (kW F M 3 [_,_] [_,_,_,_,_] (k:=fun w M=>kF (zkN fun _ F=>?_)))
    refine Jg F (JQ rfl (zta F) (zca F M.at' 1) (zca F M.at' 0)) ?_
    exact zfS M () (_,_,_) ((by assumption)) (rfl)
   skip
   refine Jh rfl (kAl F M J00 [_,_,_] (k:=fun b13 w M=>oH (hd1 M.at' 4) (oL (zkN fun _ F=>?_))))
   refine J2 rfl rfl (kS F M (hc:=J29 M.tb M.v) (k:=fun v s14 w q14 M=>kF (zkN fun _ F=>?_)))
   refine J2 rfl rfl (kW F M 1 [_,_,_] [_,_,_,_,_] (k:=fun w M=>kF (zkN fun _ F=>?_)))
   refine J2 rfl rfl (kW F M 1 [_,_,_] [_,_,_,_,_] (k:=fun w M=>kF (zkN fun _ F=>?_)))
   refine Jc [(_,[_,_,_],_),(_,[_,_,_],_)] [] [] [0,1,2,3,4,5,6,7] M (hd2 M.at' 1 0) mixed zK fun w M hS=>?_
   refine zr2 fun _ F=>?_
   refine J0c F rfl rfl rfl rfl rfl rfl rfl rfl fun _ F=>?_
   refine zr2 fun _ F=>?_
   refine J0c F rfl rfl rfl rfl rfl rfl rfl rfl fun _ F=>?_
   refine zr2 fun _ F=>?_
   refine J2 rfl rfl (kW F M 3 [_,_,_] [_,_,_,_,_] (k:=fun w M=>kH (hd2 M.at' 2 1) (zkN fun _ F=>?_)))
   refine J2 rfl rfl (kW F M 3 [_,_] [_,_,_,_,_] (k:=fun w M=>kF (zkN fun _ F=>?_)))
   refine Jg F (JQ rfl (zta F) (zca F M.at' 1) (zca F M.at' 0)) ?_
   exact zfS M () (_,_,_) ((by assumption)) (rfl)
  skip
  refine Jh rfl (kAl F M J00 [_,_,_] (k:=fun b15 w M=>oH (hd1 M.at' 3) (o2 (zkN fun _ F=>?_))))
  refine J03 ?_ ?_
  ·skip
   refine Jh rfl (kS F M (hc:=J29 M.tb M.v) (k:=fun v s16 w q16 M=>oF (oL (zkN fun _ F=>?_))))
   refine J2 rfl rfl (kAl F M JA [_,_,_] (k:=fun b17 w M=>kH (hd1 M.at' 4) (zkN fun _ F=>?_)))
   refine J2 rfl rfl (kW F M 0 [_,_,_] [_,_,_,_,_] (k:=fun w M=>kF (zkN fun _ F=>?_)))
   refine J2 rfl rfl (kW F M 1 [_,_,_] [_,_,_,_,_] (k:=fun w M=>kF (zkN fun _ F=>?_)))
   refine Jc [(_,[_,_,_],_),(_,[_,_,_],_)] [] [] [0,1,2,3,4,5,6,7] M (hd2 M.at' 1 0) mixed zK fun w M hS=>?_
   refine zr2 fun _ F=>?_
   refine J0c F rfl rfl rfl rfl rfl rfl rfl rfl fun _ F=>?_
   refine zr2 fun _ F=>?_
   refine J0c F rfl rfl rfl rfl rfl rfl rfl rfl fun _ F=>?_
   refine zr2 fun _ F=>?_
   refine J2 rfl rfl (kW F M 3 [_,_,_] [_,_,_,_,_] (k:=fun w M=>kH (hd2 M.at' 2 1) (zkN fun _ F=>?_)))
   refine J2 rfl rfl (kW F M 3 [_,_] [_,_,_,_,_] (k:=fun w M=>kF (zkN fun _ F=>?_)))
   refine Jg F (JQ rfl (zta F) (zca F M.at' 1) (zca F M.at' 0)) ?_
   exact zfS M () (_,_,_) ((by assumption)) (rfl)
  skip
  refine Jh rfl (kAl F M JA [_,_,_] (k:=fun b18 w M=>oH (hd1 M.at' 4) (oL (zkN fun _ F=>?_))))
  refine J2 rfl rfl (kS F M (hc:=J29 M.tb M.v) (k:=fun v s19 w q19 M=>kF (zkN fun _ F=>?_)))
  refine J2 rfl rfl (kW F M 0 [_,_,_] [_,_,_,_,_] (k:=fun w M=>kF (zkN fun _ F=>?_)))
  refine J2 rfl rfl (kW F M 1 [_,_,_] [_,_,_,_,_] (k:=fun w M=>kF (zkN fun _ F=>?_)))
  refine Jc [(_,[_,_,_],_),(_,[_,_,_],_)] [] [] [0,1,2,3,4,5,6,7] M (hd2 M.at' 1 0) mixed zK fun w M hS=>?_
  refine zr2 fun _ F=>?_
  refine J0c F rfl rfl rfl rfl rfl rfl rfl rfl fun _ F=>?_
  refine zr2 fun _ F=>?_
  refine J0c F rfl rfl rfl rfl rfl rfl rfl rfl fun _ F=>?_
  refine zr2 fun _ F=>?_
  refine J2 rfl rfl (kW F M 3 [_,_,_] [_,_,_,_,_] (k:=fun w M=>kH (hd2 M.at' 2 1) (zkN fun _ F=>?_)))
  refine J2 rfl rfl (kW F M 3 [_,_] [_,_,_,_,_] (k:=fun w M=>kF (zkN fun _ F=>?_)))
  refine Jg F (JQ rfl (zta F) (zca F M.at' 1) (zca F M.at' 0)) ?_
  exact zfS M () (_,_,_) ((by assumption)) (rfl)
 ·skip
  refine Jh rfl (kAl F M JA [_,_,_] (k:=fun b20 w M=>oH (hd1 M.at' 3) (o2 (zkN fun _ F=>?_))))
  refine J03 ?_ ?_
  ·skip
   refine Jh rfl (kS F M (hc:=J3Y M.tb M.v) (k:=fun v s21 w q21 M=>oH (hd1 M.at' 3) (o2 (zkN fun _ F=>?_))))
   refine J03 ?_ ?_
   ·skip
    refine Jh rfl (kS F M (hc:=J29 M.tb M.v) (k:=fun v s22 w q22 M=>oF (oL (zkN fun _ F=>?_))))
    refine J2 rfl rfl (kAl F M J00 [_,_,_] (k:=fun b23 w M=>kH (hd1 M.at' 4) (zkN fun _ F=>?_)))
    refine J2 rfl rfl (kW F M 1 [_,_,_] [_,_,_,_,_] (k:=fun w M=>kF (zkN fun _ F=>?_)))
    refine J2 rfl rfl (kW F M 1 [_,_,_] [_,_,_,_,_] (k:=fun w M=>kF (zkN fun _ F=>?_)))
    refine Jc [(_,[_,_,_],_),(_,[_,_,_],_)] [] [] [0,1,2,3,4,5,6,7] M (hd2 M.at' 1 0) mixed zK fun w M hS=>?_
    refine zr2 fun _ F=>?_
    refine J0c F rfl rfl rfl rfl rfl rfl rfl rfl fun _ F=>?_
    refine zr2 fun _ F=>?_
    refine J0c F rfl rfl rfl rfl rfl rfl rfl rfl fun _ F=>?_
    refine zr2 fun _ F=>?_
    refine J2 rfl rfl (kW F M 3 [_,_,_] [_,_,_,_,_] (k:=fun w M=>kH (hd2 M.at' 2 1) (zkN fun _ F=>?_)))
    refine J2 rfl rfl (kW F M 3 [_,_] [_,_,_,_,_] (k:=fun w M=>kF (zkN fun _ F=>?_)))
    refine Jg F (JQ rfl (zta F) (zca F M.at' 1) (zca F M.at' 0)) ?_
    exact zfS M () (_,_,_) ((by assumption)) (rfl)
   skip
   refine Jh rfl (kAl F M J00 [_,_,_] (k:=fun b24 w M=>oH (hd1 M.at' 4) (oL (zkN fun _ F=>?_))))
   refine J2 rfl rfl (kS F M (hc:=J29 M.tb M.v) (k:=fun v s25 w q25 M=>kF (zkN fun _ F=>?_)))
   refine J2 rfl rfl (kW F M 1 [_,_,_] [_,_,_,_,_] (k:=fun w M=>kF (zkN fun _ F=>?_)))
   refine J2 rfl rfl (kW F M 1 [_,_,_] [_,_,_,_,_] (k:=fun w M=>kF (zkN fun _ F=>?_)))
   refine Jc [(_,[_,_,_],_),(_,[_,_,_],_)] [] [] [0,1,2,3,4,5,6,7] M (hd2 M.at' 1 0) mixed zK fun w M hS=>?_
   refine zr2 fun _ F=>?_
   refine J0c F rfl rfl rfl rfl rfl rfl rfl rfl fun _ F=>?_
   refine zr2 fun _ F=>?_
   refine J0c F rfl rfl rfl rfl rfl rfl rfl rfl fun _ F=>?_
   refine zr2 fun _ F=>?_
   refine J2 rfl rfl (kW F M 3 [_,_,_] [_,_,_,_,_] (k:=fun w M=>kH (hd2 M.at' 2 1) (zkN fun _ F=>?_)))
   refine J2 rfl rfl (kW F M 3 [_,_] [_,_,_,_,_] (k:=fun w M=>kF (zkN fun _ F=>?_)))
   refine Jg F (JQ rfl (zta F) (zca F M.at' 1) (zca F M.at' 0)) ?_
   exact zfS M () (_,_,_) ((by assumption)) (rfl)
  skip
  refine Jh rfl (kAl F M J00 [_,_,_] (k:=fun b26 w M=>oH (hd1 M.at' 4) (oL (zkN fun _ F=>?_))))
  refine J2 rfl rfl (kS F M (hc:=J3Y M.tb M.v) (k:=fun v s27 w q27 M=>kH (hd1 M.at' 4) (zkN fun _ F=>?_)))
  refine J2 rfl rfl (kS F M (hc:=J29 M.tb M.v) (k:=fun v s28 w q28 M=>kF (zkN fun _ F=>?_)))
  refine J2 rfl rfl (kW F M 1 [_,_,_] [_,_,_,_,_] (k:=fun w M=>kF (zkN fun _ F=>?_)))
  refine J2 rfl rfl (kW F M 1 [_,_,_] [_,_,_,_,_] (k:=fun w M=>kF (zkN fun _ F=>?_)))
  refine Jc [(_,[_,_,_],_),(_,[_,_,_],_)] [] [] [0,1,2,3,4,5,6,7] M (hd2 M.at' 1 0) mixed zK fun w M hS=>?_
  refine zr2 fun _ F=>?_
  refine J0c F rfl rfl rfl rfl rfl rfl rfl rfl fun _ F=>?_
  refine zr2 fun _ F=>?_
  refine J0c F rfl rfl rfl rfl rfl rfl rfl rfl fun _ F=>?_
  refine zr2 fun _ F=>?_
  refine J2 rfl rfl (kW F M 3 [_,_,_] [_,_,_,_,_] (k:=fun w M=>kH (hd2 M.at' 2 1) (zkN fun _ F=>?_)))
  refine J2 rfl rfl (kW F M 3 [_,_] [_,_,_,_,_] (k:=fun w M=>kF (zkN fun _ F=>?_)))
  refine Jg F (JQ rfl (zta F) (zca F M.at' 1) (zca F M.at' 0)) ?_
  exact zfS M () (_,_,_) ((by assumption)) (rfl)
 skip
 refine Jh rfl (kAl F M J00 [_,_,_] (k:=fun b29 w M=>oH (hd1 M.at' 3) (o2 (zkN fun _ F=>?_))))
 refine J03 ?_ ?_
 ·skip
  refine Jh rfl (kS F M (hc:=J3Y M.tb M.v) (k:=fun v s30 w q30 M=>oH (hd1 M.at' 3) (o2 (zkN fun _ F=>?_))))
  refine J03 ?_ ?_
  ·skip
   refine Jh rfl (kS F M (hc:=J29 M.tb M.v) (k:=fun v s31 w q31 M=>oF (oL (zkN fun _ F=>?_))))
   refine J2 rfl rfl (kAl F M JA [_,_,_] (k:=fun b32 w M=>kH (hd1 M.at' 4) (zkN fun _ F=>?_)))
   refine J2 rfl rfl (kW F M 0 [_,_,_] [_,_,_,_,_] (k:=fun w M=>kF (zkN fun _ F=>?_)))
   refine J2 rfl rfl (kW F M 1 [_,_,_] [_,_,_,_,_] (k:=fun w M=>kF (zkN fun _ F=>?_)))
   refine Jc [(_,[_,_,_],_),(_,[_,_,_],_)] [] [] [0,1,2,3,4,5,6,7] M (hd2 M.at' 1 0) mixed zK fun w M hS=>?_
   refine zr2 fun _ F=>?_
   refine J0c F rfl rfl rfl rfl rfl rfl rfl rfl fun _ F=>?_
   refine zr2 fun _ F=>?_
   refine J0c F rfl rfl rfl rfl rfl rfl rfl rfl fun _ F=>?_
   refine zr2 fun _ F=>?_
   refine J2 rfl rfl (kW F M 3 [_,_,_] [_,_,_,_,_] (k:=fun w M=>kH (hd2 M.at' 2 1) (zkN fun _ F=>?_)))
   refine J2 rfl rfl (kW F M 3 [_,_] [_,_,_,_,_] (k:=fun w M=>kF (zkN fun _ F=>?_)))
   refine Jg F (JQ rfl (zta F) (zca F M.at' 1) (zca F M.at' 0)) ?_
   exact zfS M () (_,_,_) ((by assumption)) (rfl)
  skip
  refine Jh rfl (kAl F M JA [_,_,_] (k:=fun b33 w M=>oH (hd1 M.at' 4) (oL (zkN fun _ F=>?_))))
  refine J2 rfl rfl (kS F M (hc:=J29 M.tb M.v) (k:=fun v s34 w q34 M=>kF (zkN fun _ F=>?_)))
  refine J2 rfl rfl (kW F M 0 [_,_,_] [_,_,_,_,_] (k:=fun w M=>kF (zkN fun _ F=>?_)))
  refine J2 rfl rfl (kW F M 1 [_,_,_] [_,_,_,_,_] (k:=fun w M=>kF (zkN fun _ F=>?_)))
  refine Jc [(_,[_,_,_],_),(_,[_,_,_],_)] [] [] [0,1,2,3,4,5,6,7] M (hd2 M.at' 1 0) mixed zK fun w M hS=>?_
  refine zr2 fun _ F=>?_
  refine J0c F rfl rfl rfl rfl rfl rfl rfl rfl fun _ F=>?_
  refine zr2 fun _ F=>?_
  refine J0c F rfl rfl rfl rfl rfl rfl rfl rfl fun _ F=>?_
  refine zr2 fun _ F=>?_
  refine J2 rfl rfl (kW F M 3 [_,_,_] [_,_,_,_,_] (k:=fun w M=>kH (hd2 M.at' 2 1) (zkN fun _ F=>?_)))
  refine J2 rfl rfl (kW F M 3 [_,_] [_,_,_,_,_] (k:=fun w M=>kF (zkN fun _ F=>?_)))
  refine Jg F (JQ rfl (zta F) (zca F M.at' 1) (zca F M.at' 0)) ?_
  exact zfS M () (_,_,_) ((by assumption)) (rfl)
 skip
 refine Jh rfl (kAl F M JA [_,_,_] (k:=fun b35 w M=>oH (hd1 M.at' 4) (oL (zkN fun _ F=>?_))))
 refine J2 rfl rfl (kS F M (hc:=J3Y M.tb M.v) (k:=fun v s36 w q36 M=>kH (hd1 M.at' 4) (zkN fun _ F=>?_)))
 refine J2 rfl rfl (kS F M (hc:=J29 M.tb M.v) (k:=fun v s37 w q37 M=>kF (zkN fun _ F=>?_)))
 refine J2 rfl rfl (kW F M 0 [_,_,_] [_,_,_,_,_] (k:=fun w M=>kF (zkN fun _ F=>?_)))
 refine J2 rfl rfl (kW F M 1 [_,_,_] [_,_,_,_,_] (k:=fun w M=>kF (zkN fun _ F=>?_)))
 refine Jc [(_,[_,_,_],_),(_,[_,_,_],_)] [] [] [0,1,2,3,4,5,6,7] M (hd2 M.at' 1 0) mixed zK fun w M hS=>?_
 refine zr2 fun _ F=>?_
 refine J0c F rfl rfl rfl rfl rfl rfl rfl rfl fun _ F=>?_
 refine zr2 fun _ F=>?_
 refine J0c F rfl rfl rfl rfl rfl rfl rfl rfl fun _ F=>?_
 refine zr2 fun _ F=>?_
 refine J2 rfl rfl (kW F M 3 [_,_,_] [_,_,_,_,_] (k:=fun w M=>kH (hd2 M.at' 2 1) (zkN fun _ F=>?_)))
 refine J2 rfl rfl (kW F M 3 [_,_] [_,_,_,_,_] (k:=fun w M=>kF (zkN fun _ F=>?_)))
 refine Jg F (JQ rfl (zta F) (zca F M.at' 1) (zca F M.at' 0)) ?_
 exact zfS M () (_,_,_) ((by assumption)) (rfl)
end
end Go.Proofs.YtipdbeklopjbmaaGreatDoor
