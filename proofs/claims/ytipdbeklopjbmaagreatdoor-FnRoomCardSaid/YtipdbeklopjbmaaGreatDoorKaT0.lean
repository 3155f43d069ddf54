/-
  Walks: the reference's calls.
-/
import Derived.Test.YtipdbeklopjbmaaGreatDoorP19
set_option linter.unusedVariables false
set_option linter.unusedSimpArgs false
namespace Go.Proofs.YtipdbeklopjbmaaGreatDoor
open Go.ChangeShapes Go.WideShapes Go.ChangeAt Go.RowKit Go.Proofs.Tryz
set_option maxRecDepth 100000
set_option maxHeartbeats 1000000
section
set_option maxHeartbeats 8000000
variable {X:Uni} {w:World} {b u:Nat} {v:MV} {D:List CellD} {H:Nat→Prop}
theorem Jel {x:ByteArray} (hT:TbO w []) (hm:RM X H w v D u) (hu:u+8≤68718428160:=by omega) (h_x:okS x:=by exact yi) :
 Calls prog 215 #[v.val,.string x] w (PS X H w (fun v (r:Unit) (s:Int × Int)=>.tuple #[v.val,iV s.1,iV s.2]) () (mkS D x) (u+8) (fun (_:Unit) (s:Int × Int)=>J1 s.1∧J1 s.2)):=by
 have M:=Sp.start hT hm
 refine zE (f:=215) fun _ F=>?_
 refine J0 (kBx F M [_,_,_] (k:=fun b1 w M=>zk fun _ F=>?_))
 refine J0 (kAl F M JA [_,_,_] (k:=fun b2 w M=>zk fun _ F=>?_))
 refine J0 (kQ F M (hc:=J40 M.st.nil.tb) (k:=fun s3 w q3 m M=>zk fun _ F=>?_))
 refine zib F (fun h4=>?_) fun h4=>?_
 ·refine zr2 fun _ F=>?_
  refine J0 (kW F M 0 [_,_,_] [_,_] (k:=fun w M=>zk fun _ F=>?_))
  refine Jg F (JQ rfl (zca F M.at' 0) (zta F) (zta F)) ?_
  exact zfS M () (_,_) (⟨ya,ya⟩) (by rw [mkS,if_pos h4])
 have hi4:=J1m (nf h4);refine zr2 fun _ F=>?_
 refine J0 (kS F M (hc:=J3W M.tb M.v) (k:=fun v s5 w q5 M=>zk fun _ F=>?_))
 refine J0 (kW F M 1 [_,_,_] [_,_] (k:=fun w M=>zk fun _ F=>?_))
 refine zi F (fun h6=>?_) fun h6=>?_
 ·refine zr2 fun _ F=>?_
  refine J0 (kW F M 1 [_,_,_] [_,_] (k:=fun w M=>zk fun _ F=>?_))
  refine Jg F (JQ rfl (zca F M.at' 0) (zta F) (zta F)) ?_
  exact zfS M () (_,_) (⟨ya,ya⟩) (by rw [mkS,iFb h4,if_pos h6])
 refine zr2 fun _ F=>?_
 refine J0 (kS F M (hc:=J0P M.tb M.v) (k:=fun v s7 w q7 M=>zk fun _ F=>?_))
 refine J0 (kW F M 0 [_,_,_] [_,_] (k:=fun w M=>zk fun _ F=>?_))
 refine zi F (fun h8=>?_) fun h8=>?_
 ·refine zr2 fun _ F=>?_
  refine J0 (kW F M 1 [_,_,_] [_,_] (k:=fun w M=>zk fun _ F=>?_))
  refine Jg F (JQ rfl (zca F M.at' 0) (zta F) (zta F)) ?_
  exact zfS M () (_,_) (⟨ya,ya⟩) (by rw [mkS,iFb h4,if_neg h6,if_pos h8])
 refine zr2 fun _ F=>?_
 refine J0 (kS F M (hc:=J7g M.tb M.v) (k:=fun v s9 w q9 M=>zk fun _ F=>?_))
 refine J0 (kW F M 0 [_,_,_] [_,_] (k:=fun w M=>zk fun _ F=>?_))
 refine J0 (kS F M (hc:=J0N M.tb M.v) (k:=fun v s10 w q10 M=>zk fun _ F=>?_))
 refine J0 (kW F M 0 [_,_,_] [_,_] (k:=fun w M=>zk fun _ F=>?_))
 refine Jc [(_,[_,_,_],_)] [] [] [0,1,4,2,3,5,6,7] M (hd1 M.at' 0) mixed zK fun w M hS=>?_
 refine zr2 fun _ F=>?_
 refine J2 rfl rfl (kQ F M (hc:=J12 M.st.nil.tb) (k:=fun s11 w q11 m M=>kB m (zkN fun _ F=>?_)))
 refine J2 rfl rfl (kS F M (hc:=J0N M.tb M.v) (k:=fun v s12 w q12 M=>kF (zkN fun _ F=>?_)))
 refine J2 rfl rfl (kW F M 1 [_,_,_] [_,_] (k:=fun w M=>kF (zkN fun _ F=>?_)))
 refine Jg F (JQ rfl (zca F M.at' 0) (zta F) (zta F)) ?_
 exact zfS M () (_,_) (⟨ya,ya⟩) (by rw [mkS,iFb h4,if_neg h6,if_neg h8])
theorem Jf6 {id:Int} {x:ByteArray} (hT:TbO w []) (hm:RM X H w v D u) (hu:u+8≤68718428160:=by omega) (h_id:J1 id:=by exact ym) (h_x:okS x:=by exact yi) :
 Calls prog 222 #[v.val,iV id,.string x] w (PS X H w (fun v (r:Unit) (s:Int)=>.tuple #[v.val,iV s]) () (ppS D id x) (u+8) (fun (_:Unit) (s:Int)=>J1 s)):=by
 have M:=Sp.start hT hm
 refine zE (f:=222) fun _ F=>?_
 refine J0 (kBx F M [_,_,_] (k:=fun b1 w M=>zk fun _ F=>?_))
 refine J0 (kAl F M JA [_,_,_] (k:=fun b2 w M=>zk fun _ F=>?_))
 refine J0 (kS F M (hc:=J9O M.tb M.v) (k:=fun v s3 w q3 M=>zk fun _ F=>?_))
 refine J0 (kW F M 1 [_,_,_] [_,_] (k:=fun w M=>zk fun _ F=>?_))
 refine zib F (fun h4=>?_) fun h4=>?_
 ·refine zr2 fun _ F=>?_
  refine J0 (kW F M 1 [_,_,_] [_,_] (k:=fun w M=>zk fun _ F=>?_))
  refine zde F M.at' 0 ?_
  exact zfS M () _ ya (by rw [ppS,if_pos h4])
 refine zr2 fun _ F=>?_
 refine zi F (fun h5=>?_) fun h5=>?_
 ·refine zr2 fun _ F=>?_
  refine J0 (kW F M 1 [_,_,_] [_,_] (k:=fun w M=>zk fun _ F=>?_))
  refine zde F M.at' 0 ?_
  exact zfS M () _ ya (by rw [ppS,iFb h4,if_pos h5])
 refine zr2 fun _ F=>?_
 refine Jc [(_,[_,_,_],_)] [] [] [0,1,2,3,4,5,6,7,8] M (hd1 M.at' 0) mixed zK fun w M hS=>?_
 refine zr2 fun _ F=>?_
 refine J2 rfl rfl (kQ F M (hc:=J24 M.st.nil.tb) (k:=fun s6 w q6 m M=>kB m (zkN fun _ F=>?_)))
 refine J2 rfl rfl (kS F M (hc:=J0P M.tb M.v) (k:=fun v s7 w q7 M=>kF (zkN fun _ F=>?_)))
 refine J2 rfl rfl (kW F M 0 [_,_,_] [_,_] (k:=fun w M=>kF (zkN fun _ F=>?_)))
 refine Jc [(_,[_,_,_],_)] [] [] [0,1,2,3,4,5,6,7,8] M (hd1 M.at' 0) mixed zK fun w M hS=>?_
 refine zr2 fun _ F=>?_
 refine J2 rfl rfl (kQ F M (hc:=J24 M.st.nil.tb) (k:=fun s8 w q8 m M=>kB m (zkN fun _ F=>?_)))
 refine J2 rfl rfl (kS F M (hc:=J0P M.tb M.v) (k:=fun v s9 w q9 M=>kF (zkN fun _ F=>?_)))
 refine J2 rfl rfl (kW F M 0 [_,_,_] [_,_] (k:=fun w M=>kF (zkN fun _ F=>?_)))
 refine zi F (fun h10=>?_) fun h10=>?_
 ·refine zr2 fun _ F=>?_
  refine J0 (kW F M 1 [_,_,_] [_,_] (k:=fun w M=>zk fun _ F=>?_))
  refine zde F M.at' 0 ?_
  exact zfS M () _ ya (by rw [ppS,iFb h4,if_neg h5,if_pos h10])
 refine zr2 fun _ F=>?_
 refine zi F (fun h11=>?_) fun h11=>?_
 ·refine zr2 fun _ F=>?_
  refine J0 (kW F M 1 [_,_,_] [_,_] (k:=fun w M=>zk fun _ F=>?_))
  refine zde F M.at' 0 ?_
  exact zfS M () _ ya (by rw [ppS,iFb h4,if_neg h5,if_neg h10,if_pos h11])
 refine zr2 fun _ F=>?_
 refine J0 (kQ F M (hc:=J7F M.st.nil.tb) (k:=fun s12 w q12 m M=>zk fun _ F=>?_))
 refine Jc [(_,[_,_,_],_)] [] [] [0,1,3,4,2,5,6] M (hd1 M.at' 0) mixed zK fun w M hS=>?_
 refine zr2 fun _ F=>?_
 refine J2 rfl rfl (kQ F M (hc:=J24 M.st.nil.tb) (k:=fun s13 w q13 m M=>kB m (zkN fun _ F=>?_)))
 refine J2 rfl rfl (kS F M (hc:=J0N M.tb M.v) (k:=fun v s14 w q14 M=>kF (zkN fun _ F=>?_)))
 refine J2 rfl rfl (kW F M 0 [_,_,_] [_,_] (k:=fun w M=>kF (zkN fun _ F=>?_)))
 refine Jc [(_,[_,_,_],_)] [] [] [0,1,2,3,5,6,4,7,8,9] M (hd1 M.at' 0) mixed zK fun w M hS=>?_
 refine zr2 fun _ F=>?_
 refine J2 rfl rfl (kQ F M (hc:=J4o M.st.nil.tb) (k:=fun s15 w q15 m M=>kB m (zkN fun _ F=>?_)))
 refine J2 rfl rfl (kS F M (hc:=J1I nmp M.tb M.v) (k:=fun v s16 w q16 M=>kF (zkN fun _ F=>?_)))
 refine J2 rfl rfl (kW F M 1 [_,_,_] [_,_] (k:=fun w M=>kF (zkN fun _ F=>?_)))
 refine zde F M.at' 0 ?_
 exact zfS M () _ ya (by rw [ppS,iFb h4,if_neg h5,if_neg h10,if_neg h11])
theorem JhU {id:Int} {n:Int} (hT:TbO w []) (hm:RM X H w v D u) (hu:u+8≤68718428160:=by omega) (h_id:J1 id:=by exact ym) (h_n:J1 n:=by exact ym) :
 Calls prog 224 #[v.val,iV id,iV n] w (PS X H w (fun v (r:Unit) (s:Int)=>.tuple #[v.val,iV s]) () (sgS D id n) (u+8) (fun (_:Unit) (s:Int)=>J1 s)):=by
 have M:=Sp.start hT hm
 refine zE (f:=224) fun _ F=>?_
 refine J0 (kBx F M [_,_,_] (k:=fun b1 w M=>zk fun _ F=>?_))
 refine J0 (kAl F M JA [_,_,_] (k:=fun b2 w M=>zk fun _ F=>?_))
 refine J0 (kS F M (hc:=J78 M.tb M.v) (k:=fun v s3 w q3 M=>zk fun _ F=>?_))
 refine J0 (kW F M 1 [_,_,_] [_,_] (k:=fun w M=>zk fun _ F=>?_))
 refine zi F (fun h4=>?_) fun h4=>?_
 ·refine zr2 fun _ F=>?_
  refine J0 (kW F M 1 [_,_,_] [_,_] (k:=fun w M=>zk fun _ F=>?_))
  refine zde F M.at' 0 ?_
  exact zfS M () _ ya (by rw [sgS,if_pos h4])
 refine zr2 fun _ F=>?_
 refine J0 (kQ F M (hc:=J33 M.st.nil.tb) (k:=fun s5 w q5 m M=>zk fun _ F=>?_))
 refine zib F (fun h6=>?_) fun h6=>?_
 ·refine zr2 fun _ F=>?_
  refine J0 (kW F M 1 [_,_,_] [_,_] (k:=fun w M=>zk fun _ F=>?_))
  refine zde F M.at' 0 ?_
  exact zfS M () _ ya (by rw [sgS,if_neg h4,if_pos h6])
 have hi6:=J0K (nf h6);refine zr2 fun _ F=>?_
 refine Jc [(_,[_,_,_],_)] [] [] [0,1,2,3,4,5,6,7,8] M (hd1 M.at' 0) mixed zK fun w M hS=>?_
 refine zr2 fun _ F=>?_
 refine J2 rfl rfl (kQ F M (hc:=J2n M.st.nil.tb) (k:=fun s7 w q7 m M=>kB m (zkN fun _ F=>?_)))
 refine J2 rfl rfl (kS F M (hc:=J0P M.tb M.v) (k:=fun v s8 w q8 M=>kF (zkN fun _ F=>?_)))
 refine J2 rfl rfl (kW F M 0 [_,_,_] [_,_] (k:=fun w M=>kF (zkN fun _ F=>?_)))
 refine Jc [(_,[_,_,_],_)] [] [] [0,1,2,3,4,5,6,7,8] M (hd1 M.at' 0) mixed zK fun w M hS=>?_
 refine zr2 fun _ F=>?_
 refine J2 rfl rfl (kQ F M (hc:=J2n M.st.nil.tb) (k:=fun s9 w q9 m M=>kB m (zkN fun _ F=>?_)))
 refine J2 rfl rfl (kS F M (hc:=J0P M.tb M.v) (k:=fun v s10 w q10 M=>kF (zkN fun _ F=>?_)))
 refine J2 rfl rfl (kW F M 0 [_,_,_] [_,_] (k:=fun w M=>kF (zkN fun _ F=>?_)))
 refine zi F (fun h11=>?_) fun h11=>?_
 ·refine zr2 fun _ F=>?_
  refine J0 (kW F M 1 [_,_,_] [_,_] (k:=fun w M=>zk fun _ F=>?_))
  refine zde F M.at' 0 ?_
  exact zfS M () _ ya (by rw [sgS,if_neg h4,iFb h6,if_pos h11])
 refine zr2 fun _ F=>?_
 refine zi F (fun h12=>?_) fun h12=>?_
 ·refine zr2 fun _ F=>?_
  refine J0 (kW F M 1 [_,_,_] [_,_] (k:=fun w M=>zk fun _ F=>?_))
  refine zde F M.at' 0 ?_
  exact zfS M () _ ya (by rw [sgS,if_neg h4,iFb h6,if_neg h11,if_pos h12])
 refine zr2 fun _ F=>?_
 refine Jc [(_,[_,_,_],_)] [] [] [0,1,3,4,2,5,6] M (hd1 M.at' 0) mixed zK fun w M hS=>?_
 refine zr2 fun _ F=>?_
 refine J2 rfl rfl (kQ F M (hc:=J2n M.st.nil.tb) (k:=fun s13 w q13 m M=>kB m (zkN fun _ F=>?_)))
 refine J2 rfl rfl (kS F M (hc:=J0N M.tb M.v) (k:=fun v s14 w q14 M=>kF (zkN fun _ F=>?_)))
 refine J2 rfl rfl (kW F M 0 [_,_,_] [_,_] (k:=fun w M=>kF (zkN fun _ F=>?_)))
 refine Jc [(_,[_,_,_],_)] [] [] [0,1,2,3,5,4,6,7,8] M (hd1 M.at' 0) mixed zK fun w M hS=>?_
 refine zr2 fun _ F=>?_
 refine J2 rfl rfl (kQ F M (hc:=J56 M.st.nil.tb) (k:=fun s15 w q15 m M=>kB m (zkN fun _ F=>?_)))
 refine J2 rfl rfl (kS F M (hc:=J0N M.tb M.v) (k:=fun v s16 w q16 M=>kF (zkN fun _ F=>?_)))
 refine J2 rfl rfl (kW F M 1 [_,_,_] [_,_] (k:=fun w M=>kF (zkN fun _ F=>?_)))
 refine zde F M.at' 0 ?_
 exact zfS M () _ ya (by rw [sgS,if_neg h4,iFb h6,if_neg h11,if_neg h12])
theorem JfN {x:ByteArray} (hT:TbO w []) (hm:RM X H w v D u) (hu:u+8≤68718428160:=by omega) (h_x:okS x:=by exact yi) :
 Calls prog 230 #[v.val,.string x] w (PS X H w (fun v (r:Unit) (s:Int)=>.tuple #[v.val,iV s]) () (poS D x) (u+8) (fun (_:Unit) (s:Int)=>J1 s)):=by
 have hzx:=h_x
 unfold okS at hzx
 have M:=Sp.start hT hm
 refine zE (f:=230) fun _ F=>?_
 refine J0 (kBx F M [_,_,_] (k:=fun b1 w M=>zk fun _ F=>?_))
 refine J0 (kAl F M JA [_,_,_] (k:=fun b2 w M=>zk fun _ F=>?_))
 refine zG F (fun h3 F=>?_) fun h3 F=>?_
 ·refine zr2 fun _ F=>?_
  refine J0 (kW F M 0 [_,_,_] [_,_] (k:=fun w M=>zk fun _ F=>?_))
  refine zde F M.at' 0 ?_
  exact zfS M () _ ya (by rw [poS,if_pos (po_1 h3)])
 refine zr2 fun _ F=>?_
 refine zi F (fun h4=>?_) fun h4=>?_
 ·refine zr2 fun _ F=>?_
  refine J0 (kW F M 0 [_,_,_] [_,_] (k:=fun w M=>zk fun _ F=>?_))
  refine zde F M.at' 0 ?_
  exact zfS M () _ ya (by rw [poS,if_pos (po_2 h4)])
 refine zr2 fun _ F=>?_
 refine J0 (kS F M (hc:=J0P M.tb M.v) (k:=fun v s5 w q5 M=>zk fun _ F=>?_))
 refine J0 (kW F M 1 [_,_,_] [_,_] (k:=fun w M=>zk fun _ F=>?_))
 refine zi F (fun h6=>?_) fun h6=>?_
 ·refine zr2 fun _ F=>?_
  refine J0 (kW F M 1 [_,_,_] [_,_] (k:=fun w M=>zk fun _ F=>?_))
  refine zde F M.at' 0 ?_
  exact zfS M () _ ya (by rw [poS,iFb (JbU h3 h4),if_pos h6])
 refine zr2 fun _ F=>?_
 refine J0 (kQ F M (hc:=J7F M.st.nil.tb) (k:=fun s7 w q7 m M=>zk fun _ F=>?_))
 refine J0 (kS F M (hc:=J0N M.tb M.v) (k:=fun v s8 w q8 M=>zk fun _ F=>?_))
 refine J0 (kW F M 0 [_,_,_] [_,_] (k:=fun w M=>zk fun _ F=>?_))
 refine Jc [(_,[_,_,_],_)] [] [] [0,1,2,4,5,3,6,7,8] M (hd1 M.at' 0) mixed zK fun w M hS=>?_
 refine zr2 fun _ F=>?_
 refine J2 rfl rfl (kQ F M (hc:=J12 M.st.nil.tb) (k:=fun s9 w q9 m M=>kB m (zkN fun _ F=>?_)))
 refine J2 rfl rfl (kS F M (hc:=J1I nmp M.tb M.v) (k:=fun v s10 w q10 M=>kF (zkN fun _ F=>?_)))
 refine J2 rfl rfl (kW F M 1 [_,_,_] [_,_] (k:=fun w M=>kF (zkN fun _ F=>?_)))
 refine zde F M.at' 0 ?_
 exact zfS M () _ ya (by rw [poS,iFb (JbU h3 h4),if_neg h6])
theorem Jez {id:Int} (hT:TbO w []) (hm:RM X H w v D u) (hu:u+8≤68718428160:=by omega) (h_id:J1 id:=by exact ym) :
 Calls prog 223 #[v.val,iV id] w (PS X H w (fun v (r:Unit) (s:ByteArray × Int)=>.tuple #[v.val,.string s.1,iV s.2]) () (tpS D id) (u+8) (fun (_:Unit) (s:ByteArray × Int)=>okS s.1∧J1 s.2)):=by
 have M:=Sp.start hT hm
 refine zE (f:=223) fun _ F=>?_
 refine J0 (kBx F M [_,_,_] (k:=fun b1 w M=>zk fun _ F=>?_))
 refine J0 (kAl F M JA [_,_,_] (k:=fun b2 w M=>zk fun _ F=>?_))
 refine J0 (kS F M (hc:=J9O M.tb M.v) (k:=fun v s3 w q3 M=>zk fun _ F=>?_))
 refine J0 (kW F M 1 [_,_,_] [_,_] (k:=fun w M=>zk fun _ F=>?_))
 refine zib F (fun h4=>?_) fun h4=>?_
 ·refine zr2 fun _ F=>?_
  refine J0 (kW F M 1 [_,_,_] [_,_] (k:=fun w M=>zk fun _ F=>?_))
  refine Jg F (JQ rfl (zca F M.at' 0) (zta F) (zta F)) ?_
  exact zfS M () (_,_) (⟨yBo,by unfold J1;omega⟩) (by rw [tpS,if_pos h4])
 refine zr2 fun _ F=>?_
 refine Jc [(_,[_,_,_],_)] [] [] [0,1,2,3,4,5,6,7,8] M (hd1 M.at' 0) mixed zK fun w M hS=>?_
 refine zr2 fun _ F=>?_
 refine J2 rfl rfl (kQ F M (hc:=J24 M.st.nil.tb) (k:=fun s5 w q5 m M=>kB m (zkN fun _ F=>?_)))
 refine J2 rfl rfl (kS F M (hc:=J0P M.tb M.v) (k:=fun v s6 w q6 M=>kF (zkN fun _ F=>?_)))
 refine J2 rfl rfl (kW F M 0 [_,_,_] [_,_] (k:=fun w M=>kF (zkN fun _ F=>?_)))
 refine Jc [(_,[_,_,_],_)] [] [] [0,1,2,3,4,5,6,7,8] M (hd1 M.at' 0) mixed zK fun w M hS=>?_
 refine zr2 fun _ F=>?_
 refine J2 rfl rfl (kQ F M (hc:=J24 M.st.nil.tb) (k:=fun s7 w q7 m M=>kB m (zkN fun _ F=>?_)))
 refine J2 rfl rfl (kS F M (hc:=J0P M.tb M.v) (k:=fun v s8 w q8 M=>kF (zkN fun _ F=>?_)))
 refine J2 rfl rfl (kW F M 0 [_,_,_] [_,_] (k:=fun w M=>kF (zkN fun _ F=>?_)))
 refine zi F (fun h9=>?_) fun h9=>?_
 ·refine zr2 fun _ F=>?_
  refine J0 (kW F M 1 [_,_,_] [_,_] (k:=fun w M=>zk fun _ F=>?_))
  refine Jg F (JQ rfl (zca F M.at' 0) (zta F) (zta F)) ?_
  exact zfS M () (_,_) (⟨yBo,by unfold J1;omega⟩) (by rw [tpS,iFb h4,if_pos h9.symm])
 refine zr2 fun _ F=>?_
 refine Jc [(_,[_,_,_],_)] [] [] [0,1,2,3,4,5,6,7,8,9,10] M (hd1 M.at' 0) mixed zK fun w M hS=>?_
 refine zr2 fun _ F=>?_
 refine J2 rfl rfl (kQ F M (hc:=J4o M.st.nil.tb) (k:=fun s10 w q10 m M=>kB m (zkN fun _ F=>?_)))
 refine J2 rfl rfl (kS F M (hc:=J4G M.tb M.v) (k:=fun v s11 w q11 M=>kF (zkN fun _ F=>?_)))
 refine J2 rfl rfl (kW F M 0 [_,_,_] [_,_] (k:=fun w M=>kF (zkN fun _ F=>?_)))
 refine zG F (fun h12 F=>?_) fun h12 F=>?_
 ·refine zr2 fun _ F=>?_
  refine kIx F (0) (by first|omega|exact J42 (by assumption)|exact J42 (Ne.symm (by assumption))) (k:=zk fun _ F=>?_)
  refine zi F (fun h13=>?_) fun h13=>?_
  ·refine zr2 fun _ F=>?_
   refine kSl F (1) yBj (k:=fun he14=>zk fun _ F=>?_)
   refine J0 (kQ F M (hc:=J7a M.st.nil.tb) (k:=fun s15 w q15 m M=>zk fun _ F=>?_))
   refine Jc [(_,[_,_,_],_)] [] [] [0,1,2,3,4,5,6] M (hd1 M.at' 0) mixed zK fun w M hS=>?_
   refine zr2 fun _ F=>?_
   refine J2 rfl rfl (kQ F M (hc:=J4o M.st.nil.tb) (k:=fun s16 w q16 m M=>kB m (zkN fun _ F=>?_)))
   refine J2 rfl rfl (kS F M (hc:=J1I nmp M.tb M.v) (k:=fun v s17 w q17 M=>kF (zkN fun _ F=>?_)))
   refine J2 rfl rfl (kW F M 0 [_,_,_] [_,_] (k:=fun w M=>kF (zkN fun _ F=>?_)))
   refine Jc [(_,[_,_,_],_)] [] [] [0,1,3,4,6,2,5,7,8,9] M (hd1 M.at' 0) mixed zK fun w M hS=>?_
   refine zr2 fun _ F=>?_
   refine J2 rfl rfl (kQ F M (hc:=J24 M.st.nil.tb) (k:=fun s18 w q18 m M=>kB m (zkN fun _ F=>?_)))
   refine J2 rfl rfl (kS F M (hc:=J0N M.tb M.v) (k:=fun v s19 w q19 M=>kF (zkN fun _ F=>?_)))
   refine J2 rfl rfl (kW F M 1 [_,_,_] [_,_] (k:=fun w M=>kF (zkN fun _ F=>?_)))
   refine Jg F (JQ rfl (zca F M.at' 0) (zta F) (zta F)) ?_
   exact zfS M () (_,_) (⟨yBo,by unfold J1;omega⟩) (by rw [tpS,iFb h4,if_neg fun e=>h9 e.symm])
  refine zr2 fun _ F=>?_
  refine Jc [(_,[_,_,_],_)] [] [] [0,1,2,3,4,5,6] M (hd1 M.at' 0) mixed zK fun w M hS=>?_
  refine zr2 fun _ F=>?_
  refine J2 rfl rfl (kQ F M (hc:=J4o M.st.nil.tb) (k:=fun s20 w q20 m M=>kB m (zkN fun _ F=>?_)))
  refine J2 rfl rfl (kS F M (hc:=J1I nmp M.tb M.v) (k:=fun v s21 w q21 M=>kF (zkN fun _ F=>?_)))
  refine J2 rfl rfl (kW F M 0 [_,_,_] [_,_] (k:=fun w M=>kF (zkN fun _ F=>?_)))
  refine Jc [(_,[_,_,_],_)] [] [] [0,1,3,4,6,2,5,7,8,9] M (hd1 M.at' 0) mixed zK fun w M hS=>?_
  refine zr2 fun _ F=>?_
  refine J2 rfl rfl (kQ F M (hc:=J24 M.st.nil.tb) (k:=fun s22 w q22 m M=>kB m (zkN fun _ F=>?_)))
  refine J2 rfl rfl (kS F M (hc:=J0N M.tb M.v) (k:=fun v s23 w q23 M=>kF (zkN fun _ F=>?_)))
  refine J2 rfl rfl (kW F M 1 [_,_,_] [_,_] (k:=fun w M=>kF (zkN fun _ F=>?_)))
  refine Jg F (JQ rfl (zca F M.at' 0) (zta F) (zta F)) ?_
  exact zfS M () (_,_) (⟨yBo,by unfold J1;omega⟩) (by rw [tpS,iFb h4,if_neg fun e=>h9 e.symm])
 refine zr2 fun _ F=>?_
 refine Jc [(_,[_,_,_],_)] [] [] [0,1,2,3,4,5,6] M (hd1 M.at' 0) mixed zK fun w M hS=>?_
 refine zr2 fun _ F=>?_
 refine J2 rfl rfl (kQ F M (hc:=J4o M.st.nil.tb) (k:=fun s24 w q24 m M=>kB m (zkN fun _ F=>?_)))
 refine J2 rfl rfl (kS F M (hc:=J1I nmp M.tb M.v) (k:=fun v s25 w q25 M=>kF (zkN fun _ F=>?_)))
 refine J2 rfl rfl (kW F M 0 [_,_,_] [_,_] (k:=fun w M=>kF (zkN fun _ F=>?_)))
 refine Jc [(_,[_,_,_],_)] [] [] [0,1,3,4,6,2,5,7,8,9] M (hd1 M.at' 0) mixed zK fun w M hS=>?_
 refine zr2 fun _ F=>?_
 refine J2 rfl rfl (kQ F M (hc:=J24 M.st.nil.tb) (k:=fun s26 w q26 m M=>kB m (zkN fun _ F=>?_)))
 refine J2 rfl rfl (kS F M (hc:=J0N M.tb M.v) (k:=fun v s27 w q27 M=>kF (zkN fun _ F=>?_)))
 refine J2 rfl rfl (kW F M 1 [_,_,_] [_,_] (k:=fun w M=>kF (zkN fun _ F=>?_)))
 refine Jg F (JQ rfl (zca F M.at' 0) (zta F) (zta F)) ?_
 exact zfS M () (_,_) (⟨yBo,by unfold J1;omega⟩) (by rw [tpS,iFb h4,if_neg fun e=>h9 e.symm])
end
end Go.Proofs.YtipdbeklopjbmaaGreatDoor
