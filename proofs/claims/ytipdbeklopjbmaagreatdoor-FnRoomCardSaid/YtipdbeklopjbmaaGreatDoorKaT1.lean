/-
  Walks: the reference's calls.
-/
import Derived.Test.YtipdbeklopjbmaaGreatDoorP19
set_option linter.unusedVariables false
set_option linter.unusedSimpArgs false
namespace Go.Proofs.YtipdbeklopjbmaaGreatDoor
open Go.ChangeShapes Go.WideShapes Go.ChangeAt Go.RowKit Go.Proofs.Tryz
set_option maxRecDepth 100000
set_option maxHeartbeats 1000000
section
set_option maxHeartbeats 8000000
variable {X:Uni} {w:World} {b u:Nat} {v:MV} {D:List CellD} {H:Nat→Prop}
theorem Jeh {f:ByteArray} {t:ByteArray} (hT:TbO w []) (hm:RM X H w v D u) (hu:u+8≤68718428160:=by omega) (h_f:okS f:=by exact yi) (h_t:okS t:=by exact yi) :
 Calls prog 216 #[v.val,.string f,.string t] w (PS X H w (fun v (r:Unit) (s:Int)=>.tuple #[v.val,iV s]) () (lkS D f t) (u+8) (fun (_:Unit) (s:Int)=>J1 s)):=by
 have M:=Sp.start hT hm
 refine zE (f:=216) fun _ F=>?_
 refine J0 (kBx F M [_,_,_] (k:=fun b1 w M=>zk fun _ F=>?_))
 refine J0 (kAl F M JA [_,_,_] (k:=fun b2 w M=>zk fun _ F=>?_))
 refine J0 (kQ F M (hc:=J40 M.st.nil.tb) (k:=fun s3 w q3 m M=>zk fun _ F=>?_))
 refine zGb F (fun h4 F=>?_) fun h4 F=>?_
 ·refine zr2 fun _ F=>?_
  refine J0 (kW F M 0 [_,_,_] [_,_] (k:=fun w M=>zk fun _ F=>?_))
  refine zde F M.at' 0 ?_
  exact zfS M () _ ya (by rw [lkS,if_pos h4])
 have hi4:=J1m (nf h4);refine zr2 fun _ F=>?_
 refine J0 (kQ F M (hc:=J40 M.st.nil.tb) (k:=fun s5 w q5 m M=>zk fun _ F=>?_))
 refine zib F (fun h6=>?_) fun h6=>?_
 ·refine zr2 fun _ F=>?_
  refine J0 (kW F M 0 [_,_,_] [_,_] (k:=fun w M=>zk fun _ F=>?_))
  refine zde F M.at' 0 ?_
  exact zfS M () _ ya (by rw [lkS,iFb h4,if_pos h6])
 have hi6:=J1m (nf h6);refine zr2 fun _ F=>?_
 refine J0 (kS F M (hc:=J3W M.tb M.v) (k:=fun v s7 w q7 M=>zk fun _ F=>?_))
 refine J0 (kW F M 1 [_,_,_] [_,_] (k:=fun w M=>zk fun _ F=>?_))
 refine zi F (fun h8=>?_) fun h8=>?_
 ·refine zr2 fun _ F=>?_
  refine J0 (kW F M 1 [_,_,_] [_,_] (k:=fun w M=>zk fun _ F=>?_))
  refine zde F M.at' 0 ?_
  exact zfS M () _ ya (by rw [lkS,iFb h4,iFb h6,if_pos h8])
 refine zr2 fun _ F=>?_
 refine J0 (kS F M (hc:=J3W M.tb M.v) (k:=fun v s9 w q9 M=>zk fun _ F=>?_))
 refine J0 (kW F M 0 [_,_,_] [_,_] (k:=fun w M=>zk fun _ F=>?_))
 refine zi F (fun h10=>?_) fun h10=>?_
 ·refine zr2 fun _ F=>?_
  refine J0 (kW F M 1 [_,_,_] [_,_] (k:=fun w M=>zk fun _ F=>?_))
  refine zde F M.at' 0 ?_
  exact zfS M () _ ya (by rw [lkS,iFb h4,iFb h6,if_neg h8,if_pos h10])
 refine zr2 fun _ F=>?_
 refine Jc [(_,[_,_,_],_)] [] [] [0,1,2,3,4,5,6,7,8] M (hd1 M.at' 0) mixed zK fun w M hS=>?_
 refine zr2 fun _ F=>?_
 refine J2 rfl rfl (kQ F M (hc:=J12 M.st.nil.tb) (k:=fun s11 w q11 m M=>kB m (zkN fun _ F=>?_)))
 refine J2 rfl rfl (kS F M (hc:=J0P M.tb M.v) (k:=fun v s12 w q12 M=>kF (zkN fun _ F=>?_)))
 refine J2 rfl rfl (kW F M 0 [_,_,_] [_,_] (k:=fun w M=>kF (zkN fun _ F=>?_)))
 refine zi F (fun h13=>?_) fun h13=>?_
 ·refine zr2 fun _ F=>?_
  refine J0 (kW F M 1 [_,_,_] [_,_] (k:=fun w M=>zk fun _ F=>?_))
  refine zde F M.at' 0 ?_
  exact zfS M () _ ya (by rw [lkS,iFb h4,iFb h6,if_neg h8,if_neg h10,if_pos h13])
 refine zr2 fun _ F=>?_
 refine J0 (kS F M (hc:=J0N M.tb M.v) (k:=fun v s14 w q14 M=>zk fun _ F=>?_))
 refine J0 (kW F M 0 [_,_,_] [_,_] (k:=fun w M=>zk fun _ F=>?_))
 refine Jc [(_,[_,_,_],_)] [] [] [0,1,3,4,2,5,6,7] M (hd1 M.at' 0) mixed zK fun w M hS=>?_
 refine zr2 fun _ F=>?_
 refine J2 rfl rfl (kQ F M (hc:=J12 M.st.nil.tb) (k:=fun s15 w q15 m M=>kB m (zkN fun _ F=>?_)))
 refine J2 rfl rfl (kS F M (hc:=J0N M.tb M.v) (k:=fun v s16 w q16 M=>kF (zkN fun _ F=>?_)))
 refine J2 rfl rfl (kW F M 1 [_,_,_] [_,_] (k:=fun w M=>kF (zkN fun _ F=>?_)))
 refine zde F M.at' 0 ?_
 exact zfS M () _ ya (by rw [lkS,iFb h4,iFb h6,if_neg h8,if_neg h10,if_neg h13])
theorem JaC {p:Int} (hT:TbO w []) (hm:RM X H w v D u) (hu:u+8≤68718428160:=by omega) (h_p:J1 p:=by exact ym) :
 Calls prog 191 #[v.val,iV p] w (PS X H w (fun v (r:Int × Int) (s:Unit)=>.tuple #[v.val,iV r.1,iV r.2]) (spF D p).1 (spF D p).2 (u+8) (fun (r:Int × Int) (_:Unit)=>J1 r.1∧J1 r.2)):=by
 have M:=Sp.start hT hm
 refine zE (f:=191) fun _ F=>?_
 refine J0 (kBx F M [_,_,_] (k:=fun b1 w M=>zk fun _ F=>?_))
 refine J0 (kAl F M JA [_,_,_] (k:=fun b2 w M=>zk fun _ F=>?_))
 refine J0 (kS F M (hc:=J0P M.tb M.v) (k:=fun v s3 w q3 M=>zk fun _ F=>?_))
 refine J0 (kW F M 1 [_,_,_] [_,_] (k:=fun w M=>zk fun _ F=>?_))
 refine zi F (fun h4=>?_) fun h4=>?_
 ·refine zr2 fun _ F=>?_
  refine J0 (kW F M 1 [_,_,_] [_,_] (k:=fun w M=>zk fun _ F=>?_))
  refine Jg F (JQ rfl (zca F M.at' 0) (zta F) (zta F)) ?_
  exact zfS M (_,_) () (⟨ya,ya⟩) (by rw [spF,if_pos h4])
 refine zr2 fun _ F=>?_
 refine J0 (kS F M (hc:=J7g M.tb M.v) (k:=fun v s5 w q5 M=>zk fun _ F=>?_))
 refine J0 (kW F M 0 [_,_,_] [_,_] (k:=fun w M=>zk fun _ F=>?_))
 refine Jc [(_,[_,_,_],_)] [] [] [0,1,2,3,4] M (hd1 M.at' 0) mixed zK fun w M hS=>?_
 refine zr2 fun _ F=>?_
 refine J2 rfl rfl (kQ F M (hc:=J3w M.st.nil.tb) (k:=fun s6 w q6 m M=>kB m (zkN fun _ F=>?_)))
 refine J2 rfl rfl (kS F M (hc:=J0N M.tb M.v) (k:=fun v s7 w q7 M=>kF (zkN fun _ F=>?_)))
 refine J2 rfl rfl (kW F M 0 [_,_,_] [_,_] (k:=fun w M=>kF (zkN fun _ F=>?_)))
 refine Jc [(_,[_,_,_],_)] [] [] [0,1,3,5,2,4,6,7,8] M (hd1 M.at' 0) mixed zK fun w M hS=>?_
 refine zr2 fun _ F=>?_
 refine J2 rfl rfl (kQ F M (hc:=J3w M.st.nil.tb) (k:=fun s8 w q8 m M=>kB m (zkN fun _ F=>?_)))
 refine J2 rfl rfl (kS F M (hc:=J0N M.tb M.v) (k:=fun v s9 w q9 M=>kF (zkN fun _ F=>?_)))
 refine J2 rfl rfl (kW F M 1 [_,_,_] [_,_] (k:=fun w M=>kF (zkN fun _ F=>?_)))
 refine Jg F (JQ rfl (zca F M.at' 0) (zta F) (zta F)) ?_
 exact zfS M (_,_) () (⟨ya,ya⟩) (by rw [spF,if_neg h4])
theorem JdL {id:Int} (hT:TbO w []) (hm:RM X H w v D u) (hu:u+8≤68718428160:=by omega) (h_id:J1 id:=by exact ym) :
 Calls prog 225 #[v.val,iV id] w (PS X H w (fun v (r:Unit) (s:Int × Int)=>.tuple #[v.val,iV s.1,iV s.2]) () (tsS D id) (u+8) (fun (_:Unit) (s:Int × Int)=>J1 s.1∧J1 s.2)):=by
 have M:=Sp.start hT hm
 refine zE (f:=225) fun _ F=>?_
 refine J0 (kBx F M [_,_,_] (k:=fun b1 w M=>zk fun _ F=>?_))
 refine J0 (kAl F M JA [_,_,_] (k:=fun b2 w M=>zk fun _ F=>?_))
 refine Jc [(_,[_,_,_],_)] [] [] [0,1,2,3,4,5,6,7,8] M (hd1 M.at' 1) mixed zK fun w M hS=>?_
 refine zr2 fun _ F=>?_
 refine J2 rfl rfl (kQ F M (hc:=J2n M.st.nil.tb) (k:=fun s3 w q3 m M=>kB m (zkN fun _ F=>?_)))
 refine J2 rfl rfl (kS F M (hc:=J0P M.tb M.v) (k:=fun v s4 w q4 M=>kF (zkN fun _ F=>?_)))
 refine J2 rfl rfl (kW F M 1 [_,_,_] [_,_] (k:=fun w M=>kF (zkN fun _ F=>?_)))
 refine Jc [(_,[_,_,_],_)] [] [] [0,1,2,3,4,5,6,7,8] M (hd1 M.at' 0) mixed zK fun w M hS=>?_
 refine zr2 fun _ F=>?_
 refine J2 rfl rfl (kQ F M (hc:=J2n M.st.nil.tb) (k:=fun s5 w q5 m M=>kB m (zkN fun _ F=>?_)))
 refine J2 rfl rfl (kS F M (hc:=J0P M.tb M.v) (k:=fun v s6 w q6 M=>kF (zkN fun _ F=>?_)))
 refine J2 rfl rfl (kW F M 0 [_,_,_] [_,_] (k:=fun w M=>kF (zkN fun _ F=>?_)))
 refine zi F (fun h7=>?_) fun h7=>?_
 ·refine zr2 fun _ F=>?_
  refine J0 (kW F M 1 [_,_,_] [_,_] (k:=fun w M=>zk fun _ F=>?_))
  refine Jg F (JQ rfl (zca F M.at' 0) (zta F) (zta F)) ?_
  exact zfS M () (_,_) (⟨ya,ya⟩) (by rw [tsS,if_pos h7.symm])
 refine zr2 fun _ F=>?_
 refine Jc [(_,[_,_,_],_)] [] [] [0,1,2,3,4,5,6,7,8,9,10] M (hd1 M.at' 0) mixed zK fun w M hS=>?_
 refine zr2 fun _ F=>?_
 refine J2 rfl rfl (kQ F M (hc:=J56 M.st.nil.tb) (k:=fun s8 w q8 m M=>kB m (zkN fun _ F=>?_)))
 refine J2 rfl rfl (kS F M (hc:=J0P M.tb M.v) (k:=fun v s9 w q9 M=>kF (zkN fun _ F=>?_)))
 refine J2 rfl rfl (kW F M 0 [_,_,_] [_,_] (k:=fun w M=>kF (zkN fun _ F=>?_)))
 refine Jc [(_,[_,_,_],_)] [] [] [0,1,2,3,4,5,6] M (hd1 M.at' 0) mixed zK fun w M hS=>?_
 refine zr2 fun _ F=>?_
 refine J2 rfl rfl (kQ F M (hc:=J56 M.st.nil.tb) (k:=fun s10 w q10 m M=>kB m (zkN fun _ F=>?_)))
 refine J2 rfl rfl (kS F M (hc:=J1I nmp M.tb M.v) (k:=fun v s11 w q11 M=>kF (zkN fun _ F=>?_)))
 refine J2 rfl rfl (kW F M 0 [_,_,_] [_,_] (k:=fun w M=>kF (zkN fun _ F=>?_)))
 refine Jc [(_,[_,_,_],_)] [] [] [0,1,3,4,6,2,5,7,8,9] M (hd1 M.at' 0) mixed zK fun w M hS=>?_
 refine zr2 fun _ F=>?_
 refine J2 rfl rfl (kQ F M (hc:=J2n M.st.nil.tb) (k:=fun s12 w q12 m M=>kB m (zkN fun _ F=>?_)))
 refine J2 rfl rfl (kS F M (hc:=J0N M.tb M.v) (k:=fun v s13 w q13 M=>kF (zkN fun _ F=>?_)))
 refine J2 rfl rfl (kW F M 1 [_,_,_] [_,_] (k:=fun w M=>kF (zkN fun _ F=>?_)))
 refine Jg F (JQ rfl (zca F M.at' 0) (zta F) (zta F)) ?_
 exact zfS M () (_,_) (⟨ya,ya⟩) (by rw [tsS,if_neg fun e=>h7 e.symm])
theorem Jej {id:Int} {p:Int} (hT:TbO w []) (hm:RM X H w v D u) (hu:u+2≤68718428160:=by omega) (h_id:J1 id:=by exact ym) (h_p:J1 p:=by exact ym) :
 Calls prog 229 #[v.val,iV id,iV p] w (PS X H w (fun v (r:Unit) (s:ByteArray × Int)=>.tuple #[v.val,.string s.1,iV s.2]) () D (u+2) (fun (_:Unit) (s:ByteArray × Int)=>okS s.1∧J1 s.2)):=by
 have M:=Sp.start hT hm
 refine zE (f:=229) fun _ F=>?_
 refine J0 (kBx F M [_,_,_] (k:=fun b1 w M=>zk fun _ F=>?_))
 refine J0 (kAl F M JA [_,_,_] (k:=fun b2 w M=>zk fun _ F=>?_))
 refine J0 (kQ F M (hc:=J33 M.st.nil.tb) (k:=fun s3 w q3 m M=>zk fun _ F=>?_))
 refine zib F (fun h4=>?_) fun h4=>?_
 ·refine zr2 fun _ F=>?_
  refine J0 (kW F M 0 [_,_,_] [_,_] (k:=fun w M=>zk fun _ F=>?_))
  refine Jg F (JQ rfl (zca F M.at' 0) (zta F) (zta F)) ?_
  exact zfS M () (_,_) (⟨yBo,by unfold J1;omega⟩) (rfl)
 have hi4:=J0K (nf h4);refine zr2 fun _ F=>?_
 refine Jc [(_,[_,_,_],_)] [] [] [0,1,3,2,4,5,6,7,8,9,10] M (hd1 M.at' 1) mixed zK fun w M hS=>?_
 refine zr2 fun _ F=>?_
 refine J2 rfl rfl (kQ F M (hc:=J9f M.st.nil.tb) (k:=fun s5 w q5 m M=>kB m (zkN fun _ F=>?_)))
 refine J2 rfl rfl (kQ F M (hc:=J12 M.st.nil.tb) (k:=fun s6 w q6 m M=>kB m (zkN fun _ F=>?_)))
 refine J2 rfl rfl (kS F M (hc:=J4G M.tb M.v) (k:=fun v s7 w q7 M=>kF (zkN fun _ F=>?_)))
 refine J2 rfl rfl (kW F M 1 [_,_,_] [_,_] (k:=fun w M=>kF (zkN fun _ F=>?_)))
 refine zG F (fun h8 F=>?_) fun h8 F=>?_
 ·refine zr2 fun _ F=>?_
  refine kIx F (0) (by first|omega|exact J42 (by assumption)|exact J42 (Ne.symm (by assumption))) (k:=zk fun _ F=>?_)
  refine zi F (fun h9=>?_) fun h9=>?_
  ·refine zr2 fun _ F=>?_
   refine kSl F (1) yBj (k:=fun he10=>zk fun _ F=>?_)
   refine J0 (kQ F M (hc:=J7a M.st.nil.tb) (k:=fun s11 w q11 m M=>zk fun _ F=>?_))
   refine J0 (kW F M 1 [_,_,_] [_,_] (k:=fun w M=>zk fun _ F=>?_))
   refine Jg F (JQ rfl (zca F M.at' 0) (zta F) (zta F)) ?_
   exact zfS M () (_,_) (⟨yBo,by unfold J1;omega⟩) (rfl)
  refine zr2 fun _ F=>?_
  refine J0 (kW F M 1 [_,_,_] [_,_] (k:=fun w M=>zk fun _ F=>?_))
  refine Jg F (JQ rfl (zca F M.at' 0) (zta F) (zta F)) ?_
  exact zfS M () (_,_) (⟨yBo,by unfold J1;omega⟩) (rfl)
 refine zr2 fun _ F=>?_
 refine J0 (kW F M 1 [_,_,_] [_,_] (k:=fun w M=>zk fun _ F=>?_))
 refine Jg F (JQ rfl (zca F M.at' 0) (zta F) (zta F)) ?_
 exact zfS M () (_,_) (⟨yBo,by unfold J1;omega⟩) (rfl)
end
end Go.Proofs.YtipdbeklopjbmaaGreatDoor
