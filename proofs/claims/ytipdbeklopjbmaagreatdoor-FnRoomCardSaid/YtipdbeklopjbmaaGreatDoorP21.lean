/-
  Texts laid together: KaT2, KaT3, KaT4.
-/
import Derived.Test.YtipdbeklopjbmaaGreatDoorP19
import Derived.Test.YtipdbeklopjbmaaGreatDoorKaT0
import Derived.Test.YtipdbeklopjbmaaGreatDoorKaT1
set_option linter.unusedVariables false
set_option linter.unusedSimpArgs false
namespace Go.Proofs.YtipdbeklopjbmaaGreatDoor
open Go.ChangeShapes Go.WideShapes Go.ChangeAt Go.RowKit Go.Proofs.Tryz
instance : RTc prog 226 f226 17:=rtc func226 ntmps226
instance : RTc prog 228 f228 42:=rtc func228 ntmps228
instance : RTc prog 217 f217 44:=rtc func217 ntmps217
instance : RTc prog 299 f299 47:=rtc func299 ntmps299
instance : RTc prog 300 f300 32:=rtc func300 ntmps300
set_option maxRecDepth 100000
set_option maxHeartbeats 1000000
section
set_option maxHeartbeats 8000000
variable {X:Uni} {w:World} {b u:Nat} {v:MV} {D:List CellD} {H:Nat→Prop}
theorem unlinkName_s {f:ByteArray} (hT:TbO w []) (hm:RM X H w v D u) (hu:u+8≤68718428160:=by omega) (h_f:okS f:=by exact yi) :
 Calls prog 217 #[v.val,.string f] w (PS X H w (fun v (r:Unit) (s:Int)=>.tuple #[v.val,iV s]) () (ulS D f) (u+8) (fun (_:Unit) (s:Int)=>J1 s)):=by
 have M:=Sp.start hT hm
 refine zE (f:=217) fun _ F=>?_
 refine J0 (kBx F M [_,_,_] (k:=fun b1 w M=>zk fun _ F=>?_))
 refine J0 (kAl F M JA [_,_,_] (k:=fun b2 w M=>zk fun _ F=>?_))
 refine J0 (kQ F M (hc:=J40 M.st.nil.tb) (k:=fun s3 w q3 m M=>zk fun _ F=>?_))
 refine zib F (fun h4=>?_) fun h4=>?_
 ·refine zr2 fun _ F=>?_
  refine J0 (kW F M 0 [_,_,_] [_,_] (k:=fun w M=>zk fun _ F=>?_))
  refine zde F M.at' 0 ?_
  exact zfS M () _ ya (by rw [ulS,if_pos h4])
 have hi4:=J1m (nf h4);refine zr2 fun _ F=>?_
 refine J0 (kS F M (hc:=J3W M.tb M.v) (k:=fun v s5 w q5 M=>zk fun _ F=>?_))
 refine J0 (kW F M 1 [_,_,_] [_,_] (k:=fun w M=>zk fun _ F=>?_))
 refine zi F (fun h6=>?_) fun h6=>?_
 ·refine zr2 fun _ F=>?_
  refine J0 (kW F M 1 [_,_,_] [_,_] (k:=fun w M=>zk fun _ F=>?_))
  refine zde F M.at' 0 ?_
  exact zfS M () _ ya (by rw [ulS,iFb h4,if_pos h6])
 refine zr2 fun _ F=>?_
 refine J0 (kS F M (hc:=J1I nmp M.tb M.v) (k:=fun v s7 w q7 M=>zk fun _ F=>?_))
 refine J0 (kW F M 0 [_,_,_] [_,_] (k:=fun w M=>zk fun _ F=>?_))
 refine Jc [(_,[_,_,_],_)] [] [] [0,1,2,3,4,5,6,7,8] M (hd1 M.at' 0) mixed zK fun w M hS=>?_
 refine zr2 fun _ F=>?_
 refine J2 rfl rfl (kQ F M (hc:=J12 M.st.nil.tb) (k:=fun s8 w q8 m M=>kB m (zkN fun _ F=>?_)))
 refine J2 rfl rfl (kS F M (hc:=J0P M.tb M.v) (k:=fun v s9 w q9 M=>kF (zkN fun _ F=>?_)))
 refine J2 rfl rfl (kW F M 0 [_,_,_] [_,_] (k:=fun w M=>kF (zkN fun _ F=>?_)))
 refine zi F (fun h10=>?_) fun h10=>?_
 ·refine zr2 fun _ F=>?_
  refine Jc [(_,[_,_,_],_)] [] [] [0,1,3,4,2,5,6,7] M (hd1 M.at' 0) mixed zK fun w M hS=>?_
  refine zr2 fun _ F=>?_
  refine J2 rfl rfl (kQ F M (hc:=J12 M.st.nil.tb) (k:=fun s11 w q11 m M=>kB m (zkN fun _ F=>?_)))
  refine J2 rfl rfl (kS F M (hc:=J0N M.tb M.v) (k:=fun v s12 w q12 M=>kF (zkN fun _ F=>?_)))
  refine J2 rfl rfl (kW F M 1 [_,_,_] [_,_] (k:=fun w M=>kF (zkN fun _ F=>?_)))
  refine zde F M.at' 0 ?_
  exact zfS M () _ ya (by rw [ulS,iFb h4,if_neg h6,if_pos h10])
 refine zr2 fun _ F=>?_
 refine Jc [(_,[_,_,_],_)] [] [] [0,1,2,3,4,5] M (hd1 M.at' 0) mixed zK fun w M hS=>?_
 refine zr2 fun _ F=>?_
 refine J2 rfl rfl (kQ F M (hc:=J12 M.st.nil.tb) (k:=fun s13 w q13 m M=>kB m (zkN fun _ F=>?_)))
 refine J2 rfl rfl (kS F M (hc:=Jba M.tb M.v) (k:=fun v s14 w q14 M=>kF (zkN fun _ F=>?_)))
 refine J2 rfl rfl (kW F M 1 [_,_,_] [_,_] (k:=fun w M=>kF (zkN fun _ F=>?_)))
 refine zde F M.at' 0 ?_
 exact zfS M () _ ya (by rw [ulS,iFb h4,if_neg h6,if_neg h10])
theorem end_s {id:Int} {n:Int} (hT:TbO w []) (hm:RM X H w v D u) (hu:u+8≤68718428160:=by omega) (h_id:J1 id:=by exact ym) (h_n:J1 n:=by exact ym) :
 Calls prog 300 #[v.val,iV id,iV n] w (PS X H w (fun v (r:Int) (s:Unit)=>.tuple #[v.val,iV r]) (enF D id n).1 (enF D id n).2 (u+8) (fun (r:Int) (_:Unit)=>J1 r)):=by
 have M:=Sp.start hT hm
 refine zE (f:=300) fun _ F=>?_
 refine J0 (kBx F M [_,_,_] (k:=fun b1 w M=>zk fun _ F=>?_))
 refine J0 (kAl F M JA [_,_,_] (k:=fun b2 w M=>zk fun _ F=>?_))
 refine J0 (kS F M (hc:=J78 M.tb M.v) (k:=fun v s3 w q3 M=>zk fun _ F=>?_))
 refine J0 (kW F M 1 [_,_,_] [_,_] (k:=fun w M=>zk fun _ F=>?_))
 refine zi F (fun h4=>?_) fun h4=>?_
 ·refine zr2 fun _ F=>?_
  refine J0 (kW F M 1 [_,_,_] [_,_] (k:=fun w M=>zk fun _ F=>?_))
  refine zde F M.at' 0 ?_
  exact zfS M _ () ya (by rw [enF,if_pos h4])
 refine zr2 fun _ F=>?_
 refine J0 (kQ F M (hc:=J33 M.st.nil.tb) (k:=fun s5 w q5 m M=>zk fun _ F=>?_))
 refine zib F (fun h6=>?_) fun h6=>?_
 ·refine zr2 fun _ F=>?_
  refine J0 (kW F M 1 [_,_,_] [_,_] (k:=fun w M=>zk fun _ F=>?_))
  refine zde F M.at' 0 ?_
  exact zfS M _ () ya (by rw [enF,if_neg h4,if_pos h6])
 have hi6:=J0K (nf h6);refine zr2 fun _ F=>?_
 refine Jc [(_,[_,_,_],_)] [] [] [0,1,2,3,4] M (hd1 M.at' 0) mixed zK fun w M hS=>?_
 refine zr2 fun _ F=>?_
 refine J2 rfl rfl (kQ F M (hc:=J3w M.st.nil.tb) (k:=fun s7 w q7 m M=>kB m (zkN fun _ F=>?_)))
 refine J2 rfl rfl (kS F M (hc:=J0N M.tb M.v) (k:=fun v s8 w q8 M=>kF (zkN fun _ F=>?_)))
 refine J2 rfl rfl (kW F M 0 [_,_,_] [_,_] (k:=fun w M=>kF (zkN fun _ F=>?_)))
 refine Jc [(_,[_,_,_],_)] [] [] [0,1,3,4,2,5,6,7] M (hd1 M.at' 0) mixed zK fun w M hS=>?_
 refine zr2 fun _ F=>?_
 refine J2 rfl rfl (kQ F M (hc:=J3w M.st.nil.tb) (k:=fun s9 w q9 m M=>kB m (zkN fun _ F=>?_)))
 refine J2 rfl rfl (kS F M (hc:=J0N M.tb M.v) (k:=fun v s10 w q10 M=>kF (zkN fun _ F=>?_)))
 refine J2 rfl rfl (kW F M 1 [_,_,_] [_,_] (k:=fun w M=>kF (zkN fun _ F=>?_)))
 refine zde F M.at' 0 ?_
 exact zfS M _ () ya (by rw [enF,if_neg h4,iFb h6])
theorem setTimer_s {id:Int} {n:Int} (hT:TbO w []) (hm:RM X H w v D u) (hu:u+2≤68718428160:=by omega) (h_id:J1 id:=by exact ym) (h_n:J1 n:=by exact ym) :
 Calls prog 226 #[v.val,iV id,iV n] w (PS X H w (fun v (r:Unit) (s:Int)=>.tuple #[v.val,iV s]) () (tmS D id n) (u+2) (fun (_:Unit) (s:Int)=>J1 s)):=by
 have M:=Sp.start hT hm
 refine zE (f:=226) fun _ F=>?_
 refine J0 (kBx F M [_,_,_] (k:=fun b1 w M=>zk fun _ F=>?_))
 refine J0 (kAl F M JA [_,_,_] (k:=fun b2 w M=>zk fun _ F=>?_))
 refine J0 (kQ F M (hc:=J33 M.st.nil.tb) (k:=fun s3 w q3 m M=>zk fun _ F=>?_))
 refine zib F (fun h4=>?_) fun h4=>?_
 ·refine zr2 fun _ F=>?_
  refine J0 (kW F M 0 [_,_,_] [_,_] (k:=fun w M=>zk fun _ F=>?_))
  refine zde F M.at' 0 ?_
  exact zfS M () _ ya (by rw [tmS,if_pos h4])
 have hi4:=J0K (nf h4);refine zr2 fun _ F=>?_
 refine Jc [(_,[_,_,_],_)] [] [] [0,1,3,2,4,5,6] M (hd1 M.at' 1) mixed zK fun w M hS=>?_
 refine zr2 fun _ F=>?_
 refine J2 rfl rfl (kQ F M (hc:=J12 M.st.nil.tb) (k:=fun s5 w q5 m M=>kB m (zkN fun _ F=>?_)))
 refine J2 rfl rfl (kS F M (hc:=J0N M.tb M.v) (k:=fun v s6 w q6 M=>kF (zkN fun _ F=>?_)))
 refine J2 rfl rfl (kW F M 0 [_,_,_] [_,_] (k:=fun w M=>kF (zkN fun _ F=>?_)))
 refine zde F M.at' 0 ?_
 exact zfS M () _ ya (by rw [tmS,iFb h4])
theorem fork_s {t:Int} (hT:TbO w []) (hm:RM X H w v D u) (hu:u+1≤68718428160:=by omega) (hi64:J1 X.P:=by assumption) (h_t:J1 t:=by exact ym) (p0:1≤t∧t≤12:=by assumption) :
 Calls prog 299 #[v.val,iV X.P,iV t] w (PS X H w (fun v (r:Unit) (s:Unit)=>v.val) () (fkS D X.P t) (u+1) noq):=by
 have M:=Sp.start hT hm
 refine zE (f:=299) fun _ F=>?_
 have hps:=M.pgS
 have hzt:(kPg t).size≤1000:=ksz h_t (by decide)
 refine J0 (kBx F M [_,_,_] (k:=fun b1 w M=>zk fun _ F=>?_))
 refine J0 (kAl F M JA [_,_,_] (k:=fun b2 w M=>zk fun _ F=>?_))
 refine Jc [(_,[_,_,_],_)] [] [] [0,1,2,3,4,5,6,7,8] M (hd1 M.at' 1) mixed zK fun w M hS=>?_
 refine zr2 fun _ F=>?_
 refine J2 rfl rfl (kQ F M (hc:=J9f M.st.nil.tb) (k:=fun s3 w q3 m M=>kB m (zkN fun _ F=>?_)))
 refine J2 rfl rfl (kUS F M (hc:=J5u M.tb M.v) (k:=fun v s4 w q4 M=>kF (zkN fun _ F=>?_)))
 refine J2 rfl rfl (kW F M 2 [_,_,_] [_,_,_] (k:=fun w M=>kF (zkN fun _ F=>?_)))
 have hq5:=q4.le
 have M:=M.ext (ks:=Jt D (kPg X.P)) J3V
 have F:=F.cut (m':=[(8,_),(1,_),(2,_),(3,_),(6,_),(7,_)]) rfl
 refine J1e (γ:=Nat × MV) (slots:=fun g=>[(8,nV g.1)]) (LL:=fun g=>[bx b1 [g.2.S,g.2.R,g.2.W] 210,owK s4 (Jt D (kPg X.P)),bx b2 [sN,sN,sN] 210]) (vv:=fun g=>g.2) (DD:=fun g=>fkA (kPg X.P) (kPg t) ((Jt D (kPg X.P)).take g.1) D) (uu:=fun _=>(u+1)) (pr:=fun g=>g.1≤s4.n) (g0:=(0,v)) (fun g=>s4.n - g.1) F M (Nat.zero_le _) fun g a w F M hp=>?_
 refine zr2 fun _ F=>?_
 refine zi F (fun h6=>?_) fun h6=>?_
 ·refine zr2 fun _ F=>?_
  refine Jc [(_,[_,_,_],_)] [rdK s4 _] [] [0,1,2,3,4,5,6,7,8,9,10] M (HdK.one M.at' 1 rfl (HdS.cons M.at' 0 rfl HdS.nil)) mixed zK fun w M hS=>?_
  refine zr2 fun _ F=>?_
  refine nEl (s:=s4) F hS ET_44 0 g.1 zO (kk:=fun x7 _ hx7 ok7=>zkN fun _ F=>?_)
  have hz7:=q4.sz _ (Jm hx7)
  have hg7:=J2E (q4.bg _ (Jm hx7))
  refine J2 rfl rfl (kS F M (hc:=Jgr (J35 hx7) M.tb M.v) (k:=fun v s8 w q8 M=>kF (zkN fun _ F=>?_)))
  refine J2 rfl rfl (kW F M 0 [_,_,_] [_,_,_] (k:=fun w M=>kF (zkN fun _ F=>?_)))
  refine Jc [(_,[_,_,_],_)] [rdK s4 _] [] [0,1,3,4,5,6,7,12,2,8,9,10,11,13,14] M (HdK.one M.at' 1 rfl (HdS.cons M.at' 0 rfl HdS.nil)) mixed zK fun w M hS=>?_
  refine zr2 fun _ F=>?_
  refine JbQ (s:=s4) F hS ET_44 0 g.1 zO hx7 (kk:=fun _ ok9=>zkN fun _ F=>?_)
  refine J2 rfl rfl (kQ F M (hc:=J9f M.st.nil.tb) (k:=fun s10 w q10 m M=>kB m (zkN fun _ F=>?_)))
  refine J2 rfl rfl (kQ F M (hc:=J9f M.st.nil.tb) (k:=fun s11 w q11 m M=>kB m (zkN fun _ F=>?_)))
  refine nSl F ((kPg X.P).size) yBj (k:=fun he12=>zkN fun _ F=>?_)
  refine J2 rfl rfl (kS F M (hc:=J5z (Jhg p0 (hps _ (Jm hx7))) (.inr (Jhh p0 (hps _ (Jm hx7)))) M.tb M.v) (k:=fun v s13 w q13 M=>kH (HdK.one M.at' 1 rfl (HdS.cons M.at' 0 rfl HdS.nil)) (zkN fun _ F=>?_)))
  refine J2 rfl rfl (kW F M 0 [_,_,_] [_,_,_] (k:=fun w M=>kF (zkN fun _ F=>?_)))
  exact Jw (g.1+1,v) (by dsimp only;omega) ⟨F.cut rfl,M.cast (Jfv hx7),by dsimp only;omega⟩
 refine zr2 fun _ F=>?_
 have M:=M.unext
 refine J0 (kW F M 2 [_,_,_] [_,_,_] (k:=fun w M=>zk fun _ F=>?_))
 refine zdc F M.at' 0 ?_
 exact zfS M () () (trivial) (by rw [fkS,J5n q4.n h6])
theorem storePage_s {p:Int} {x:ByteArray} (hT:TbO w []) (hm:RM X H w v D u) (hu:u+2≤68718428160:=by omega) (hi64:J1 X.P:=by assumption) (h_p:J1 p:=by exact ym) (h_x:okS x:=by exact yi) :
 Calls prog 228 #[v.val,iV X.P,iV p,.string x] w (PS X H w (fun v (r:Unit) (s:Int)=>.tuple #[v.val,iV s]) () (gpS D X.P p x) (u+2) (fun (_:Unit) (s:Int)=>J1 s)):=by
 have M:=Sp.start hT hm
 refine zE (f:=228) fun _ F=>?_
 refine J0 (kBx F M [_,_,_] (k:=fun b1 w M=>zk fun _ F=>?_))
 refine J0 (kAl F M JA [_,_,_] (k:=fun b2 w M=>zk fun _ F=>?_))
 refine J0 (kQ F M (hc:=J33 M.st.nil.tb) (k:=fun s3 w q3 m M=>zk fun _ F=>?_))
 refine zGb F (fun h4 F=>?_) fun h4 F=>?_
 ·refine zr2 fun _ F=>?_
  refine J0 (kW F M 0 [_,_,_] [_,_] (k:=fun w M=>zk fun _ F=>?_))
  refine zde F M.at' 0 ?_
  exact zfS M () _ ya (by rw [gpS,if_pos h4])
 have hi4:=J0K (nf h4);refine zr2 fun _ F=>?_
 refine zi F (fun h5=>?_) fun h5=>?_
 ·refine zr2 fun _ F=>?_
  refine J0 (kW F M 0 [_,_,_] [_,_] (k:=fun w M=>zk fun _ F=>?_))
  refine zde F M.at' 0 ?_
  exact zfS M () _ ya (by rw [gpS,iFb h4,if_pos h5])
 refine zr2 fun _ F=>?_
 refine zi F (fun h6=>?_) fun h6=>?_
 ·refine zr2 fun _ F=>?_
  refine Jc [(_,[_,_,_],_)] [] [] [0,1,3,2,4,5,6,7] M (hd1 M.at' 1) mixed zK fun w M hS=>?_
  refine zr2 fun _ F=>?_
  refine J2 rfl rfl (kQ F M (hc:=J9f M.st.nil.tb) (k:=fun s7 w q7 m M=>kB m (zkN fun _ F=>?_)))
  refine J2 rfl rfl (kQ F M (hc:=J12 M.st.nil.tb) (k:=fun s8 w q8 m M=>kB m (zkN fun _ F=>?_)))
  refine J2 rfl rfl (kS F M (hc:=J1I (JaZ (by assumption)) M.tb M.v) (k:=fun v s9 w q9 M=>kF (zkN fun _ F=>?_)))
  refine J2 rfl rfl (kW F M 0 [_,_,_] [_,_] (k:=fun w M=>kF (zkN fun _ F=>?_)))
  refine zde F M.at' 0 ?_
  exact zfS M () _ ya (by rw [gpS,iFb h4,if_neg h5,if_pos h6])
 refine zr2 fun _ F=>?_
 refine J0 (kQ F M (hc:=J7F M.st.nil.tb) (k:=fun s10 w q10 m M=>zk fun _ F=>?_))
 refine Jc [(_,[_,_,_],_)] [] [] [0,1,3,5,6,2,4,7,8,9] M (hd1 M.at' 1) mixed zK fun w M hS=>?_
 refine zr2 fun _ F=>?_
 refine J2 rfl rfl (kQ F M (hc:=J9f M.st.nil.tb) (k:=fun s11 w q11 m M=>kB m (zkN fun _ F=>?_)))
 refine J2 rfl rfl (kQ F M (hc:=J12 M.st.nil.tb) (k:=fun s12 w q12 m M=>kB m (zkN fun _ F=>?_)))
 refine J2 rfl rfl (kS F M (hc:=J1I (JaZ (by assumption)) M.tb M.v) (k:=fun v s13 w q13 M=>kF (zkN fun _ F=>?_)))
 refine J2 rfl rfl (kW F M 0 [_,_,_] [_,_] (k:=fun w M=>kF (zkN fun _ F=>?_)))
 refine zde F M.at' 0 ?_
 exact zfS M () _ ya (by rw [gpS,iFb h4,if_neg h5,if_neg h6])
end
end Go.Proofs.YtipdbeklopjbmaaGreatDoor
namespace Go.Proofs.YtipdbeklopjbmaaGreatDoor
open Go.ChangeShapes Go.WideShapes Go.ChangeAt Go.RowKit Go.Proofs.Tryz
set_option maxRecDepth 100000
set_option maxHeartbeats 1000000
section
set_option maxHeartbeats 8000000
variable {X:Uni} {w:World} {b u:Nat} {v:MV} {D:List CellD} {H:Nat→Prop}
theorem Jen (hT:TbO w []) (hm:RM X H w v D u) (hu:u+8≤68718428160:=by omega) :
 Calls prog 221 #[v.val] w (PS X H w (fun v (r:Unit) (s:Int × Int)=>.tuple #[v.val,iV s.1,iV s.2]) () (mpS D) (u+8) (fun (_:Unit) (s:Int × Int)=>J1 s.1∧J1 s.2)):=by
 have M:=Sp.start hT hm
 refine zE (f:=221) fun _ F=>?_
 refine J0 (kBx F M [_,_,_] (k:=fun b1 w M=>zk fun _ F=>?_))
 refine J0 (kAl F M JA [_,_,_] (k:=fun b2 w M=>zk fun _ F=>?_))
 refine J0 (kS F M (hc:=J0P M.tb M.v) (k:=fun v s3 w q3 M=>zk fun _ F=>?_))
 refine J0 (kW F M 1 [_,_,_] [_,_] (k:=fun w M=>zk fun _ F=>?_))
 refine zi F (fun h4=>?_) fun h4=>?_
 ·refine zr2 fun _ F=>?_
  refine J0 (kW F M 1 [_,_,_] [_,_] (k:=fun w M=>zk fun _ F=>?_))
  refine Jg F (JQ rfl (zca F M.at' 0) (zta F) (zta F)) ?_
  exact zfS M () (_,_) (⟨ya,ya⟩) (by rw [mpS,if_pos h4])
 refine zr2 fun _ F=>?_
 refine J0 (kS F M (hc:=J7g M.tb M.v) (k:=fun v s5 w q5 M=>zk fun _ F=>?_))
 refine J0 (kW F M 0 [_,_,_] [_,_] (k:=fun w M=>zk fun _ F=>?_))
 refine Jc [(_,[_,_,_],_)] [] [] [0,1,4,2,3,5,6,7] M (hd1 M.at' 0) mixed zK fun w M hS=>?_
 refine zr2 fun _ F=>?_
 refine J2 rfl rfl (kQ F M (hc:=J24 M.st.nil.tb) (k:=fun s6 w q6 m M=>kB m (zkN fun _ F=>?_)))
 refine J2 rfl rfl (kS F M (hc:=J0N M.tb M.v) (k:=fun v s7 w q7 M=>kF (zkN fun _ F=>?_)))
 refine J2 rfl rfl (kW F M 1 [_,_,_] [_,_] (k:=fun w M=>kF (zkN fun _ F=>?_)))
 refine Jg F (JQ rfl (zca F M.at' 0) (zta F) (zta F)) ?_
 exact zfS M () (_,_) (⟨ya,ya⟩) (by rw [mpS,if_neg h4])
theorem JhN {p:Int} {id:Int} (hT:TbO w []) (hm:RM X H w v D u) (hu:u+8≤68718428160:=by omega) (h_p:J1 p:=by exact ym) (h_id:J1 id:=by exact ym) :
 Calls prog 302 #[v.val,iV p,iV id] w (PS X H w (fun v (r:Unit) (s:Int × Int)=>.tuple #[v.val,iV s.1,iV s.2]) () (rpS D p id) (u+8) (fun (_:Unit) (s:Int × Int)=>J1 s.1∧J1 s.2)):=by
 have M:=Sp.start hT hm
 refine zE (f:=302) fun _ F=>?_
 refine J0 (kBx F M [_,_,_] (k:=fun b1 w M=>zk fun _ F=>?_))
 refine J0 (kAl F M JA [_,_,_] (k:=fun b2 w M=>zk fun _ F=>?_))
 refine Jc [(_,[_,_,_],_)] [] [] [0,1,2,3,4,5,6,7,8] M (hd1 M.at' 1) mixed zK fun w M hS=>?_
 refine zr2 fun _ F=>?_
 refine J2 rfl rfl (kQ F M (hc:=J3w M.st.nil.tb) (k:=fun s3 w q3 m M=>kB m (zkN fun _ F=>?_)))
 refine J2 rfl rfl (kS F M (hc:=J0P M.tb M.v) (k:=fun v s4 w q4 M=>kF (zkN fun _ F=>?_)))
 refine J2 rfl rfl (kW F M 1 [_,_,_] [_,_] (k:=fun w M=>kF (zkN fun _ F=>?_)))
 refine zG F (fun h5 F=>?_) fun h5 F=>?_
 ·refine zr2 fun _ F=>?_
  refine J0 (kW F M 1 [_,_,_] [_,_] (k:=fun w M=>zk fun _ F=>?_))
  refine Jg F (JQ rfl (zca F M.at' 0) (zta F) (zta F)) ?_
  exact zfS M () (_,_) (⟨ya,ya⟩) (by rw [rpS,if_pos h5])
 refine zr2 fun _ F=>?_
 refine zi F (fun h6=>?_) fun h6=>?_
 ·refine zr2 fun _ F=>?_
  refine J0 (kW F M 1 [_,_,_] [_,_] (k:=fun w M=>zk fun _ F=>?_))
  refine Jg F (JQ rfl (zca F M.at' 0) (zta F) (zta F)) ?_
  exact zfS M () (_,_) (⟨ya,ya⟩) (by rw [rpS,if_neg h5,if_pos h6])
 refine zr2 fun _ F=>?_
 refine J0 (kS F M (hc:=J78 M.tb M.v) (k:=fun v s7 w q7 M=>zk fun _ F=>?_))
 refine J0 (kW F M 0 [_,_,_] [_,_] (k:=fun w M=>zk fun _ F=>?_))
 refine zi F (fun h8=>?_) fun h8=>?_
 ·refine zr2 fun _ F=>?_
  refine J0 (kW F M 1 [_,_,_] [_,_] (k:=fun w M=>zk fun _ F=>?_))
  refine Jg F (JQ rfl (zca F M.at' 0) (zta F) (zta F)) ?_
  exact zfS M () (_,_) (⟨ya,ya⟩) (by rw [rpS,if_neg h5,if_neg h6,if_pos h8])
 refine zr2 fun _ F=>?_
 refine zi F (fun h9=>?_) fun h9=>?_
 ·refine zr2 fun _ F=>?_
  refine J0 (kW F M 1 [_,_,_] [_,_] (k:=fun w M=>zk fun _ F=>?_))
  refine Jg F (JQ rfl (zca F M.at' 0) (zta F) (zta F)) ?_
  exact zfS M () (_,_) (⟨ya,ya⟩) (by rw [rpS,if_neg h5,if_neg h6,if_neg h8,if_neg h9])
 refine zr2 fun _ F=>?_
 refine Jc [(_,[_,_,_],_)] [] [] [0,1,2,3,4,5,6,7,8] M (hd1 M.at' 0) mixed zK fun w M hS=>?_
 refine zr2 fun _ F=>?_
 refine J2 rfl rfl (kQ F M (hc:=J3w M.st.nil.tb) (k:=fun s10 w q10 m M=>kB m (zkN fun _ F=>?_)))
 refine J2 rfl rfl (kS F M (hc:=J0P M.tb M.v) (k:=fun v s11 w q11 M=>kF (zkN fun _ F=>?_)))
 refine J2 rfl rfl (kW F M 0 [_,_,_] [_,_] (k:=fun w M=>kF (zkN fun _ F=>?_)))
 refine Jc [(_,[_,_,_],_)] [] [] [0,1,4,5,2,3,6,7,8] M (hd1 M.at' 0) mixed zK fun w M hS=>?_
 refine zr2 fun _ F=>?_
 refine J2 rfl rfl (kQ F M (hc:=J3w M.st.nil.tb) (k:=fun s12 w q12 m M=>kB m (zkN fun _ F=>?_)))
 refine J2 rfl rfl (kS F M (hc:=Jba M.tb M.v) (k:=fun v s13 w q13 M=>kF (zkN fun _ F=>?_)))
 refine J2 rfl rfl (kW F M 1 [_,_,_] [_,_] (k:=fun w M=>kF (zkN fun _ F=>?_)))
 refine Jg F (JQ rfl (zca F M.at' 0) (zta F) (zta F)) ?_
 exact zfS M () (_,_) (⟨ya,ya⟩) (by rw [rpS,if_neg h5,if_neg h6,if_neg h8,if_pos (Decidable.not_not.1 h9)])
theorem JdQ {id:Int} (hT:TbO w []) (hm:RM X H w v D u) (hu:u+1≤68718428160:=by omega) (h_id:J1 id:=by exact ym) :
 Calls prog 301 #[v.val,iV id] w (PS X H w (fun v (r:Unit) (s:Unit)=>v.val) () (J1Y D (kPg id)) (u+1) noq):=by
 have M:=Sp.start hT hm
 refine zE (f:=301) fun _ F=>?_
 refine J0 (kBx F M [_,_,_] (k:=fun b1 w M=>zk fun _ F=>?_))
 refine J0 (kAl F M JA [_,_,_] (k:=fun b2 w M=>zk fun _ F=>?_))
 refine Jc [(_,[_,_,_],_)] [] [] [0,1,2,3,4] M (hd1 M.at' 1) mixed zK fun w M hS=>?_
 refine zr2 fun _ F=>?_
 refine J2 rfl rfl (kQ F M (hc:=J9f M.st.nil.tb) (k:=fun s3 w q3 m M=>kB m (zkN fun _ F=>?_)))
 refine J2 rfl rfl (kS F M (hc:=Jba M.tb M.v) (k:=fun v s4 w q4 M=>kF (zkN fun _ F=>?_)))
 refine J2 rfl rfl (kW F M 0 [_,_,_] [_,_] (k:=fun w M=>kF (zkN fun _ F=>?_)))
 refine zdc F M.at' 0 ?_
 exact zfS M () () (trivial) (rfl)
theorem JhX {n:Int} (hT:TbO w []) (hm:RM X H w v D u) (hu:u+4≤68718428160:=by omega) (h_n:J1 n:=by exact ym) :
 Calls prog 227 #[v.val,iV n] w (PS X H w (fun v (r:Unit) (s:Int × Int)=>.tuple #[v.val,iV s.1,iV s.2]) () (tkS D n) (u+4) (fun (_:Unit) (s:Int × Int)=>J1 s.1∧J1 s.2)):=by
 have M:=Sp.start hT hm
 refine zE (f:=227) fun _ F=>?_
 refine J0 (kBx F M [_,_,_] (k:=fun b1 w M=>zk fun _ F=>?_))
 refine J0 (kAl F M JA [_,_,_] (k:=fun b2 w M=>zk fun _ F=>?_))
 refine zi F (fun h3=>?_) fun h3=>?_
 ·refine zr2 fun _ F=>?_
  refine J0 (kW F M 0 [_,_,_] [_,_] (k:=fun w M=>zk fun _ F=>?_))
  refine Jg F (JQ rfl (zca F M.at' 0) (zta F) (zta F)) ?_
  exact zfS M () (_,_) (⟨ya,ya⟩) (by rw [tkS,if_pos h3])
 refine zr2 fun _ F=>?_
 refine J0 (kS F M (hc:=J0P M.tb M.v) (k:=fun v s4 w q4 M=>zk fun _ F=>?_))
 refine J0 (kW F M 1 [_,_,_] [_,_] (k:=fun w M=>zk fun _ F=>?_))
 refine zi F (fun h5=>?_) fun h5=>?_
 ·refine zr2 fun _ F=>?_
  refine J0 (kW F M 1 [_,_,_] [_,_] (k:=fun w M=>zk fun _ F=>?_))
  refine Jg F (JQ rfl (zca F M.at' 0) (zta F) (zta F)) ?_
  exact zfS M () (_,_) (⟨ya,ya⟩) (by rw [tkS,if_neg h3,if_pos h5])
 refine zr2 fun _ F=>?_
 refine J0 (kS F M (hc:=J0N M.tb M.v) (k:=fun v s6 w q6 M=>zk fun _ F=>?_))
 refine J0 (kW F M 0 [_,_,_] [_,_] (k:=fun w M=>zk fun _ F=>?_))
 refine J0 (kUS F M (hc:=J5u M.tb M.v) (k:=fun v s7 w q7 M=>zk fun _ F=>?_))
 refine J0 (kW F M 1 [_,_,_] [_,_,_] (k:=fun w M=>zk fun _ F=>?_))
 have hq8:=q7.le
 have M:=M.ext (ks:=Jt (JG D (⟨#[99,47,99,108,111,99,107]⟩:ByteArray) (Ja D (⟨#[99,47,99,108,111,99,107]⟩:ByteArray)+n)) (⟨#[116,47]⟩:ByteArray)) J3V
 have F:=F.cut (m':=[(10,_),(9,_),(1,_),(2,_),(4,_),(5,_),(6,_),(13,_),(7,_),(23,_),(8,_)]) rfl
 refine J1e (γ:=(Nat × Nat) × MV) (slots:=fun g=>[(10,nV g.1.1),(9,nV g.1.2)]) (LL:=fun g=>[bx b1 [g.2.S,g.2.R,g.2.W] 210,owK s7 (Jt (JG D (⟨#[99,47,99,108,111,99,107]⟩:ByteArray) (Ja D (⟨#[99,47,99,108,111,99,107]⟩:ByteArray)+n)) (⟨#[116,47]⟩:ByteArray)),bx b2 [sN,sN,sN] 210]) (vv:=fun g=>g.2) (DD:=fun g=>tkA (Ja D (⟨#[99,47,99,108,111,99,107]⟩:ByteArray)+n) ((Jt (JG D (⟨#[99,47,99,108,111,99,107]⟩:ByteArray) (Ja D (⟨#[99,47,99,108,111,99,107]⟩:ByteArray)+n)) (⟨#[116,47]⟩:ByteArray)).take g.1.1) (JG D (⟨#[99,47,99,108,111,99,107]⟩:ByteArray) (Ja D (⟨#[99,47,99,108,111,99,107]⟩:ByteArray)+n))) (uu:=fun _=>(u+3)) (pr:=fun g=>g.1.1≤s7.n∧g.1.2≤g.1.1) (g0:=((0,0),v)) (fun g=>s7.n - g.1.1) F M (⟨Nat.zero_le _,Nat.le_refl _⟩) fun g a w F M hp=>?_
 refine zr2 fun _ F=>?_
 refine zi F (fun h9=>?_) fun h9=>?_
 ·refine zr2 fun _ F=>?_
  refine Jc [(_,[_,_,_],_)] [rdK s7 _] [] [0,1,2,3,4,5,6,7,8,9,10] M (HdK.one M.at' 1 rfl (HdS.cons M.at' 0 rfl HdS.nil)) mixed zK fun w M hS=>?_
  refine zr2 fun _ F=>?_
  refine nEl (s:=s7) F hS ET_44 0 g.1.1 zO (kk:=fun x10 _ hx10 ok10=>zkN fun _ F=>?_)
  have hz10:=q7.sz _ (Jm hx10)
  have hg10:=J2E (q7.bg _ (Jm hx10))
  refine J2 rfl rfl (kS F M (hc:=J4I M.tb M.v (p0:=J35 hx10)) (k:=fun v s11 w q11 M=>kF (zkN fun _ F=>?_)))
  refine J2 rfl rfl (kW F M 0 [_,_,_] [_,_,_] (k:=fun w M=>kF (zkN fun _ F=>?_)))
  refine zi F (fun h12=>?_) fun h12=>?_
  ·refine zr2 fun _ F=>?_
   refine Jc [(_,[_,_,_],_)] [rdK s7 _] [] [0,1,2,3,4,5,6] M (HdK.one M.at' 1 rfl (HdS.cons M.at' 0 rfl HdS.nil)) mixed zK fun w M hS=>?_
   refine zr2 fun _ F=>?_
   refine JbQ (s:=s7) F hS ET_44 0 g.1.1 zO hx10 (kk:=fun _ ok13=>zkN fun _ F=>?_)
   refine J2 rfl rfl (kS F M (hc:=J5z (J35 hx10) (.inl rfl) M.tb M.v) (k:=fun v s14 w q14 M=>kF (zkN fun _ F=>?_)))
   refine J2 rfl rfl (kW F M 0 [_,_,_] [_,_,_] (k:=fun w M=>kF (zkN fun _ F=>?_)))
   refine Jc [(_,[_,_,_],_)] [rdK s7 _] [] [0,1,2,3,4,5,6,7,8,9,10,11] M (HdK.one M.at' 1 rfl (HdS.cons M.at' 0 rfl HdS.nil)) mixed zK fun w M hS=>?_
   refine zr2 fun _ F=>?_
   refine JbQ (s:=s7) F hS ET_44 0 g.1.1 zO hx10 (kk:=fun _ ok15=>zkN fun _ F=>?_)
   refine nSl F (2) yBj (k:=fun he16=>zkN fun _ F=>?_)
   refine J2 rfl rfl (kQ F M (hc:=J4x M.st.nil.tb) (k:=fun s17 w q17 m M=>kB m (zkN fun _ F=>?_)))
   refine J2 rfl rfl (kS F M (hc:=JgP M.tb M.v (p0:=Jb5 (by assumption))) (k:=fun v s18 w q18 M=>kH (HdK.one M.at' 1 rfl (HdS.cons M.at' 0 rfl HdS.nil)) (zkN fun _ F=>?_)))
   refine J2 rfl rfl (kW F M 0 [_,_,_] [_,_,_] (k:=fun w M=>kF (zkN fun _ F=>?_)))
   exact Jw ((g.1.1+1,g.1.2+1),v) (by dsimp only;omega) ⟨F.cut rfl,M.cast (Jb8 hx10 (by omega)),by dsimp only;omega⟩
  refine zr2 fun _ F=>?_
  exact Jw ((g.1.1+1,g.1.2),v) (by dsimp only;omega) ⟨F.cut rfl,M.cast (Jb9 hx10 (by omega)),by dsimp only;omega⟩
 refine zr2 fun _ F=>?_
 have M:=M.unext
 refine J0 (kW F M 2 [_,_,_] [_,_,_] (k:=fun w M=>zk fun _ F=>?_))
 refine Jg F (JQ rfl (zca F M.at' 0) (zta F) (zta F)) ?_
 exact zfS M () (_,_) (⟨ya,ya⟩) (by rw [tkS,if_neg h3,if_neg h5,J5n q7.n h9])
end
set_option maxRecDepth 100000
set_option maxHeartbeats 1000000
section
set_option maxHeartbeats 8000000
variable {X:Uni} {w:World} {b u:Nat} {v:MV} {D:List CellD} {H:Nat→Prop}
theorem JdE {f:ByteArray} {t:ByteArray} (hT:TbO w []) (hm:RM X H w v D u) (hu:u+20≤68718428160:=by omega) (h_f:okS f:=by exact yi) (h_t:okS t:=by exact yi) :
 Calls prog 218 #[v.val,.string f,.string t] w (PS X H w (fun v (r:Unit) (s:Int)=>.tuple #[v.val,iV s]) () (rnS D f t) (u+20) (fun (_:Unit) (s:Int)=>J1 s)):=by
 have M:=Sp.start hT hm
 refine zE (f:=218) fun _ F=>?_
 refine J0 (kBx F M [_,_,_] (k:=fun b1 w M=>zk fun _ F=>?_))
 refine J0 (kAl F M JA [_,_,_] (k:=fun b2 w M=>zk fun _ F=>?_))
 refine J0 (kQ F M (hc:=J40 M.st.nil.tb) (k:=fun s3 w q3 m M=>zk fun _ F=>?_))
 refine zGb F (fun h4 F=>?_) fun h4 F=>?_
 ·refine zr2 fun _ F=>?_
  refine J0 (kW F M 0 [_,_,_] [_,_] (k:=fun w M=>zk fun _ F=>?_))
  refine zde F M.at' 0 ?_
  exact zfS M () _ ya (by rw [rnS,if_pos h4])
 have hi4:=J1m (nf h4);refine zr2 fun _ F=>?_
 refine J0 (kQ F M (hc:=J40 M.st.nil.tb) (k:=fun s5 w q5 m M=>zk fun _ F=>?_))
 refine zib F (fun h6=>?_) fun h6=>?_
 ·refine zr2 fun _ F=>?_
  refine J0 (kW F M 0 [_,_,_] [_,_] (k:=fun w M=>zk fun _ F=>?_))
  refine zde F M.at' 0 ?_
  exact zfS M () _ ya (by rw [rnS,iFb h4,if_pos h6])
 have hi6:=J1m (nf h6);refine zr2 fun _ F=>?_
 refine J0 (kS F M (hc:=J3W M.tb M.v) (k:=fun v s7 w q7 M=>zk fun _ F=>?_))
 refine J0 (kW F M 1 [_,_,_] [_,_] (k:=fun w M=>zk fun _ F=>?_))
 refine zi F (fun h8=>?_) fun h8=>?_
 ·refine zr2 fun _ F=>?_
  refine J0 (kW F M 1 [_,_,_] [_,_] (k:=fun w M=>zk fun _ F=>?_))
  refine zde F M.at' 0 ?_
  exact zfS M () _ ya (by rw [rnS,iFb h4,iFb h6,if_pos h8])
 refine zr2 fun _ F=>?_
 refine J0 (kS F M (hc:=J3W M.tb M.v) (k:=fun v s9 w q9 M=>zk fun _ F=>?_))
 refine J0 (kW F M 0 [_,_,_] [_,_] (k:=fun w M=>zk fun _ F=>?_))
 refine zi F (fun h10=>?_) fun h10=>?_
 ·refine zr2 fun _ F=>?_
  refine J0 (kW F M 1 [_,_,_] [_,_] (k:=fun w M=>zk fun _ F=>?_))
  refine zde F M.at' 0 ?_
  exact zfS M () _ ya (by rw [rnS,iFb h4,iFb h6,if_neg h8,if_pos h10])
 refine zr2 fun _ F=>?_
 refine zi F (fun h11=>?_) fun h11=>?_
 ·refine zr2 fun _ F=>?_
  refine J0 (kS F M (hc:=unlinkName_s M.tb M.v) (k:=fun v s12 w q12 M=>zk fun _ F=>?_))
  refine J0 (kW F M 0 [_,_,_] [_,_] (k:=fun w M=>zk fun _ F=>?_))
  refine J0 (kS F M (hc:=J0N M.tb M.v) (k:=fun v s13 w q13 M=>zk fun _ F=>?_))
  refine J0 (kW F M 0 [_,_,_] [_,_] (k:=fun w M=>zk fun _ F=>?_))
  refine J0 (kS F M (hc:=J1I nmp M.tb M.v) (k:=fun v s14 w q14 M=>zk fun _ F=>?_))
  refine J0 (kW F M 1 [_,_,_] [_,_] (k:=fun w M=>zk fun _ F=>?_))
  refine zde F M.at' 0 ?_
  exact zfS M () _ ya (by rw [rnS,iFb h4,iFb h6,if_neg h8,if_neg h10,if_pos h11])
 refine zr2 fun _ F=>?_
 refine J0 (kS F M (hc:=J0N M.tb M.v) (k:=fun v s15 w q15 M=>zk fun _ F=>?_))
 refine J0 (kW F M 0 [_,_,_] [_,_] (k:=fun w M=>zk fun _ F=>?_))
 refine J0 (kS F M (hc:=J1I nmp M.tb M.v) (k:=fun v s16 w q16 M=>zk fun _ F=>?_))
 refine J0 (kW F M 1 [_,_,_] [_,_] (k:=fun w M=>zk fun _ F=>?_))
 refine zde F M.at' 0 ?_
 exact zfS M () _ ya (by rw [rnS,iFb h4,iFb h6,if_neg h8,if_neg h10,if_neg h11])
end
end Go.Proofs.YtipdbeklopjbmaaGreatDoor
