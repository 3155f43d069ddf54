/-
  Walks: the reference's machine, as one piece.
-/
import Derived.Test.YtipdbeklopjbmaaGreatDoorP15
set_option linter.unusedVariables false
set_option linter.unusedSimpArgs false
namespace Go.Proofs.YtipdbeklopjbmaaGreatDoor
open Go.ChangeShapes Go.WideShapes Go.ChangeAt Go.RowKit
set_option maxRecDepth 100000
set_option maxHeartbeats 1000000
section
set_option maxHeartbeats 8000000
variable {X:Uni} {w:World} {b u:Nat} {v:MV} {D:List CellD} {H:Nat→Prop}
theorem within_s {n:Int} {lo:Int} {hi:Int} (hT:TbO w []) (h_n:i64ok n:=by exact zI6) (h_lo:i64ok lo:=by exact zI6) (h_hi:i64ok hi:=by exact zI6) :
 Calls Tryz.prog 87 #[.int .i64 n,.int .i64 lo,.int .i64 hi] w (PO w (fun (s:Unit)=>.bool (inB n lo hi)) (fun _=>True)):=by
 refine (spec_l01In_c (H:=fun _=>True) h_n h_lo h_hi).mono ?_
 rintro e w' ⟨rfl,m⟩
 exact ⟨(),rfl,m,trivial⟩
theorem nameOk_s {key:ByteArray} (hT:TbO w []) (h_key:okS key:=by exact zI4) :
 Calls Tryz.prog 281 #[.string key] w (PO w (fun (s:Unit)=>.bool (nameOk key)) (fun _=>True)):=by
 refine (spec_NameOk_c (H:=fun _=>True) h_key).mono ?_
 rintro e w' ⟨rfl,m⟩
 exact ⟨(),rfl,m,trivial⟩
theorem keyNum_s {hd:ByteArray} {n:Int} {tl:ByteArray} (hT:TbO w []) (h_hd:okS hd:=by exact zI4) (h_n:i64ok n:=by exact zI6) (h_tl:okS tl:=by exact zI4) (p0:hd.size≤1000:=by first|decide|assumption|exact ksz zI6 (by decide)) (p1:tl.size≤1000:=by first|decide|assumption|exact ksz zI6 (by decide)) :
 Calls Tryz.prog 283 #[.string hd,.int .i64 n,.string tl] w (PO w (fun (s:Unit)=>.string (keyNum hd n tl)) (fun _=>okS (keyNum hd n tl))):=by
 refine (spec_KeyNum_c (H:=fun _=>True) h_hd h_n h_tl p0 p1).mono ?_
 rintro e w' ⟨rfl,m,ok⟩
 exact ⟨(),rfl,m,ok⟩
theorem hex_s {x:ByteArray} (hT:TbO w []) (h_x:okS x:=by exact zI4) (p0:x.size≤20000:=by omega) :
 Calls Tryz.prog 145 #[.string x] w (PO w (fun (s:Unit)=>.tuple #[.string (hexS x),.bool true]) (fun _=>(hexS x).size=2 * x.size)):=by
 refine (spec_Hex_c (H:=fun _=>True) h_x p0).mono ?_
 rintro e w' ⟨rfl,m,ok⟩
 exact ⟨(),rfl,m,hexS_size _⟩
theorem numOf_s {x:ByteArray} (hT:TbO w []) (h_x:okS x:=by exact zI4) :
 Calls Tryz.prog 297 #[.string x] w (PO w (fun (s:Unit)=>.int .i64 ((numOf x:Nat):Int)) (fun _=>numOf x≤999)):=by
 refine (spec_NumOf_c (H:=fun _=>True) h_x).mono ?_
 rintro e w' ⟨rfl,m⟩
 exact ⟨(),rfl,m,numOf_le _⟩
theorem unhex_s {x:ByteArray} (hT:TbO w []) (h_x:okS x:=by exact zI4) :
 Calls Tryz.prog 135 #[.string x] w (PO w (fun (s:Unit)=>.tuple #[.string (unhexT x),.bool (unhexB x)]) (fun _=>okS (unhexT x))):=by
 refine (spec_Unhex_c (H:=fun _=>True) h_x).mono ?_
 rintro e w' ⟨rfl,m,ok⟩
 exact ⟨(),rfl,m,ok⟩
theorem dec_s {n:Int} (hT:TbO w []) (h_n:i64ok n:=by exact zI6) :
 Calls Tryz.prog 144 #[.int .i64 n] w (PO w (fun (s:Unit)=>.string (decS n)) (fun _=>okS (decS n))):=by
 refine (spec_Decimal_c (H:=fun _=>True) h_n).mono ?_
 rintro e w' ⟨rfl,m,ok⟩
 exact ⟨(),rfl,m,ok⟩
theorem l08Key_s {id:Int} {tl:ByteArray} (hT:TbO w []) (h_id:i64ok id:=by exact zI6) (h_tl:okS tl:=by exact zI4) (p0:tl.size≤1000:=by first|decide|assumption|exact ksz zI6 (by decide)) :
 Calls Tryz.prog 290 #[.int .i64 id,.string tl] w (PO w (fun (s:Unit)=>.string (kP id tl)) (fun _=>okS (kP id tl))):=by
 have M:St [] w [] w:=⟨Mv.refl (At.nil _),hT⟩
 refine zE (f:=290) fun _ F=>?_
 refine l_op (kO F M (hc:=keyNum_s M.nil.tb) (k:=fun s1 w q1 M=>zk fun _ F=>?_))
 refine x_done F (results_1 rfl (zta F)) ?_
 exact ⟨(),rfl,M.mv,(by assumption)⟩
theorem l09Key_s {id:Int} {tl:ByteArray} (hT:TbO w []) (h_id:i64ok id:=by exact zI6) (h_tl:okS tl:=by exact zI4) (p0:tl.size≤1000:=by first|decide|assumption|exact ksz zI6 (by decide)) :
 Calls Tryz.prog 265 #[.int .i64 id,.string tl] w (PO w (fun (s:Unit)=>.string (kR id tl)) (fun _=>okS (kR id tl))):=by
 have M:St [] w [] w:=⟨Mv.refl (At.nil _),hT⟩
 refine zE (f:=265) fun _ F=>?_
 refine l_op (kO F M (hc:=keyNum_s M.nil.tb) (k:=fun s1 w q1 M=>zk fun _ F=>?_))
 refine x_done F (results_1 rfl (zta F)) ?_
 exact ⟨(),rfl,M.mv,(by assumption)⟩
theorem l10Key_s {id:Int} {tl:ByteArray} (hT:TbO w []) (h_id:i64ok id:=by exact zI6) (h_tl:okS tl:=by exact zI4) (p0:tl.size≤1000:=by first|decide|assumption|exact ksz zI6 (by decide)) :
 Calls Tryz.prog 294 #[.int .i64 id,.string tl] w (PO w (fun (s:Unit)=>.string (kG id tl)) (fun _=>okS (kG id tl))):=by
 have M:St [] w [] w:=⟨Mv.refl (At.nil _),hT⟩
 refine zE (f:=294) fun _ F=>?_
 refine l_op (kO F M (hc:=keyNum_s M.nil.tb) (k:=fun s1 w q1 M=>zk fun _ F=>?_))
 refine x_done F (results_1 rfl (zta F)) ?_
 exact ⟨(),rfl,M.mv,(by assumption)⟩
theorem l08Message_s {id:Int} {k:Int} (hT:TbO w []) (h_id:i64ok id:=by exact zI6) (h_k:i64ok k:=by exact zI6) :
 Calls Tryz.prog 292 #[.int .i64 id,.int .i64 k] w (PO w (fun (s:Unit)=>.string (kPq id k)) (fun _=>okS (kPq id k))):=by
 have M:St [] w [] w:=⟨Mv.refl (At.nil _),hT⟩
 refine zE (f:=292) fun _ F=>?_
 refine l_op (kO F M (hc:=l08Key_s M.nil.tb) (k:=fun s1 w q1 M=>zk fun _ F=>?_))
 refine l_op (kO F M (hc:=keyNum_s M.nil.tb) (k:=fun s2 w q2 M=>zk fun _ F=>?_))
 refine x_done F (results_1 rfl (zta F)) ?_
 exact ⟨(),rfl,M.mv,(by assumption)⟩
theorem l10Signal_s {id:Int} {k:Int} (hT:TbO w []) (h_id:i64ok id:=by exact zI6) (h_k:i64ok k:=by exact zI6) :
 Calls Tryz.prog 295 #[.int .i64 id,.int .i64 k] w (PO w (fun (s:Unit)=>.string (kGq id k)) (fun _=>okS (kGq id k))):=by
 have M:St [] w [] w:=⟨Mv.refl (At.nil _),hT⟩
 refine zE (f:=295) fun _ F=>?_
 refine l_op (kO F M (hc:=l10Key_s M.nil.tb) (k:=fun s1 w q1 M=>zk fun _ F=>?_))
 refine l_op (kO F M (hc:=keyNum_s M.nil.tb) (k:=fun s2 w q2 M=>zk fun _ F=>?_))
 refine x_done F (results_1 rfl (zta F)) ?_
 exact ⟨(),rfl,M.mv,(by assumption)⟩
theorem l07Block_s {id:Int} {k:Int} (hT:TbO w []) (h_id:i64ok id:=by exact zI6) (h_k:i64ok k:=by exact zI6) :
 Calls Tryz.prog 347 #[.int .i64 id,.int .i64 k] w (PO w (fun (s:Unit)=>.string (kIb id k)) (fun _=>okS (kIb id k))):=by
 have M:St [] w [] w:=⟨Mv.refl (At.nil _),hT⟩
 refine zE (f:=347) fun _ F=>?_
 refine l_op (kO F M (hc:=keyNum_s M.nil.tb) (k:=fun s1 w q1 M=>zk fun _ F=>?_))
 refine l_op (kO F M (hc:=keyNum_s M.nil.tb) (k:=fun s2 w q2 M=>zk fun _ F=>?_))
 refine x_done F (results_1 rfl (zta F)) ?_
 exact ⟨(),rfl,M.mv,(by assumption)⟩
theorem l11Head_s {id:Int} (hT:TbO w []) (h_id:i64ok id:=by exact zI6) :
 Calls Tryz.prog 298 #[.int .i64 id] w (PO w (fun (s:Unit)=>.string (kPg id)) (fun _=>okS (kPg id))):=by
 have M:St [] w [] w:=⟨Mv.refl (At.nil _),hT⟩
 refine zE (f:=298) fun _ F=>?_
 refine l_op (kO F M (hc:=keyNum_s M.nil.tb) (k:=fun s1 w q1 M=>zk fun _ F=>?_))
 refine x_done F (results_1 rfl (zta F)) ?_
 exact ⟨(),rfl,M.mv,(by assumption)⟩
theorem wipe_s {pfx:ByteArray} (hT:TbO w []) (hm:RM X H w v D u) (hu:u+1≤68718428160:=by omega) (h_pfx:okS pfx:=by exact zI4) (p0:pfx.size≤1000000:=by first|omega|exact Nat.le_trans (ksz zI6 (by decide)) (by decide)) :
 Calls Tryz.prog 285 #[v.val,.string pfx] w (PS X H w (fun v (r:Unit) (s:Unit)=>v.val) () (wipeS D pfx) (u+1) noq):=by
 have M:=Sp.start hT hm
 refine zE (f:=285) fun _ F=>?_
 refine l_op (kBx F M [_,_,_] (k:=fun b1 w M=>zk fun _ F=>?_))
 refine l_op (kAl F M ZI_210 [_,_,_] (k:=fun b2 w M=>zk fun _ F=>?_))
 refine l_op (kUS F M (hc:=under_s M.tb M.v) (k:=fun v s3 w q3 M=>zk fun _ F=>?_))
 refine l_op (kW F M 2 [_,_,_] [_,_,_] (k:=fun w M=>zk fun _ F=>?_))
 have hq4:=q3.le
 have M:=M.ext (ks:=keysUnder D pfx) under_knw
 have F:=F.cut (m':=[(6,_),(2,_),(4,_),(5,_)]) rfl
 refine kLoopS (γ:=Nat × MV) (slots:=fun g=>[(6,.int .i64 ((g.1:Nat):Int))]) (LL:=fun g=>[bx b1 [g.2.S,g.2.R,g.2.W] 210,owK s3 (keysUnder D pfx),bx b2 [.slice none 0 0,.slice none 0 0,.slice none 0 0] 210]) (vv:=fun g=>g.2) (DD:=fun g=>delA ((keysUnder D pfx).take g.1) D) (uu:=fun _=>(u+1)) (pr:=fun g=>g.1≤s3.n) (g0:=(0,v)) (fun g=>s3.n - g.1) F M (Nat.zero_le _) fun g a w F M hp=>?_
 refine zr2 fun _ F=>?_
 refine zi F (fun h5=>?_) fun h5=>?_
 ·refine zr2 fun _ F=>?_
  refine x_rdS [(_,[_,_,_],_)] [rdK s3 _] [] [0,1,2,3,4,5,6] M (HdK.one M.at' 1 rfl (HdS.cons M.at' 0 rfl HdS.nil)) mixed (by kernel_rfl) fun w M hS=>?_
  refine zr2 fun _ F=>?_
  refine nEl (s:=s3) F hS ET_44 0 g.1 (by omega) (kk:=fun x6 _ hx6 ok6=>zkN fun _ F=>?_)
  have hz6:=q3.sz _ (nth_mem hx6)
  have hg6:=begins_le (q3.bg _ (nth_mem hx6))
  refine n_op rfl rfl (kS F M (hc:=lay_si (ext_knw hx6) (.inl rfl) M.tb M.v) (k:=fun v s7 w q7 M=>kF (zkN fun _ F=>?_)))
  refine n_op rfl rfl (kW F M 0 [_,_,_] [_,_,_] (k:=fun w M=>kF (zkN fun _ F=>?_)))
  exact lend (g.1+1,v) (by dsimp only;omega) ⟨F.cut rfl,M.cast (delA_step hx6),by dsimp only;omega⟩
 ·refine zr2 fun _ F=>?_
  have M:=M.unext
  refine l_op (kW F M 2 [_,_,_] [_,_,_] (k:=fun w M=>zk fun _ F=>?_))
  refine x_done F (results_1 rfl (zca F M.at' 0)) ?_
  exact zfS M () () (trivial) (by rw [wipeS,take_all q3.n h5])
theorem num_s {key:ByteArray} (hT:TbO w []) (hm:RM X H w v D u) (hu:u+1≤68718428160:=by omega) (h_key:okS key:=by exact zI4) :
 Calls Tryz.prog 262 #[v.val,.string key] w (PS X H w (fun v (r:Int) (s:Unit)=>.tuple #[v.val,.int .i64 r]) (numI D key) D (u+1) (fun (r:Int) (_:Unit)=>0≤r∧r≤999)):=by
 have M:=Sp.start hT hm
 refine zE (f:=262) fun _ F=>?_
 refine l_op (kBx F M [_,_,_] (k:=fun b1 w M=>zk fun _ F=>?_))
 refine l_op (kAl F M ZI_210 [_,_,_] (k:=fun b2 w M=>zk fun _ F=>?_))
 refine l_op (kS F M (hc:=look_s M.tb M.v) (k:=fun v s3 w q3 M=>zk fun _ F=>?_))
 refine l_op (kW F M 1 [_,_,_] [_,_] (k:=fun w M=>zk fun _ F=>?_))
 refine x_rdS [(_,[_,_,_],_)] [] [] [0,1,2,3,4] M (HdK.none (HdS.cons M.at' 0 rfl HdS.nil)) mixed (by kernel_rfl) fun w M hS=>?_
 refine zr2 fun _ F=>?_
 refine n_op rfl rfl (kQ F M (hc:=numOf_s M.st.nil.tb) (k:=fun s4 w q4 m M=>kB m (zkN fun _ F=>?_)))
 refine n_op rfl rfl (kW F M 1 [_,_,_] [_,_] (k:=fun w M=>kF (zkN fun _ F=>?_)))
 refine x_done F (results_2 rfl (zca F M.at' 0) (zta F)) ?_
 exact zfS M _ () (⟨by omega,by omega⟩) (rfl)
theorem setNum_s {key:ByteArray} {n:Int} (hT:TbO w []) (hm:RM X H w v D u) (hu:u+1≤68718428160:=by omega) (h_key:okS key:=by exact zI4) (h_n:i64ok n:=by exact zI6) (p0:npg X key:=by exact nmp) :
 Calls Tryz.prog 264 #[v.val,.string key,.int .i64 n] w (PS X H w (fun v (r:Unit) (s:Unit)=>v.val) () (setS D key n) (u+1) noq):=by
 have M:=Sp.start hT hm
 refine zE (f:=264) fun _ F=>?_
 refine l_op (kBx F M [_,_,_] (k:=fun b1 w M=>zk fun _ F=>?_))
 refine l_op (kAl F M ZI_210 [_,_,_] (k:=fun b2 w M=>zk fun _ F=>?_))
 refine l_op (kQ F M (hc:=within_s M.st.nil.tb) (k:=fun s3 w q3 m M=>zk fun _ F=>?_))
 refine zib F (fun h4=>?_) fun h4=>?_
 ·refine zr2 fun _ F=>?_
  refine l_op (kS F M (hc:=lay_s p0 M.tb M.v) (k:=fun v s5 w q5 M=>zk fun _ F=>?_))
  refine l_op (kW F M 0 [_,_,_] [_,_] (k:=fun w M=>zk fun _ F=>?_))
  refine x_done F (results_1 rfl (zca F M.at' 0)) ?_
  exact zfS M () () (trivial) (by rw [setS,numV,if_neg (nF' h4)])
 ·have hi4:=inB_bd (nf h4);refine zr2 fun _ F=>?_
  refine x_rdS [(_,[_,_,_],_)] [] [] [0,1,2,3,4,5] M (HdK.none (HdS.cons M.at' 1 rfl HdS.nil)) mixed (by kernel_rfl) fun w M hS=>?_
  refine zr2 fun _ F=>?_
  refine n_op rfl rfl (kQ F M (hc:=dec_s M.st.nil.tb) (k:=fun s6 w q6 m M=>kB m (zkN fun _ F=>?_)))
  refine n_op rfl rfl (kS F M (hc:=lay_s p0 M.tb M.v) (k:=fun v s7 w q7 M=>kF (zkN fun _ F=>?_)))
  refine n_op rfl rfl (kW F M 0 [_,_,_] [_,_] (k:=fun w M=>kF (zkN fun _ F=>?_)))
  refine x_done F (results_1 rfl (zca F M.at' 0)) ?_
  exact zfS M () () (trivial) (by rw [setS,numV,if_pos (nf h4)])
theorem bump_s {key:ByteArray} (hT:TbO w []) (hm:RM X H w v D u) (hu:u+2≤68718428160:=by omega) (h_key:okS key:=by exact zI4) (p0:npg X key:=by exact nmp) :
 Calls Tryz.prog 263 #[v.val,.string key] w (PS X H w (fun v (r:Int) (s:Unit)=>.tuple #[v.val,.int .i64 r]) (bumpF D key).1 (bumpF D key).2 (u+2) (fun (r:Int) (_:Unit)=>0≤r∧r≤999)):=by
 have M:=Sp.start hT hm
 refine zE (f:=263) fun _ F=>?_
 refine l_op (kBx F M [_,_,_] (k:=fun b1 w M=>zk fun _ F=>?_))
 refine l_op (kAl F M ZI_210 [_,_,_] (k:=fun b2 w M=>zk fun _ F=>?_))
 refine l_op (kS F M (hc:=look_s M.tb M.v) (k:=fun v s3 w q3 M=>zk fun _ F=>?_))
 refine l_op (kW F M 1 [_,_,_] [_,_] (k:=fun w M=>zk fun _ F=>?_))
 refine l_op (kQ F M (hc:=numOf_s M.st.nil.tb) (k:=fun s4 w q4 m M=>zk fun _ F=>?_))
 refine zi F (fun h5=>?_) fun h5=>?_
 ·refine zr2 fun _ F=>?_
  refine l_op (kW F M 1 [_,_,_] [_,_] (k:=fun w M=>zk fun _ F=>?_))
  refine x_done F (results_2 rfl (zca F M.at' 0) (zta F)) ?_
  exact zfS M _ () (⟨by omega,by omega⟩) (by rw [bumpF,numI,if_pos h5])
 ·refine zr2 fun _ F=>?_
  refine x_rdS [(_,[_,_,_],_)] [] [] [0,1,2,5,3,4,6,7] M (HdK.none (HdS.cons M.at' 0 rfl HdS.nil)) mixed (by kernel_rfl) fun w M hS=>?_
  refine zr2 fun _ F=>?_
  refine n_op rfl rfl (kQ F M (hc:=dec_s M.st.nil.tb) (k:=fun s6 w q6 m M=>kB m (zkN fun _ F=>?_)))
  refine n_op rfl rfl (kS F M (hc:=lay_s p0 M.tb M.v) (k:=fun v s7 w q7 M=>kF (zkN fun _ F=>?_)))
  refine n_op rfl rfl (kW F M 1 [_,_,_] [_,_] (k:=fun w M=>kF (zkN fun _ F=>?_)))
  refine x_done F (results_2 rfl (zca F M.at' 0) (zta F)) ?_
  exact zfS M _ () (⟨by omega,by omega⟩) (by rw [bumpF,numI,if_neg h5,setS,numV_dec (by omega) (by omega)])
theorem num_si {key:ByteArray} (hT:TbO w []) (hm:RM X H w v D u) (hu:u+0≤68718428160:=by omega) (h_key:okS key:=by exact zI4) (p0:knw X D key:=by assumption) :
 Calls Tryz.prog 262 #[v.val,.string key] w (PS X H w (fun v (r:Int) (s:Unit)=>.tuple #[v.val,.int .i64 r]) (numI D key) D u (fun (r:Int) (_:Unit)=>0≤r∧r≤999)):=by
 have M:=Sp.start hT hm
 refine zE (f:=262) fun _ F=>?_
 refine l_op (kBx F M [_,_,_] (k:=fun b1 w M=>zk fun _ F=>?_))
 refine l_op (kAl F M ZI_210 [_,_,_] (k:=fun b2 w M=>zk fun _ F=>?_))
 refine l_op (kS F M (hc:=look_si p0 M.tb M.v) (k:=fun v s3 w q3 M=>zk fun _ F=>?_))
 refine l_op (kW F M 1 [_,_,_] [_,_] (k:=fun w M=>zk fun _ F=>?_))
 refine x_rdS [(_,[_,_,_],_)] [] [] [0,1,2,3,4] M (HdK.none (HdS.cons M.at' 0 rfl HdS.nil)) mixed (by kernel_rfl) fun w M hS=>?_
 refine zr2 fun _ F=>?_
 refine n_op rfl rfl (kQ F M (hc:=numOf_s M.st.nil.tb) (k:=fun s4 w q4 m M=>kB m (zkN fun _ F=>?_)))
 refine n_op rfl rfl (kW F M 1 [_,_,_] [_,_] (k:=fun w M=>kF (zkN fun _ F=>?_)))
 refine x_done F (results_2 rfl (zca F M.at' 0) (zta F)) ?_
 exact zfS M _ () (⟨by omega,by omega⟩) (rfl)
theorem setNum_si {key:ByteArray} {n:Int} (hT:TbO w []) (hm:RM X H w v D u) (hu:u+0≤68718428160:=by omega) (h_key:okS key:=by exact zI4) (h_n:i64ok n:=by exact zI6) (p0:knw X D key:=by assumption) (p1:npg X key:=by exact nmp) :
 Calls Tryz.prog 264 #[v.val,.string key,.int .i64 n] w (PS X H w (fun v (r:Unit) (s:Unit)=>v.val) () (setS D key n) u noq):=by
 have M:=Sp.start hT hm
 refine zE (f:=264) fun _ F=>?_
 refine l_op (kBx F M [_,_,_] (k:=fun b1 w M=>zk fun _ F=>?_))
 refine l_op (kAl F M ZI_210 [_,_,_] (k:=fun b2 w M=>zk fun _ F=>?_))
 refine l_op (kQ F M (hc:=within_s M.st.nil.tb) (k:=fun s3 w q3 m M=>zk fun _ F=>?_))
 refine zib F (fun h4=>?_) fun h4=>?_
 ·refine zr2 fun _ F=>?_
  refine l_op (kS F M (hc:=lay_si p0 (.inr p1) M.tb M.v) (k:=fun v s5 w q5 M=>zk fun _ F=>?_))
  refine l_op (kW F M 0 [_,_,_] [_,_] (k:=fun w M=>zk fun _ F=>?_))
  refine x_done F (results_1 rfl (zca F M.at' 0)) ?_
  exact zfS M () () (trivial) (by rw [setS,numV,if_neg (nF' h4)])
 ·have hi4:=inB_bd (nf h4);refine zr2 fun _ F=>?_
  refine x_rdS [(_,[_,_,_],_)] [] [] [0,1,2,3,4,5] M (HdK.none (HdS.cons M.at' 1 rfl HdS.nil)) mixed (by kernel_rfl) fun w M hS=>?_
  refine zr2 fun _ F=>?_
  refine n_op rfl rfl (kQ F M (hc:=dec_s M.st.nil.tb) (k:=fun s6 w q6 m M=>kB m (zkN fun _ F=>?_)))
  refine n_op rfl rfl (kS F M (hc:=lay_si p0 (.inr p1) M.tb M.v) (k:=fun v s7 w q7 M=>kF (zkN fun _ F=>?_)))
  refine n_op rfl rfl (kW F M 0 [_,_,_] [_,_] (k:=fun w M=>kF (zkN fun _ F=>?_)))
  refine x_done F (results_1 rfl (zca F M.at' 0)) ?_
  exact zfS M () () (trivial) (by rw [setS,numV,if_pos (nf h4)])
theorem state_si {id:Int} (hT:TbO w []) (hm:RM X H w v D u) (hu:u+0≤68718428160:=by omega) (h_id:i64ok id:=by exact zI6) (p0:sgK X id:=by assumption) :
 Calls Tryz.prog 213 #[v.val,.int .i64 id] w (PS X H w (fun v (r:Int) (s:Unit)=>.tuple #[v.val,.int .i64 r]) (numI D (kR id (⟨#[47,115]⟩:ByteArray))) D u (fun (r:Int) (_:Unit)=>0≤r∧r≤999)):=by
 have M:=Sp.start hT hm
 refine zE (f:=213) fun _ F=>?_
 refine l_op (kBx F M [_,_,_] (k:=fun b1 w M=>zk fun _ F=>?_))
 refine l_op (kAl F M ZI_210 [_,_,_] (k:=fun b2 w M=>zk fun _ F=>?_))
 refine x_rdS [(_,[_,_,_],_)] [] [] [0,1,2,3,4,5,6,7] M (HdK.none (HdS.cons M.at' 1 rfl HdS.nil)) mixed (by kernel_rfl) fun w M hS=>?_
 refine zr2 fun _ F=>?_
 refine n_op rfl rfl (kQ F M (hc:=l09Key_s M.st.nil.tb) (k:=fun s3 w q3 m M=>kB m (zkN fun _ F=>?_)))
 refine n_op rfl rfl (kS F M (hc:=num_si M.tb M.v (p0:=.inl p0.1)) (k:=fun v s4 w q4 M=>kF (zkN fun _ F=>?_)))
 refine n_op rfl rfl (kW F M 0 [_,_,_] [_,_] (k:=fun w M=>kF (zkN fun _ F=>?_)))
 refine x_done F (results_2 rfl (zca F M.at' 0) (zta F)) ?_
 exact zfS M _ () (⟨by omega,by omega⟩) (rfl)
theorem fileOf_s {x:ByteArray} (hT:TbO w []) (hm:RM X H w v D u) (hu:u+1≤68718428160:=by omega) (h_x:okS x:=by exact zI4) :
 Calls Tryz.prog 282 #[v.val,.string x] w (PS X H w (fun v (r:Int) (s:Unit)=>.tuple #[v.val,.int .i64 r]) (fileI D x) D (u+1) (fun (r:Int) (_:Unit)=>0≤r∧r≤999)):=by
 have M:=Sp.start hT hm
 refine zE (f:=282) fun _ F=>?_
 refine l_op (kBx F M [_,_,_] (k:=fun b1 w M=>zk fun _ F=>?_))
 refine l_op (kAl F M ZI_210 [_,_,_] (k:=fun b2 w M=>zk fun _ F=>?_))
 refine l_op (kQ F M (hc:=nameOk_s M.st.nil.tb) (k:=fun s3 w q3 m M=>zk fun _ F=>?_))
 refine zib F (fun h4=>?_) fun h4=>?_
 ·refine zr2 fun _ F=>?_
  refine l_op (kW F M 0 [_,_,_] [_,_] (k:=fun w M=>zk fun _ F=>?_))
  refine x_done F (results_2 rfl (zca F M.at' 0) (zta F)) ?_
  exact zfS M _ () (⟨by omega,by omega⟩) (by rw [fileI,if_pos h4])
 ·have hi4:=nameOk_size (nf h4);refine zr2 fun _ F=>?_
  refine l_op (kS F M (hc:=num_s M.tb M.v) (k:=fun v s5 w q5 M=>zk fun _ F=>?_))
  refine l_op (kW F M 0 [_,_,_] [_,_] (k:=fun w M=>zk fun _ F=>?_))
  refine x_done F (results_2 rfl (zca F M.at' 0) (zta F)) ?_
  exact zfS M _ () (⟨by omega,by omega⟩) (by rw [fileI,iFb h4])
theorem state_s {id:Int} (hT:TbO w []) (hm:RM X H w v D u) (hu:u+1≤68718428160:=by omega) (h_id:i64ok id:=by exact zI6) :
 Calls Tryz.prog 213 #[v.val,.int .i64 id] w (PS X H w (fun v (r:Int) (s:Unit)=>.tuple #[v.val,.int .i64 r]) (numI D (kR id (⟨#[47,115]⟩:ByteArray))) D (u+1) (fun (r:Int) (_:Unit)=>0≤r∧r≤999)):=by
 have M:=Sp.start hT hm
 refine zE (f:=213) fun _ F=>?_
 refine l_op (kBx F M [_,_,_] (k:=fun b1 w M=>zk fun _ F=>?_))
 refine l_op (kAl F M ZI_210 [_,_,_] (k:=fun b2 w M=>zk fun _ F=>?_))
 refine x_rdS [(_,[_,_,_],_)] [] [] [0,1,2,3,4,5,6,7] M (HdK.none (HdS.cons M.at' 1 rfl HdS.nil)) mixed (by kernel_rfl) fun w M hS=>?_
 refine zr2 fun _ F=>?_
 refine n_op rfl rfl (kQ F M (hc:=l09Key_s M.st.nil.tb) (k:=fun s3 w q3 m M=>kB m (zkN fun _ F=>?_)))
 refine n_op rfl rfl (kS F M (hc:=num_s M.tb M.v) (k:=fun v s4 w q4 M=>kF (zkN fun _ F=>?_)))
 refine n_op rfl rfl (kW F M 0 [_,_,_] [_,_] (k:=fun w M=>kF (zkN fun _ F=>?_)))
 refine x_done F (results_2 rfl (zca F M.at' 0) (zta F)) ?_
 exact zfS M _ () (⟨by omega,by omega⟩) (rfl)
theorem isPipe_s {id:Int} (hT:TbO w []) (hm:RM X H w v D u) (hu:u+1≤68718428160:=by omega) (h_id:i64ok id:=by exact zI6) :
 Calls Tryz.prog 291 #[v.val,.int .i64 id] w (PS X H w (fun v (r:Bool) (s:Unit)=>.tuple #[v.val,.bool r]) (decide (numI D (kP id (⟨#[47,111]⟩:ByteArray))=1)) D (u+1) noq):=by
 have M:=Sp.start hT hm
 refine zE (f:=291) fun _ F=>?_
 refine l_op (kBx F M [_,_,_] (k:=fun b1 w M=>zk fun _ F=>?_))
 refine l_op (kAl F M ZI_210 [_,_,_] (k:=fun b2 w M=>zk fun _ F=>?_))
 refine x_rdS [(_,[_,_,_],_)] [] [] [0,1,2,3,4,5,6,7,8] M (HdK.none (HdS.cons M.at' 1 rfl HdS.nil)) mixed (by kernel_rfl) fun w M hS=>?_
 refine zr2 fun _ F=>?_
 refine n_op rfl rfl (kQ F M (hc:=l08Key_s M.st.nil.tb) (k:=fun s3 w q3 m M=>kB m (zkN fun _ F=>?_)))
 refine n_op rfl rfl (kS F M (hc:=num_s M.tb M.v) (k:=fun v s4 w q4 M=>kF (zkN fun _ F=>?_)))
 refine n_op rfl rfl (kW F M 1 [_,_,_] [_,_] (k:=fun w M=>kF (zkN fun _ F=>?_)))
 refine l_op (kW F M 1 [_,_,_] [_,_] (k:=fun w M=>zk fun _ F=>?_))
 refine x_done F (results_2 rfl (zca F M.at' 0) (zta F)) ?_
 exact zfS M _ () (trivial) (rfl)
end
end Go.Proofs.YtipdbeklopjbmaaGreatDoor
