/-
  Texts laid together: KaI, KaI2, MD.
-/
import Derived.Test.YtipdbeklopjbmaaGreatDoorP14
import Derived.Test.YtipdbeklopjbmaaGreatDoorP08
set_option linter.unusedVariables false
set_option linter.unusedSimpArgs false
namespace Go.Proofs.YtipdbeklopjbmaaGreatDoor
open Go.ChangeShapes Go.WideShapes Go.ChangeAt Go.RowKit
set_option maxRecDepth 100000
set_option maxHeartbeats 1000000
section
set_option maxHeartbeats 8000000
variable {X:Uni} {w:World} {b u:Nat} {v:MV} {D:List CellD} {H:Nat→Prop}
theorem within_k {n:Int} {lo:Int} {hi:Int} (hT:TbO w []) (h_n:i64ok n:=by exact zI6) (h_lo:i64ok lo:=by exact zI6) (h_hi:i64ok hi:=by exact zI6) :
 Calls Tryz.prog 93 #[.int .i64 n,.int .i64 lo,.int .i64 hi] w (PO w (fun (s:Unit)=>.bool (inB n lo hi)) (fun _=>True)):=by
 refine (impl_within_c (H:=fun _=>True) h_n h_lo h_hi).mono ?_
 rintro e w' ⟨rfl,m⟩
 exact ⟨(),rfl,m,trivial⟩
theorem nameOk_k {key:ByteArray} (hT:TbO w []) (h_key:okS key:=by exact zI4) :
 Calls Tryz.prog 318 #[.string key] w (PO w (fun (s:Unit)=>.bool (nameOk key)) (fun _=>True)):=by
 refine (impl_NameOk_c (H:=fun _=>True) h_key).mono ?_
 rintro e w' ⟨rfl,m⟩
 exact ⟨(),rfl,m,trivial⟩
theorem keyNum_k {hd:ByteArray} {n:Int} {tl:ByteArray} (hT:TbO w []) (h_hd:okS hd:=by exact zI4) (h_n:i64ok n:=by exact zI6) (h_tl:okS tl:=by exact zI4) (p0:hd.size≤1000:=by first|decide|assumption|exact ksz zI6 (by decide)) (p1:tl.size≤1000:=by first|decide|assumption|exact ksz zI6 (by decide)) :
 Calls Tryz.prog 326 #[.string hd,.int .i64 n,.string tl] w (PO w (fun (s:Unit)=>.string (keyNum hd n tl)) (fun _=>okS (keyNum hd n tl))):=by
 refine (impl_KeyNum_c (H:=fun _=>True) h_hd h_n h_tl (hT.t0.mono fun _ _=>trivial) p0 p1).mono ?_
 rintro e w' ⟨rfl,m,ok⟩
 exact ⟨(),rfl,m,ok⟩
theorem hexOf_k {x:ByteArray} (hT:TbO w []) (h_x:okS x:=by exact zI4) (p0:x.size≤20000:=by omega) :
 Calls Tryz.prog 153 #[.string x] w (PO w (fun (s:Unit)=>.string (hexS x)) (fun _=>(hexS x).size=2 * x.size)):=by
 refine (impl_hexOf_c (H:=fun _=>True) h_x p0).mono ?_
 rintro e w' ⟨rfl,m,ok⟩
 exact ⟨(),rfl,m,hexS_size _⟩
theorem numOf_k {x:ByteArray} (hT:TbO w []) (h_x:okS x:=by exact zI4) (p0:x.size≤1048576:=by exact zIa) :
 Calls Tryz.prog 337 #[.string x] w (PO w (fun (s:Unit)=>.int .i64 ((numOf x:Nat):Int)) (fun _=>numOf x≤999)):=by
 refine (impl_NumOf_c (H:=fun _=>True) h_x (hT.t0.mono fun _ _=>trivial) (hT.t1.mono fun _ _=>trivial) (by omega)).mono ?_
 rintro e w' ⟨rfl,m⟩
 exact ⟨(),rfl,m,numOf_le _⟩
theorem msg_k {x:ByteArray} (hT:TbO w []) (h_x:okS x:=by exact zI4) (p0:x.size≤1048576:=by assumption) :
 Calls Tryz.prog 364 #[.string x] w (PO w (fun (s:Unit)=>.string (msgOf x)) (fun _=>okS (msgOf x))):=by
 refine (impl_messageOf_c (H:=fun _=>True) h_x (hT.t2.mono fun _ _=>trivial) (by omega)).mono ?_
 rintro e w' ⟨rfl,m,ok⟩
 exact ⟨(),rfl,m,ok⟩
theorem unhex_k {x:ByteArray} (hT:TbO w []) (h_x:okS x:=by exact zI4) (p0:x.size≤1048576:=by assumption) :
 Calls Tryz.prog 141 #[.string x] w (PO w (fun (s:Unit)=>.tuple #[.string (unhexT x),.bool (unhexB x)]) (fun _=>okS (unhexT x))):=by
 refine (impl_Unhex_c (H:=fun _=>True) h_x (hT.t2.mono fun _ _=>trivial) (by omega)).mono ?_
 rintro e w' ⟨rfl,m,ok⟩
 exact ⟨(),rfl,m,ok⟩
theorem pipeKey_k {id:Int} {tl:ByteArray} (hT:TbO w []) (h_id:i64ok id:=by exact zI6) (h_tl:okS tl:=by exact zI4) (p0:tl.size≤1000:=by first|decide|assumption|exact ksz zI6 (by decide)) :
 Calls Tryz.prog 331 #[.int .i64 id,.string tl] w (PO w (fun (s:Unit)=>.string (kP id tl)) (fun _=>okS (kP id tl))):=by
 have M:St [] w [] w:=⟨Mv.refl (At.nil _),hT⟩
 refine zE (f:=331) fun _ F=>?_
 refine l_op (kO F M (hc:=keyNum_k M.nil.tb) (k:=fun s1 w q1 M=>zk fun _ F=>?_))
 refine x_done F (results_1 rfl (zta F)) ?_
 exact ⟨(),rfl,M.mv,(by assumption)⟩
theorem procKey_k {id:Int} {tl:ByteArray} (hT:TbO w []) (h_id:i64ok id:=by exact zI6) (h_tl:okS tl:=by exact zI4) (p0:tl.size≤1000:=by first|decide|assumption|exact ksz zI6 (by decide)) :
 Calls Tryz.prog 317 #[.int .i64 id,.string tl] w (PO w (fun (s:Unit)=>.string (kR id tl)) (fun _=>okS (kR id tl))):=by
 have M:St [] w [] w:=⟨Mv.refl (At.nil _),hT⟩
 refine zE (f:=317) fun _ F=>?_
 refine l_op (kO F M (hc:=keyNum_k M.nil.tb) (k:=fun s1 w q1 M=>zk fun _ F=>?_))
 refine x_done F (results_1 rfl (zta F)) ?_
 exact ⟨(),rfl,M.mv,(by assumption)⟩
theorem signalKey_k {id:Int} {tl:ByteArray} (hT:TbO w []) (h_id:i64ok id:=by exact zI6) (h_tl:okS tl:=by exact zI4) (p0:tl.size≤1000:=by first|decide|assumption|exact ksz zI6 (by decide)) :
 Calls Tryz.prog 338 #[.int .i64 id,.string tl] w (PO w (fun (s:Unit)=>.string (kG id tl)) (fun _=>okS (kG id tl))):=by
 have M:St [] w [] w:=⟨Mv.refl (At.nil _),hT⟩
 refine zE (f:=338) fun _ F=>?_
 refine l_op (kO F M (hc:=keyNum_k M.nil.tb) (k:=fun s1 w q1 M=>zk fun _ F=>?_))
 refine x_done F (results_1 rfl (zta F)) ?_
 exact ⟨(),rfl,M.mv,(by assumption)⟩
theorem linksKey_k {id:Int} (hT:TbO w []) (h_id:i64ok id:=by exact zI6) :
 Calls Tryz.prog 323 #[.int .i64 id] w (PO w (fun (s:Unit)=>.string (kL id)) (fun _=>okS (kL id))):=by
 have M:St [] w [] w:=⟨Mv.refl (At.nil _),hT⟩
 refine zE (f:=323) fun _ F=>?_
 refine l_op (kO F M (hc:=keyNum_k M.nil.tb) (k:=fun s1 w q1 M=>zk fun _ F=>?_))
 refine x_done F (results_1 rfl (zta F)) ?_
 exact ⟨(),rfl,M.mv,(by assumption)⟩
theorem sizeKey_k {id:Int} (hT:TbO w []) (h_id:i64ok id:=by exact zI6) :
 Calls Tryz.prog 361 #[.int .i64 id] w (PO w (fun (s:Unit)=>.string (kIs id)) (fun _=>okS (kIs id))):=by
 have M:St [] w [] w:=⟨Mv.refl (At.nil _),hT⟩
 refine zE (f:=361) fun _ F=>?_
 refine l_op (kO F M (hc:=keyNum_k M.nil.tb) (k:=fun s1 w q1 M=>zk fun _ F=>?_))
 refine x_done F (results_1 rfl (zta F)) ?_
 exact ⟨(),rfl,M.mv,(by assumption)⟩
theorem pagesKey_k {id:Int} (hT:TbO w []) (h_id:i64ok id:=by exact zI6) :
 Calls Tryz.prog 334 #[.int .i64 id] w (PO w (fun (s:Unit)=>.string (kPg id)) (fun _=>okS (kPg id))):=by
 have M:St [] w [] w:=⟨Mv.refl (At.nil _),hT⟩
 refine zE (f:=334) fun _ F=>?_
 refine l_op (kO F M (hc:=keyNum_k M.nil.tb) (k:=fun s1 w q1 M=>zk fun _ F=>?_))
 refine x_done F (results_1 rfl (zta F)) ?_
 exact ⟨(),rfl,M.mv,(by assumption)⟩
theorem blockKey_k {id:Int} {p:Int} (hT:TbO w []) (h_id:i64ok id:=by exact zI6) (h_p:i64ok p:=by exact zI6) :
 Calls Tryz.prog 363 #[.int .i64 id,.int .i64 p] w (PO w (fun (s:Unit)=>.string (kIb id p)) (fun _=>okS (kIb id p))):=by
 have M:St [] w [] w:=⟨Mv.refl (At.nil _),hT⟩
 refine zE (f:=363) fun _ F=>?_
 refine l_op (kO F M (hc:=keyNum_k M.nil.tb) (k:=fun s1 w q1 M=>zk fun _ F=>?_))
 refine l_op (kO F M (hc:=keyNum_k M.nil.tb) (k:=fun s2 w q2 M=>zk fun _ F=>?_))
 refine x_done F (results_1 rfl (zta F)) ?_
 exact ⟨(),rfl,M.mv,(by assumption)⟩
theorem nameKey_k {x:ByteArray} (hT:TbO w []) (h_x:okS x:=by exact zI4) (p0:x.size≤12:=by first|omega|exact nameOk_size (nf (by assumption))) :
 Calls Tryz.prog 322 #[.string x] w (PO w (fun (s:Unit)=>.string (kNm x)) (fun _=>okS (kNm x))):=by
 refine (impl_nameKey_c (H:=fun _=>True) h_x p0).mono ?_
 rintro e w' ⟨rfl,m,ok⟩
 exact ⟨(),rfl,m,ok⟩
theorem dec_k {n:Int} (hT:TbO w []) (h_n:i64ok n:=by exact zI6) :
 Calls Tryz.prog 151 #[.int .i64 n] w (PO w (fun (s:Unit)=>.string (decS n)) (fun _=>okS (decS n))):=by
 refine (impl_Decimal_c (H:=fun _=>True) h_n (hT.t0.mono fun _ _=>trivial)).mono ?_
 rintro e w' ⟨rfl,m,ok⟩
 exact ⟨(),rfl,m,ok⟩
theorem num_k {key:ByteArray} (hA:AT w [mB X b v D u]) (hu:u+1≤68718428160:=by omega) (h_key:okS key:=by exact zI4) :
 Calls Tryz.prog 316 #[.pointer (some ⟨b,0,none⟩),.string key] w (PI X b v D u w (fun (r:Int) (s:Unit)=>.int .i64 r) (numI D key) D (u+1) (fun (r:Int) (_:Unit)=>0≤r∧r≤999)):=by
 have M:=St.start hA
 refine zE (f:=316) fun _ F=>?_
 refine l_op (kI F M (hc:=look_k M.hd) (k:=fun v s1 w q1 M=>zk fun _ F=>?_))
 refine l_op (kO F M (hc:=numOf_k M.nil.tb) (k:=fun s2 w q2 M=>zk fun _ F=>?_))
 refine x_done F (results_1 rfl (zta F)) ?_
 exact zfI M _ () (⟨by omega,by omega⟩) (rfl)
theorem setNum_k {key:ByteArray} {n:Int} (hA:AT w [mB X b v D u]) (hu:u+1≤68718428160:=by omega) (h_key:okS key:=by exact zI4) (h_n:i64ok n:=by exact zI6) (p0:npg X key:=by exact nmp) :
 Calls Tryz.prog 321 #[.pointer (some ⟨b,0,none⟩),.string key,.int .i64 n] w (PI X b v D u w (fun (r:Unit) (s:Unit)=>.tuple #[]) () (setS D key n) (u+1) noq):=by
 have M:=St.start hA
 refine zE (f:=321) fun _ F=>?_
 refine l_op (kO F M (hc:=within_k M.nil.tb) (k:=fun s1 w q1 M=>zk fun _ F=>?_))
 refine zib F (fun h2=>?_) fun h2=>?_
 ·have hi2:=inB_bd h2;refine zr2 fun _ F=>?_
  refine l_op (kO F M (hc:=dec_k M.nil.tb) (k:=fun s3 w q3 M=>zk fun _ F=>?_))
  refine l_op (kI F M (hc:=lay_k p0 M.hd) (k:=fun v s4 w q4 M=>zk fun _ F=>?_))
  refine x_done_end F (results_0 rfl) ?_
  exact zfI M () () (trivial) (by rw [setS,numV,if_pos h2])
 ·refine zr2 fun _ F=>?_
  refine l_op (kI F M (hc:=lay_k p0 M.hd) (k:=fun v s5 w q5 M=>zk fun _ F=>?_))
  refine x_done_end F (results_0 rfl) ?_
  exact zfI M () () (trivial) (by rw [setS,numV,iFb h2])
theorem bump_k {key:ByteArray} (hA:AT w [mB X b v D u]) (hu:u+2≤68718428160:=by omega) (h_key:okS key:=by exact zI4) (p0:npg X key:=by exact nmp) :
 Calls Tryz.prog 320 #[.pointer (some ⟨b,0,none⟩),.string key] w (PI X b v D u w (fun (r:Int) (s:Unit)=>.int .i64 r) (bumpF D key).1 (bumpF D key).2 (u+2) (fun (r:Int) (_:Unit)=>0≤r∧r≤999)):=by
 have M:=St.start hA
 refine zE (f:=320) fun _ F=>?_
 refine l_op (kI F M (hc:=num_k M.hd) (k:=fun v s1 w q1 M=>zk fun _ F=>?_))
 refine zi F (fun h2=>?_) fun h2=>?_
 ·refine zr2 fun _ F=>?_
  refine x_done F (results_1 rfl (zta F)) ?_
  exact zfI M _ () (⟨by omega,by omega⟩) (by rw [bumpF,if_pos h2])
 ·refine zr2 fun _ F=>?_
  refine l_op (kI F M (hc:=setNum_k M.hd (p0:=p0)) (k:=fun v s3 w q3 M=>zk fun _ F=>?_))
  refine x_done F (results_1 rfl (zta F)) ?_
  exact zfI M _ () (⟨by omega,by omega⟩) (by rw [bumpF,if_neg h2])
theorem fileOf_k {x:ByteArray} (hA:AT w [mB X b v D u]) (hu:u+1≤68718428160:=by omega) (h_x:okS x:=by exact zI4) :
 Calls Tryz.prog 319 #[.pointer (some ⟨b,0,none⟩),.string x] w (PI X b v D u w (fun (r:Int) (s:Unit)=>.int .i64 r) (fileI D x) D (u+1) (fun (r:Int) (_:Unit)=>0≤r∧r≤999)):=by
 have M:=St.start hA
 refine zE (f:=319) fun _ F=>?_
 refine l_op (kO F M (hc:=nameOk_k M.nil.tb) (k:=fun s1 w q1 M=>zk fun _ F=>?_))
 refine zib F (fun h2=>?_) fun h2=>?_
 ·refine zr2 fun _ F=>?_
  refine x_done F (results_1 rfl (zta F)) ?_
  exact zfI M _ () (⟨by omega,by omega⟩) (by rw [fileI,if_pos h2])
 ·have hi2:=nameOk_size (nf h2);refine zr2 fun _ F=>?_
  have hz:=nameOk_size (key:=x) (nf (by assumption))
  refine l_op (kO F M (hc:=nameKey_k M.nil.tb) (k:=fun s3 w q3 M=>zk fun _ F=>?_))
  refine l_op (kI F M (hc:=num_k M.hd) (k:=fun v s4 w q4 M=>zk fun _ F=>?_))
  refine x_done F (results_1 rfl (zta F)) ?_
  exact zfI M _ () (⟨by omega,by omega⟩) (by rw [fileI,iFb h2])
theorem isPipe_k {id:Int} (hA:AT w [mB X b v D u]) (hu:u+1≤68718428160:=by omega) (h_id:i64ok id:=by exact zI6) :
 Calls Tryz.prog 332 #[.pointer (some ⟨b,0,none⟩),.int .i64 id] w (PI X b v D u w (fun (r:Bool) (s:Unit)=>.bool r) (decide (numI D (kP id (⟨#[47,111]⟩:ByteArray))=1)) D (u+1) noq):=by
 have M:=St.start hA
 refine zE (f:=332) fun _ F=>?_
 refine l_op (kO F M (hc:=pipeKey_k M.nil.tb) (k:=fun s1 w q1 M=>zk fun _ F=>?_))
 refine l_op (kI F M (hc:=num_k M.hd) (k:=fun v s2 w q2 M=>zk fun _ F=>?_))
 refine x_done F (results_1 rfl (zta F)) ?_
 exact zfI M _ () (trivial) (rfl)
theorem message_k {key:ByteArray} (hA:AT w [mB X b v D u]) (hu:u+1≤68718428160:=by omega) (h_key:okS key:=by exact zI4) :
 Calls Tryz.prog 333 #[.pointer (some ⟨b,0,none⟩),.string key] w (PI X b v D u w (fun (r:Unit) (s:ByteArray)=>.string s) () D (u+1) (fun (_:Unit) (s:ByteArray)=>okS s)):=by
 have M:=St.start hA
 refine zE (f:=333) fun _ F=>?_
 refine l_op (kI F M (hc:=look_k M.hd) (k:=fun v s1 w q1 M=>zk fun _ F=>?_))
 refine l_op (kO F M (hc:=msg_k M.nil.tb) (k:=fun s2 w q2 M=>zk fun _ F=>?_))
 refine x_done F (results_1 rfl (zta F)) ?_
 exact zfI M () _ ((by assumption)) (rfl)
theorem state_k {id:Int} (hA:AT w [mB X b v D u]) (hu:u+1≤68718428160:=by omega) (h_id:i64ok id:=by exact zI6) :
 Calls Tryz.prog 237 #[.pointer (some ⟨b,0,none⟩),.int .i64 id] w (PI X b v D u w (fun (r:Int) (s:Unit)=>.int .i64 r) (numI D (kR id (⟨#[47,115]⟩:ByteArray))) D (u+1) (fun (r:Int) (_:Unit)=>0≤r∧r≤999)):=by
 have M:=St.start hA
 refine zE (f:=237) fun _ F=>?_
 refine l_op (kO F M (hc:=procKey_k M.nil.tb) (k:=fun s1 w q1 M=>zk fun _ F=>?_))
 refine l_op (kI F M (hc:=num_k M.hd) (k:=fun v s2 w q2 M=>zk fun _ F=>?_))
 refine x_done F (results_1 rfl (zta F)) ?_
 exact zfI M _ () (⟨by omega,by omega⟩) (rfl)
theorem num_i {key:ByteArray} (hA:AT w [mB X b v D u]) (hu:u+0≤68718428160:=by omega) (h_key:okS key:=by exact zI4) (p0:knw X D key:=by assumption) :
 Calls Tryz.prog 316 #[.pointer (some ⟨b,0,none⟩),.string key] w (PI X b v D u w (fun (r:Int) (s:Unit)=>.int .i64 r) (numI D key) D u (fun (r:Int) (_:Unit)=>0≤r∧r≤999)):=by
 have M:=St.start hA
 refine zE (f:=316) fun _ F=>?_
 refine l_op (kI F M (hc:=look_i p0 M.hd) (k:=fun v s1 w q1 M=>zk fun _ F=>?_))
 refine l_op (kO F M (hc:=numOf_k M.nil.tb) (k:=fun s2 w q2 M=>zk fun _ F=>?_))
 refine x_done F (results_1 rfl (zta F)) ?_
 exact zfI M _ () (⟨by omega,by omega⟩) (rfl)
theorem setNum_i {key:ByteArray} {n:Int} (hA:AT w [mB X b v D u]) (hu:u+0≤68718428160:=by omega) (h_key:okS key:=by exact zI4) (h_n:i64ok n:=by exact zI6) (p0:knw X D key:=by assumption) (p1:npg X key:=by exact nmp) :
 Calls Tryz.prog 321 #[.pointer (some ⟨b,0,none⟩),.string key,.int .i64 n] w (PI X b v D u w (fun (r:Unit) (s:Unit)=>.tuple #[]) () (setS D key n) u noq):=by
 have M:=St.start hA
 refine zE (f:=321) fun _ F=>?_
 refine l_op (kO F M (hc:=within_k M.nil.tb) (k:=fun s1 w q1 M=>zk fun _ F=>?_))
 refine zib F (fun h2=>?_) fun h2=>?_
 ·have hi2:=inB_bd h2;refine zr2 fun _ F=>?_
  refine l_op (kO F M (hc:=dec_k M.nil.tb) (k:=fun s3 w q3 M=>zk fun _ F=>?_))
  refine l_op (kI F M (hc:=lay_i p0 (.inr p1) M.hd) (k:=fun v s4 w q4 M=>zk fun _ F=>?_))
  refine x_done_end F (results_0 rfl) ?_
  exact zfI M () () (trivial) (by rw [setS,numV,if_pos h2])
 ·refine zr2 fun _ F=>?_
  refine l_op (kI F M (hc:=lay_i p0 (.inr p1) M.hd) (k:=fun v s5 w q5 M=>zk fun _ F=>?_))
  refine x_done_end F (results_0 rfl) ?_
  exact zfI M () () (trivial) (by rw [setS,numV,iFb h2])
theorem state_i {id:Int} (hA:AT w [mB X b v D u]) (hu:u+0≤68718428160:=by omega) (h_id:i64ok id:=by exact zI6) (p0:sgK X id:=by assumption) :
 Calls Tryz.prog 237 #[.pointer (some ⟨b,0,none⟩),.int .i64 id] w (PI X b v D u w (fun (r:Int) (s:Unit)=>.int .i64 r) (numI D (kR id (⟨#[47,115]⟩:ByteArray))) D u (fun (r:Int) (_:Unit)=>0≤r∧r≤999)):=by
 have M:=St.start hA
 refine zE (f:=237) fun _ F=>?_
 refine l_op (kO F M (hc:=procKey_k M.nil.tb) (k:=fun s1 w q1 M=>zk fun _ F=>?_))
 refine l_op (kI F M (hc:=num_i M.hd (p0:=.inl p0.1)) (k:=fun v s2 w q2 M=>zk fun _ F=>?_))
 refine x_done F (results_1 rfl (zta F)) ?_
 exact zfI M _ () (⟨by omega,by omega⟩) (rfl)
end
set_option maxRecDepth 100000
set_option maxHeartbeats 1000000
section
set_option maxHeartbeats 8000000
variable {X:Uni} {w:World} {b u:Nat} {v:MV} {D:List CellD} {H:Nat→Prop}
theorem send_i {id:Int} {n:Int} (hA:AT w [mB X b v D u]) (hu:u+0≤68718428160:=by omega) (h_id:i64ok id:=by exact zI6) (h_n:i64ok n:=by exact zI6) (p0:sgK X id:=by assumption) :
 Calls Tryz.prog 254 #[.pointer (some ⟨b,0,none⟩),.int .i64 id,.int .i64 n] w (PI X b v D u w (fun (r:Unit) (s:Int)=>.int .i64 s) () (sgS D id n) u (fun (_:Unit) (s:Int)=>i64ok s)):=by
 have M:=St.start hA
 refine zE (f:=254) fun _ F=>?_
 refine l_op (kI F M (hc:=state_i M.hd (p0:=p0)) (k:=fun v s1 w q1 M=>zk fun _ F=>?_))
 refine zi F (fun h2=>?_) fun h2=>?_
 ·refine zr2 fun _ F=>?_
  refine x_done F (results_1 rfl (zta F)) ?_
  exact zfI M () _ zI1 (by rw [sgS,if_pos h2])
 ·refine zr2 fun _ F=>?_
  refine l_op (kO F M (hc:=within_k M.nil.tb) (k:=fun s3 w q3 M=>zk fun _ F=>?_))
  refine zib F (fun h4=>?_) fun h4=>?_
  ·refine zr2 fun _ F=>?_
   refine x_done F (results_1 rfl (zta F)) ?_
   exact zfI M () _ zI1 (by rw [sgS,if_neg h2,if_pos h4])
  ·have hi4:=inB_bd (nf h4);refine zr2 fun _ F=>?_
   refine l_op (kO F M (hc:=signalKey_k M.nil.tb) (k:=fun s5 w q5 M=>zk fun _ F=>?_))
   refine l_op (kI F M (hc:=num_i M.hd (p0:=.inl p0.2.1)) (k:=fun v s6 w q6 M=>zk fun _ F=>?_))
   refine l_op (kO F M (hc:=signalKey_k M.nil.tb) (k:=fun s7 w q7 M=>zk fun _ F=>?_))
   refine l_op (kI F M (hc:=num_i M.hd (p0:=.inl p0.2.2.1)) (k:=fun v s8 w q8 M=>zk fun _ F=>?_))
   refine zi F (fun h9=>?_) fun h9=>?_
   ·refine zr2 fun _ F=>?_
    refine x_done F (results_1 rfl (zta F)) ?_
    exact zfI M () _ zI1 (by rw [sgS,if_neg h2,iFb h4,if_pos h9])
   ·refine zr2 fun _ F=>?_
    refine zi F (fun h10=>?_) fun h10=>?_
    ·refine zr2 fun _ F=>?_
     refine x_done F (results_1 rfl (zta F)) ?_
     exact zfI M () _ zI1 (by rw [sgS,if_neg h2,iFb h4,if_neg h9,if_pos h10])
    ·refine zr2 fun _ F=>?_
     refine l_op (kO F M (hc:=signalKey_k M.nil.tb) (k:=fun s11 w q11 M=>zk fun _ F=>?_))
     refine l_op (kI F M (hc:=setNum_i M.hd (p0:=.inl p0.2.1)) (k:=fun v s12 w q12 M=>zk fun _ F=>?_))
     refine l_op (kO F M (hc:=signalKey_k M.nil.tb) (k:=fun s13 w q13 M=>zk fun _ F=>?_))
     refine l_op (kO F M (hc:=keyNum_k M.nil.tb) (k:=fun s14 w q14 M=>zk fun _ F=>?_))
     refine l_op (kI F M (hc:=setNum_i M.hd (p0:=.inl (p0.2.2.2 _ (by omega) (by omega)))) (k:=fun v s15 w q15 M=>zk fun _ F=>?_))
     refine x_done F (results_1 rfl (zta F)) ?_
     exact zfI M () _ zI1 (by rw [sgS,if_neg h2,iFb h4,if_neg h9,if_neg h10])
theorem block_k {id:Int} {p:Int} (hA:AT w [mB X b v D u]) (hu:u+1≤68718428160:=by omega) (h_id:i64ok id:=by exact zI6) (h_p:i64ok p:=by exact zI6) :
 Calls Tryz.prog 362 #[.pointer (some ⟨b,0,none⟩),.int .i64 id,.int .i64 p] w (PI X b v D u w (fun (r:ByteArray) (s:Unit)=>.string r) (blkT D id p) D (u+1) (fun (r:ByteArray) (_:Unit)=>okS r)):=by
 have M:=St.start hA
 refine zE (f:=362) fun _ F=>?_
 refine l_op (kO F M (hc:=blockKey_k M.nil.tb) (k:=fun s1 w q1 M=>zk fun _ F=>?_))
 refine l_op (kI F M (hc:=look_k M.hd) (k:=fun v s2 w q2 M=>zk fun _ F=>?_))
 refine l_op (kO F M (hc:=unhex_k M.nil.tb) (k:=fun s3 w q3 M=>zk fun _ F=>?_))
 refine x_done F (results_1 rfl (zta F)) ?_
 exact zfI M _ () ((by assumption)) (rfl)
end
section
variable {P:Program} {ops:Array Oper} {Q:Exit→Act→World→Prop} {K:Act→World→Prop} {o o1 o2:Oper} {rest:List Oper} {a:Act} {w:World} {d d1 d2 t t2 n i:Nat} {x y z:Operand} {m:List (Nat × Value)} {L:List Atom} {S:World→Prop} {rl ex:List Nat}
theorem kSB {src dst e:Nat} {s:ByteArray} [I1:UTc P src .string] [I2:UTc P dst (.slice e)] [I3:UTc P e (.int .u8)] (F:Fr n m a) (A:At w L)
 (ho:o.op=.convert src dst x:=by exact rfl) (hx:opd m x=some (.string s):=by exact rfl) (hz:s.size≤9223372036854775807:=by first|omega|(unfold okS at *;omega)) (hd:o.dst=some d:=by exact rfl) (hw:wantM ops m o=some true:=by exact rfl) (hp:Nat.blt d n=true:=by exact rfl)
 (k:∀ b q c w',q=s.size→Mv L w (owX e (.slice (some ⟨b,0,none⟩) q c) (bytesN s)::L) w'→∀ a',Fr n ((d,.slice (some ⟨b,0,none⟩) q c)::m) a'→K a' w'):st1 P ops Q o K a w:=by
 have hO:=bytesX (w:=w) (e:=e) s hz (bytesN s) (bytesN_length s) (bytesN_lt s) (fun i x hx=>by
  unfold bytesN at hx
  rw [List.getElem?_map] at hx
  unfold List.getD
  cases hq:s.data.toList[i]? with
  | none=>rw [hq] at hx;cases hx
  | some y=>rw [hq] at hx;cases hx;rfl)
 have hM:=At.frame (New:=[owX e (.slice (some ⟨w.heap.size,0,none⟩) s.size (grownCap w s.size 0 e)) (bytesN s)]) A [] rfl (mv_freshX (w:=w) hO (fun b hb=>by
  have:b=w.heap.size:=by simpa [Value.ownBlock,eq_comm] using hb
  rw [this];exact Nat.le_refl _) (Lib.bytesWorld_below w e s))
 rw [del_none] at hM
 refine s_valw (wantM_eq F hw) hd (v:=.slice (some ⟨w.heap.size,0,none⟩) s.size (grownCap w s.size 0 e)) (w':=Lib.bytesWorld w e s) ?_ fun a' e'=>k _ _ _ _ rfl hM a' (F.put e' hp)
 have hx':=F.g hx
 simp [execOp,ho,hx',Lib.run_convert_string_bytes w src dst e s I1.h I2.h I3.h,Result.andThen]
theorem kBS {src dst e:Nat} {ad:Option Addr} {q c:Nat} {l:List Nat} [I1:UTc P src (.slice e)] [I2:UTc P e (.int .u8)] [I3:UTc P dst .string] (F:Fr n m a) (R:RSl 1 (Enc encB okB) w (.slice ad q c) l)
 (ho:o.op=.convert src dst x:=by exact rfl) (hx:opd m x=some (.slice ad q c):=by exact rfl) (hd:o.dst=some d:=by exact rfl) (hw:wantM ops m o=some true:=by exact rfl) (hp:Nat.blt d n=true:=by exact rfl)
 (k:∀ a',Fr n ((d,.string (bstr l))::m) a'→K a' w):st1 P ops Q o K a w:=
 f_val F (wantM_eq F hw) hd (r_bstr I1.h I2.h I3.h R ho (F.g hx)) hp k
theorem kPush {e bytes:Nat} {z0:Value} {s v:Operand} {sv:Value} {l:List Nat} (F:Fr n m a) (A:At w L) (j:Nat) (b1:Nat) (E:ElemT P t e z0 1 bytes encB) (hb:b1 < 256)
 (hL:nth L j=some (owX e sv l):=by exact rfl) (hsel:okSel L.length [j]=true:=by exact rfl) (hlen:(l.length+1) * bytes≤140737488355328:=by omega)
 (ho1:o1.op=.buildSlice t 1 #[(0,v)]:=by exact rfl) (hv:opd m v=some (.int .u8 ((b1:Nat):Int)):=by exact rfl) (hd1:o1.dst=some d1:=by exact rfl) (hw1:wantM ops m o1=some true:=by exact rfl) (hp1:Nat.blt d1 n=true:=by exact rfl)
 (ho2:o2.op=.call { callee:=.builtin .append,args:=#[s,.tmp d1],argTypes:=#[t,t] }:=by exact rfl) (hs:∀ u,opd ((d1,u)::m) s=some sv:=by intro _;exact rfl) (hd2:o2.dst=some d2:=by exact rfl) (hw2:∀ u,wantM ops ((d1,u)::m) o2=some true:=by intro _;exact rfl) (hp2:Nat.blt d2 n=true:=by exact rfl)
 (k:∀ b q c u w',q=l.length+1→Mv L w ([owX e (.slice b q c) (l++[b1])]++del L [j]) w'→∀ a',Fr n ((d2,.slice b q c)::(d1,u)::m) a'→wpList P ops Q rest a' w'):wpList P ops Q (o1::o2::rest) a w:=by
 refine l_op (f_buildSl (enc:=encB) (ok:=okB) (vs:=[.int .u8 ((b1:Nat):Int)]) F A [b1] E (wantM_eq F hw1) hd1 ho1 rfl rfl hp1 (by simp [F.g hv]) rfl rfl (by intro x hx;rw [List.mem_singleton.1 hx];exact hb) fun b a1 w1 F1 M1=>?_)
 have R1:RSl 1 (Enc encB okB) w1 (.slice (some ⟨b,0,none⟩) 1 1) [b1]:=(At.rd (enc:=encB) (k:=1) M1.at' E.hk 0 rfl).1
 have M2:Mv L w L w1:=M1.trans (by
  have:=M1.at'.drop 0
  rw [del_cons0] at this
  exact this)
 refine l_op (f_appX F1 M2.at' j E hL hsel (wantM_eq F1 (hw2 _)) hd2 ho2 hp2 (F1.g (hs _)) (F1.g (by show look _ d1=_;unfold look;rw [Nat.beq_refl])) R1 (by simp) (by simpa using hlen) fun b' q c a2 w2 F2 M3 hq=>?_)
 exact k b' q c _ w2 (by simpa using hq) (M2.trans M3) a2 F2
theorem kPushO {e bytes:Nat} {z0:Value} {s v:Operand} {sv:Value} {l:List Nat} (F:Fr n m a) (A:At w L) (j:Nat) (b1:Nat) (E:ElemT P t e z0 1 bytes encB) (hb:b1 < 256)
 (hL:nth L j=some (ow e 1 encB okB sv l):=by exact rfl) (hsel:okSel L.length [j]=true:=by exact rfl) (hlen:(l.length+1) * bytes≤140737488355328:=by omega)
 (ho1:o1.op=.buildSlice t 1 #[(0,v)]:=by exact rfl) (hv:opd m v=some (.int .u8 ((b1:Nat):Int)):=by exact rfl) (hd1:o1.dst=some d1:=by exact rfl) (hw1:wantM ops m o1=some true:=by exact rfl) (hp1:Nat.blt d1 n=true:=by exact rfl)
 (ho2:o2.op=.call { callee:=.builtin .append,args:=#[s,.tmp d1],argTypes:=#[t,t] }:=by exact rfl) (hs:∀ u,opd ((d1,u)::m) s=some sv:=by intro _;exact rfl) (hd2:o2.dst=some d2:=by exact rfl) (hw2:∀ u,wantM ops ((d1,u)::m) o2=some true:=by intro _;exact rfl) (hp2:Nat.blt d2 n=true:=by exact rfl)
 (k:∀ b q c u w',q=l.length+1→Mv L w ([ow e 1 encB okB (.slice b q c) (l++[b1])]++del L [j]) w'→∀ a',Fr n ((d2,.slice b q c)::(d1,u)::m) a'→wpList P ops Q rest a' w'):wpList P ops Q (o1::o2::rest) a w:=by
 refine l_op (f_buildSl (enc:=encB) (ok:=okB) (vs:=[.int .u8 ((b1:Nat):Int)]) F A [b1] E (wantM_eq F hw1) hd1 ho1 rfl rfl hp1 (by simp [F.g hv]) rfl rfl (by intro x hx;rw [List.mem_singleton.1 hx];exact hb) fun b a1 w1 F1 M1=>?_)
 have R1:RSl 1 (Enc encB okB) w1 (.slice (some ⟨b,0,none⟩) 1 1) [b1]:=(At.rd (enc:=encB) (k:=1) M1.at' E.hk 0 rfl).1
 have M2:Mv L w L w1:=M1.trans (by
  have:=M1.at'.drop 0
  rw [del_cons0] at this
  exact this)
 refine l_op (f_app F1 M2.at' j E hL hsel (wantM_eq F1 (hw2 _)) hd2 ho2 hp2 (F1.g (hs _)) (F1.g (by show look _ d1=_;unfold look;rw [Nat.beq_refl])) R1 (by simpa using hlen) fun b' q c a2 w2 F2 M3 hq=>?_)
 exact k b' q c _ w2 (by simpa using hq) (M2.trans M3) a2 F2
theorem kNil {e bytes:Nat} {z0:Value} (F:Fr n m a) (A:At w L) (E:ElemT P t e z0 1 bytes encB)
 (ho:o.op=.buildSlice t 0 #[]:=by exact rfl) (hd:o.dst=some d:=by exact rfl) (hw:wantM ops m o=some true:=by exact rfl) (hp:Nat.blt d n=true:=by exact rfl)
 (k:∀ b w',Mv L w (ow e 1 encB okB (.slice (some ⟨b,0,none⟩) 0 0) []::L) w'→∀ a',Fr n ((d,.slice (some ⟨b,0,none⟩) 0 0)::m) a'→K a' w'):st1 P ops Q o K a w:=
 f_buildSl (enc:=encB) (ok:=okB) (vs:=[]) F A [] E (wantM_eq F hw) hd ho rfl rfl hp rfl rfl rfl (by intro x hx;cases hx) fun b a1 w1 F1 M1=>k b w1 M1 a1 F1
theorem kPut {e bytes:Nat} {z0:Value} {ad:Option Addr} {q c:Nat} {l:List Nat} {v:Operand} [I:TIc P t2 false 1] (F:Fr n m a) (A:At w L) (j p y0:Nat) (E:ElemT P t e z0 1 bytes encB) (hy:y0 < 256) {zp:Int}
 (hL:nth L j=some (owX e (.slice ad q c) l):=by exact rfl) (hsel:okSel L.length [j]=true:=by exact rfl)
 (ho1:o1.op=.indexAddr t x y:=by exact rfl) (hx:opd m x=some (.slice ad q c):=by exact rfl) (hi:opd m y=some (.int .i64 zp):=by exact rfl) (hzp:zp=((p:Nat):Int):=by first|rfl|omega) (hj:p < q:=by omega) (hd1:o1.dst=some d1:=by exact rfl) (hw1:wantM ops m o1=some true:=by exact rfl) (hp1:Nat.blt d1 n=true:=by exact rfl)
 (ho2:o2.op=.store t2 (.tmp d1) v:=by exact rfl) (hv:∀ u,opd ((d1,u)::m) v=some (.int .u8 ((y0:Nat):Int)):=by intro _;exact rfl) (hd2:o2.dst=none:=by exact rfl) (hw2:∀ u,wantM ops ((d1,u)::m) o2=some true:=by intro _;exact rfl)
 (k:∀ u w',Mv L w ([owX e (.slice ad q c) (l.set p y0)]++del L [j]) w'→∀ a',Fr n ((d1,u)::m) a'→wpList P ops Q rest a' w'):wpList P ops Q (o1::o2::rest) a w:=by
 obtain ⟨B,x0,had,hxn,hok,hc⟩:=At.ownAtX A j hL p hj
 subst had
 refine l_op (f_val F (wantM_eq F hw1) hd1 (r_indexAddr (i:=p) E ho1 (F.g hx) (F.g hi) hzp hj) hp1 fun a1 F1=>?_)
 refine l_op (s_storeElX (b:=B) A j p y0 I.h hL rfl hsel (wantM_eq F1 (hw2 _)) hd2 ho2 (F1.g (by show look _ d1=_;unfold look;rw [Nat.beq_refl])) (F1.g (hv _)) rfl hj hy fun w' m'=>k _ w' m' a1 F1)
end
section
variable {P:Program} {ops:Array Oper} {Q:Exit→Act→World→Prop} {o:Oper} {a:Act} {K:Act→World→Prop} {w:World} {d n:Nat} {x y:Operand} {m:List (Nat × Value)} {ts:Array TypeId} {i j:Int}
theorem kMn (F:Fr n m a) (z:Int) (ho:o.op=.call { callee:=.builtin .min,args:=#[x,y],argTypes:=ts }:=by exact rfl) (hx:opd m x=some (.int .i64 i):=by exact rfl) (hy:opd m y=some (.int .i64 j):=by exact rfl) (hz:min i j=z:=by omega) (hd:o.dst=some d:=by exact rfl) (hw:wantM ops m o=some true:=by exact rfl) (hp:Nat.blt d n=true:=by exact rfl)
 (k:∀ a',Fr n ((d,.int .i64 z)::m) a'→K a' w):st1 P ops Q o K a w:=by
 have e:(if j < i then j else i)=z:=by rw [← hz];split <;> omega
 exact f_val F (wantM_eq F hw) hd (by simp [execOp,ho,F.g hx,F.g hy,resolve,invoke,builtin,run_min_int2,e]) hp k
theorem kMx (F:Fr n m a) (z:Int) (ho:o.op=.call { callee:=.builtin .max,args:=#[x,y],argTypes:=ts }:=by exact rfl) (hx:opd m x=some (.int .i64 i):=by exact rfl) (hy:opd m y=some (.int .i64 j):=by exact rfl) (hz:max i j=z:=by omega) (hd:o.dst=some d:=by exact rfl) (hw:wantM ops m o=some true:=by exact rfl) (hp:Nat.blt d n=true:=by exact rfl)
 (k:∀ a',Fr n ((d,.int .i64 z)::m) a'→K a' w):st1 P ops Q o K a w:=by
 have e:(if j > i then j else i)=z:=by rw [← hz];split <;> omega
 exact f_val F (wantM_eq F hw) hd (by simp [execOp,ho,F.g hx,F.g hy,resolve,invoke,builtin,run_max_int2,e]) hp k
theorem kQu {u:TypeId} (F:Fr n m a) (p c:Nat) (hc:0 < c) (hi:i=((p:Nat):Int)) (hj:j=((c:Nat):Int)) (hb:p≤9223372036854775807) {t:TypeId} (ho:o.op=.binOp .quo t x y u:=by exact rfl) (hx:opd m x=some (.int .i64 i):=by exact rfl) (hy:opd m y=some (.int .i64 j):=by exact rfl) (hd:o.dst=some d:=by exact rfl) (hw:wantM ops m o=some true:=by exact rfl) (hp:Nat.blt d n=true:=by exact rfl)
 (k:∀ a',Fr n ((d,.int .i64 ((p / c:Nat):Int))::m) a'→K a' w):st1 P ops Q o K a w:=by
 subst hi
 exact f_val F (wantM_eq F hw) hd (r_quoN hj hc hb ho (F.g hx) (F.g hy)) hp k
theorem kRe {u:TypeId} (F:Fr n m a) (p c:Nat) (hc:0 < c) (hi:i=((p:Nat):Int)) (hj:j=((c:Nat):Int)) {t:TypeId} (ho:o.op=.binOp .rem t x y u:=by exact rfl) (hx:opd m x=some (.int .i64 i):=by exact rfl) (hy:opd m y=some (.int .i64 j):=by exact rfl) (hd:o.dst=some d:=by exact rfl) (hw:wantM ops m o=some true:=by exact rfl) (hp:Nat.blt d n=true:=by exact rfl)
 (k:∀ a',Fr n ((d,.int .i64 ((p % c:Nat):Int))::m) a'→K a' w):st1 P ops Q o K a w:=by
 subst hi
 exact f_val F (wantM_eq F hw) hd (r_remK hj hc ho (F.g hx) (F.g hy)) hp k
end
section
variable {P:Program} {ops:Array Oper} {Q:Exit→Act→World→Prop} {o:Oper} {a:Act} {w:World} {d n g:Nat} {x y:Operand} {m:List (Nat × Value)} {ts:Array TypeId} {i j:Int} {S:World→Prop} {rl ex:List Nat}
theorem nRe {t u:TypeId} (F:Fr n m a) (p c:Nat) (hc:0 < c) (hi:i=((p:Nat):Int)) (hj:j=((c:Nat):Int)) (hg:ops[g]? = some o:=by exact rfl) (ht:((tkOf o && !ex.contains g) && !ldOf o)=true:=by exact rfl) (ho:o.op=.binOp .rem t x y u:=by exact rfl) (hx:opd m x=some (.int .i64 i):=by exact rfl) (hy:opd m y=some (.int .i64 j):=by exact rfl) (hd:o.dst=some d:=by exact rfl) (hw:wantM ops m o=some true:=by exact rfl) (hp:Nat.blt d n=true:=by exact rfl)
 (k:∀ a',Fr n ((d,.int .i64 ((p % c:Nat):Int))::m) a'→seqN P ops ex Q S rl a' w):seqN P ops ex Q S (g::rl) a w:=by
 subst hi
 exact n_val F hg ht (fun _=>r_remK hj hc ho (F.g hx) (F.g hy)) hw hd hp k
theorem nMn (F:Fr n m a) (z:Int) (hg:ops[g]? = some o:=by exact rfl) (ht:((tkOf o && !ex.contains g) && !ldOf o)=true:=by exact rfl) (ho:o.op=.call { callee:=.builtin .min,args:=#[x,y],argTypes:=ts }:=by exact rfl) (hx:opd m x=some (.int .i64 i):=by exact rfl) (hy:opd m y=some (.int .i64 j):=by exact rfl) (hz:min i j=z:=by omega) (hd:o.dst=some d:=by exact rfl) (hw:wantM ops m o=some true:=by exact rfl) (hp:Nat.blt d n=true:=by exact rfl)
 (k:∀ a',Fr n ((d,.int .i64 z)::m) a'→seqN P ops ex Q S rl a' w):seqN P ops ex Q S (g::rl) a w:=by
 have e:(if j < i then j else i)=z:=by rw [← hz];split <;> omega
 exact n_val F hg ht (fun w=>by simp [execOp,ho,F.g hx,F.g hy,resolve,invoke,builtin,run_min_int2,e]) hw hd hp k
theorem nMnN {p q:Nat} (F:Fr n m a) (hg:ops[g]? = some o:=by exact rfl) (ht:((tkOf o && !ex.contains g) && !ldOf o)=true:=by exact rfl) (ho:o.op=.call { callee:=.builtin .min,args:=#[x,y],argTypes:=ts }:=by exact rfl) (hx:opd m x=some (.int .i64 ((p:Nat):Int)):=by exact rfl) (hy:opd m y=some (.int .i64 ((q:Nat):Int)):=by exact rfl) (hd:o.dst=some d:=by exact rfl) (hw:wantM ops m o=some true:=by exact rfl) (hp:Nat.blt d n=true:=by exact rfl)
 (k:∀ a',Fr n ((d,.int .i64 ((min p q:Nat):Int))::m) a'→seqN P ops ex Q S rl a' w):seqN P ops ex Q S (g::rl) a w:=nMn F _ hg ht ho hx hy (by omega) hd hw hp k
theorem nSh {t:Nat} {hi:Operand} {s:ByteArray} {z:Int} {h:Nat} [I:UTc P t .string] (F:Fr n m a) (hg:ops[g]? = some o:=by exact rfl) (ht:((tkOf o && !ex.contains g) && !ldOf o)=true:=by exact rfl) (ho:o.op=.slice t x none (some hi) none:=by exact rfl) (hx:opd m x=some (.string s):=by exact rfl) (hy:opd m hi=some (.int .i64 z):=by exact rfl) (hz:z=((h:Nat):Int):=by exact rfl) (hh:h≤s.size:=by exact Nat.min_le_right _ _) (hd:o.dst=some d:=by exact rfl) (hw:wantM ops m o=some true:=by exact rfl) (hp:Nat.blt d n=true:=by exact rfl)
 (k:(s.extract 0 h).size=h→∀ a',Fr n ((d,.string (s.extract 0 h))::m) a'→seqN P ops ex Q S rl a' w):seqN P ops ex Q S (g::rl) a w:=by
 subst hz
 exact n_val F hg ht (fun _=>r_sliceS I.h ho (F.g hx) rfl (F.g hy) (Nat.zero_le _) hh rfl) hw hd hp (k (by rw [ByteArray.size_extract];omega))
end
structure BL where
 a:Option Addr
 n:Nat
 c:Nat
 l:List Nat
abbrev BL.val (x:BL):Value:=.slice x.a x.n x.c
abbrev owBX (x:BL):Atom:=owX 5 (.slice x.a x.n x.c) x.l
abbrev owBO (x:BL):Atom:=ow 5 1 encB okB (.slice x.a x.n x.c) x.l
section
variable {P:Program} {ops:Array Oper} {Q:Exit→Act→World→Prop} {o:Oper} {a:Act} {K:Act→World→Prop} {w:World} {d n:Nat} {x y z:Operand} {m:List (Nat × Value)} {ts:Array TypeId} {i j k:Int}
theorem kMn3 (F:Fr n m a) (v:Int) (ho:o.op=.call { callee:=.builtin .min,args:=#[x,y,z],argTypes:=ts }:=by exact rfl) (hx:opd m x=some (.int .i64 i):=by exact rfl) (hy:opd m y=some (.int .i64 j):=by exact rfl) (hz:opd m z=some (.int .i64 k):=by exact rfl) (hv:min (min i j) k=v:=by omega) (hd:o.dst=some d:=by exact rfl) (hw:wantM ops m o=some true:=by exact rfl) (hp:Nat.blt d n=true:=by exact rfl)
 (kk:∀ a',Fr n ((d,.int .i64 v)::m) a'→K a' w):st1 P ops Q o K a w:=by
 have e:(if k < (if j < i then j else i) then k else (if j < i then j else i))=v:=by rw [← hv];split <;> split <;> omega
 exact f_val F (wantM_eq F hw) hd (by simp [execOp,ho,F.g hx,F.g hy,F.g hz,resolve,invoke,builtin,Builtin.min_,Builtin.min2,e]) hp kk
theorem kSl2 {t:Nat} {lo hi:Operand} {s:ByteArray} {z1 z2:Int} [I:UTc P t .string] (F:Fr n m a) (l h:Nat) (ho:o.op=.slice t x (some lo) (some hi) none:=by exact rfl) (hx:opd m x=some (.string s):=by exact rfl) (h1:opd m lo=some (.int .i64 z1):=by exact rfl) (h2:opd m hi=some (.int .i64 z2):=by exact rfl) (hz1:z1=((l:Nat):Int):=by first|rfl|omega) (hz2:z2=((h:Nat):Int):=by first|rfl|omega) (hl:l≤h:=by omega) (hh:h≤s.size:=by omega) (hd:o.dst=some d:=by exact rfl) (hw:wantM ops m o=some true:=by exact rfl) (hp:Nat.blt d n=true:=by exact rfl)
 (kk:(s.extract l h).size=h - l→∀ a',Fr n ((d,.string (s.extract l h))::m) a'→K a' w):st1 P ops Q o K a w:=by
 subst hz1 hz2
 exact f_val F (wantM_eq F hw) hd (r_sliceS I.h ho (F.g hx) (F.g h1) (F.g h2) hl hh rfl) hp (kk (by rw [ByteArray.size_extract];omega))
end
theorem kE0 {P:Program} {ops:Array Oper} {Q:Exit→Act→World→Prop} {S:World→Prop} {rl ex:List Nat} {i:Nat} {w:World} {R:Act→Prop} (k:∀ a',R a'→seqN P ops ex Q S rl a' w):∀ a',R a'→(ndOf ops ex i=true→S w→S w)∧seqN P ops ex Q S rl a' w:=fun a' h'=>⟨fun _ h=>h,k a' h'⟩
theorem St.pick {L0 L:List Atom} {w0 w:World} (M:St L0 w0 L w) (is:List Nat) (L':List Atom) (h:okSel L.length is=true:=by exact rfl) (e:sel L is=L':=by exact rfl):St L0 w0 L' w:=by
 subst e
 exact M.then ((Mv.refl M.at').pick is h)
theorem kIx2 {P:Program} {ops:Array Oper} {Q:Exit→Act→World→Prop} {o:Oper} {a:Act} {w:World} {d t n:Nat} {x y:Operand} {m:List (Nat × Value)} {K:Act→World→Prop} {s:ByteArray} {z:Int} [I:UTc P t .string] (F:Fr n m a) (i:Nat) (ho:o.op=.index t x y:=by exact rfl) (hx:opd m x=some (.string s):=by exact rfl) (hy:opd m y=some (.int .i64 z):=by exact rfl) (hz:z=((i:Nat):Int):=by first|rfl|omega) (hi:i < s.size:=by omega) (hd:o.dst=some d:=by exact rfl) (hw:wantM ops m o=some true:=by exact rfl) (hp:Nat.blt d n=true:=by exact rfl)
 (k:∀ a',Fr n ((d,.int .u8 (byteAt s i))::m) a'→K a' w):st1 P ops Q o K a w:=
 f_val F (wantM_eq F hw) hd (r_indexS I.h ho (F.g hx) (F.g hy) hz hi) hp k
theorem St.toD {X:Uni} {b u:Nat} {v:MV} {D D':List CellD} {L0 L:List Atom} {w0 w:World} (M:St L0 w0 (mB X b v D u::L) w) (e:D=D'):St L0 w0 (mB X b v D' u::L) w:=e ▸ M
theorem Sp.toD {X:Uni} {H:Nat→Prop} {w0 w:World} {L:List Atom} {v:MV} {D D':List CellD} {u:Nat} (M:Sp X H w0 L w v D u) (e:D=D'):Sp X H w0 L w v D' u:=e ▸ M
end Go.Proofs.YtipdbeklopjbmaaGreatDoor
