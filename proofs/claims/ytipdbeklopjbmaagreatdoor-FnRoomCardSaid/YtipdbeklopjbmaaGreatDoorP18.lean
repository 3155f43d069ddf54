/-
  Texts laid together: MC, KaI, KaS.
-/
import Derived.Test.YtipdbeklopjbmaaGreatDoorMB
import Derived.Test.YtipdbeklopjbmaaGreatDoorP14
import Derived.Test.YtipdbeklopjbmaaGreatDoorP17
set_option linter.unusedVariables false
set_option linter.unusedSimpArgs false
namespace Go.Proofs.YtipdbeklopjbmaaGreatDoor
open Go.ChangeShapes Go.WideShapes Go.ChangeAt Go.RowKit Go.Proofs.Tryz
section
variable {X:Uni} {w:World} {b u u':Nat} {v:MV} {D:List CellD} {key val pfx:ByteArray} {H:Nat→Prop}
def noq {ρ σ:Type} (_:ρ) (_:σ):Prop:=True
theorem Jbk (hU:∀ R W,Un X u D R W→Un X u' D (JI R key) W) (hA:AT w [mB X b v D u]) (hu:u≤68719476736) (h:okS key) :
 Calls prog 335 #[pT b,.string key] w (PI X b v D u w (fun r (_:Unit)=>.string r) (Jl D key) D u' fun r _=>r.size≤1048576):=by
 obtain ⟨R,W,h1,h2⟩:=J46 hA.at'
 have hb:=h2.bd
 refine (Jcy (H:=fun _=>True) (m:=⟨D,⟨R,W⟩⟩) h (by show R.length≤_;omega) h1).mono ?_
 rintro e w' ⟨sa,sn,sc,ra,rn,rc,wa,wn,wc,rfl,m,_⟩
 exact ⟨⟨sa,ra,wa,sn,sc,rn,rc,wn,wc⟩,(),rfl,J5H m (hU _ _ h2),J98 hb.2.2.2⟩
theorem J7p (hA:AT w [mB X b v D u]) (hu:u≤68719476736:=by omega) (h:okS key:=by exact yi):Calls prog 335 #[pT b,.string key] w (PI X b v D u w (fun r (_:Unit)=>.string r) (Jl D key) D (u+1) fun r _=>r.size≤1048576):=Jbk (fun _ _ h=>h.look) hA hu h
theorem JaX (hk:knw X D key) (hA:AT w [mB X b v D u]) (hu:u≤68719476736:=by omega) (h:okS key:=by exact yi):Calls prog 335 #[pT b,.string key] w (PI X b v D u w (fun r (_:Unit)=>.string r) (Jl D key) D u fun r _=>r.size≤1048576):=Jbk (fun _ _ h=>h.lookK hk) hA hu h
theorem JbJ (hU:∀ R W,Un X u D R W→Un X u' (Jp D key val) R (JI W key)) (hA:AT w [mB X b v D u]) (hu:u≤68719476736) (h:okS key) (h':okS val) :
 Calls prog 324 #[pT b,.string key,.string val] w (PI X b v D u w (fun (_:Unit) (_:Unit)=>.tuple #[]) () (Jp D key val) u' noq):=by
 obtain ⟨R,W,h1,h2⟩:=J46 hA.at'
 have hb:=h2.bd
 refine (J86 (H:=fun _=>True) (m:=⟨D,⟨R,W⟩⟩) h h' (by show D.length≤_;omega) (by show W.length≤_;omega) h1).mono ?_
 rintro e w' ⟨sa,sn,sc,ra,rn,rc,wa,wn,wc,rfl,m⟩
 exact ⟨⟨sa,ra,wa,sn,sc,rn,rc,wn,wc⟩,(),rfl,J5H m (hU _ _ h2),trivial⟩
theorem J1j (hp:npg X key) (hA:AT w [mB X b v D u]) (hu:u≤68719476736:=by omega) (h:okS key:=by exact yi) (h':okS val:=by exact yi):Calls prog 324 #[pT b,.string key,.string val] w (PI X b v D u w (fun (_:Unit) (_:Unit)=>.tuple #[]) () (Jp D key val) (u+1) noq):=JbJ (fun _ _ h=>h.lay (.inr hp)) hA hu h h'
theorem J5G (hk:knw X D key) (hp:val=⟨#[]⟩∨npg X key) (hA:AT w [mB X b v D u]) (hu:u≤68719476736:=by omega) (h:okS key:=by exact yi) (h':okS val:=by exact yi):Calls prog 324 #[pT b,.string key,.string val] w (PI X b v D u w (fun (_:Unit) (_:Unit)=>.tuple #[]) () (Jp D key val) u noq):=JbJ (fun _ _ h=>h.layK hk hp) hA hu h h'
theorem J8J:∀ (ks:List ByteArray) (m:MachD),(J1w m ks).store=ks.foldl (fun D k=>Jp D k ⟨#[]⟩) m.store
 | [],_=>rfl
 | k::ks,m=>by
  show (J1w (J1M m k ⟨#[]⟩) ks).store=_
  rw [J8J ks];rfl
theorem Jac {U:List ByteArray} : ∀ (ks:List ByteArray) (m:MachD),UnU X U m.store m.touch.reads m.touch.writes→(∀ k ∈ ks,k ∈ U)→UnU X U (J1w m ks).store (J1w m ks).touch.reads (J1w m ks).touch.writes
 | [],_,h,_=>h
 | k::ks,m,h,hk=>Jac ks (J1M m k ⟨#[]⟩) (h.lay (hk k (List.mem_cons_self ..)) (.inl rfl)) fun x hx=>hk x (List.mem_cons_of_mem _ hx)
theorem JgX {R W:List ByteArray} (h:Un X u D R W):Un X (u+1) (J2x ⟨D,⟨R,W⟩⟩ pfx).store (J2x ⟨D,⟨R,W⟩⟩ pfx).touch.reads (J2x ⟨D,⟨R,W⟩⟩ pfx).touch.writes:=by
 obtain ⟨U,h1,h2⟩:=h
 obtain ⟨V,h3,h4,h5⟩:=h2.add (pfx++(bA [42]))
 refine ⟨V,zO,Jac _ _ (h5.look h4) fun k hk=>?_⟩
 obtain ⟨⟨c,hc,rfl⟩,_⟩:=J4l.1 hk
 exact h5.ks c hc
theorem J7z (hA:AT w [mB X b v D u]) (hu:u≤68718428160:=by omega) (h:okS pfx:=by assumption) (hp:pfx.size≤1000000:=by first|omega|exact Nat.le_trans (ksz ym (by decide)) (by decide)) :
 Calls prog 325 #[pT b,.string pfx] w (PI X b v D u w (fun (_:Unit) (_:Unit)=>.tuple #[]) () (J1Y D pfx) (u+1) noq):=by
 obtain ⟨R,W,h1,h2⟩:=J46 hA.at'
 have hb:=h2.bd
 refine (Jcz (H:=fun _=>True) (m:=⟨D,⟨R,W⟩⟩) h (by show D.length≤_;omega) (by show R.length≤_;omega) (by show W.length≤_;omega) zO h1).mono ?_
 rintro e w' ⟨sa,sn,sc,ra,rn,rc,wa,wn,wc,rfl,m⟩
 refine ⟨⟨sa,ra,wa,sn,sc,rn,rc,wn,wc⟩,(),rfl,?_,trivial⟩
 have:=J5H (u:=u) (v':=⟨sa,ra,wa,sn,sc,rn,rc,wn,wc⟩) m (JgX (pfx:=pfx) h2)
 rw [show (J2x ⟨D,⟨R,W⟩⟩ pfx).store=J1Y D pfx from J8J _ _] at this
 exact this
theorem JaW (hU:∀ R W,Un X u D R W→Un X u' D (JI R key) W) (hm:RM X H w v D u) (hu:u≤68719476736) (h:okS key) :
 Calls prog 293 #[v.val,.string key] w (PS X H w (fun v r (_:Unit)=>.tuple #[v.val,.string r]) (Jl D key) D u' fun r _=>r.size≤1048576):=by
 obtain ⟨R,W,g1,g2,g3,h2⟩:=hm
 have hb:=h2.bd
 refine (Jd1 (m:=⟨D,⟨R,W⟩⟩) g1 g2 g3 h (by show R.length≤_;omega)).mono ?_
 rintro e w' ⟨sa,sn,sc,ra,rn,rc,wa,wn,wc,rfl,m,k1,k2,k3,_⟩
 exact ⟨⟨sa,ra,wa,sn,sc,rn,rc,wn,wc⟩,(),rfl,m,⟨_,_,k1,k2,k3,hU _ _ h2⟩,J98 hb.2.2.2⟩
theorem J4G (_:TbO w []) (hm:RM X H w v D u) (hu:u≤68719476736:=by omega) (h:okS key:=by exact yi):Calls prog 293 #[v.val,.string key] w (PS X H w (fun v r (_:Unit)=>.tuple #[v.val,.string r]) (Jl D key) D (u+1) fun r _=>r.size≤1048576):=JaW (fun _ _ h=>h.look) hm hu h
theorem Jgr (hk:knw X D key) (_:TbO w []) (hm:RM X H w v D u) (hu:u≤68719476736:=by omega) (h:okS key:=by exact yi):Calls prog 293 #[v.val,.string key] w (PS X H w (fun v r (_:Unit)=>.tuple #[v.val,.string r]) (Jl D key) D u fun r _=>r.size≤1048576):=JaW (fun _ _ h=>h.lookK hk) hm hu h
theorem Jbj (hU:∀ R W,Un X u D R W→Un X u' (Jp D key val) R (JI W key)) (hm:RM X H w v D u) (hu:u≤68719476736) (h:okS key) (h':okS val) :
 Calls prog 284 #[v.val,.string key,.string val] w (PS X H w (fun v (_:Unit) (_:Unit)=>v.val) () (Jp D key val) u' noq):=by
 obtain ⟨R,W,g1,g2,g3,h2⟩:=hm
 have hb:=h2.bd
 refine (Jdp (m:=⟨D,⟨R,W⟩⟩) g1 g2 g3 h h' (by show D.length≤_;omega) (by show W.length≤_;omega)).mono ?_
 rintro e w' ⟨sa,sn,sc,ra,rn,rc,wa,wn,wc,rfl,m,k1,k2,k3⟩
 exact ⟨⟨sa,ra,wa,sn,sc,rn,rc,wn,wc⟩,(),rfl,m,⟨_,_,k1,k2,k3,hU _ _ h2⟩,trivial⟩
theorem J1I (hp:npg X key) (_:TbO w []) (hm:RM X H w v D u) (hu:u≤68719476736:=by omega) (h:okS key:=by exact yi) (h':okS val:=by exact yi):Calls prog 284 #[v.val,.string key,.string val] w (PS X H w (fun v (_:Unit) (_:Unit)=>v.val) () (Jp D key val) (u+1) noq):=Jbj (fun _ _ h=>h.lay (.inr hp)) hm hu h h'
theorem J5z (hk:knw X D key) (hp:val=⟨#[]⟩∨npg X key) (_:TbO w []) (hm:RM X H w v D u) (hu:u≤68719476736:=by omega) (h:okS key:=by exact yi) (h':okS val:=by exact yi):Calls prog 284 #[v.val,.string key,.string val] w (PS X H w (fun v (_:Unit) (_:Unit)=>v.val) () (Jp D key val) u noq):=Jbj (fun _ _ h=>h.layK hk hp) hm hu h h'
theorem Ja9 {s:SL} (hn:s.n=(Jt D pfx).length) (hD:D.length≤68719476736) (hc:J0t D):KOk s (Jt D pfx) pfx:=
 ⟨hn,by have:=J4i D pfx;omega,fun x hx=>by
  obtain ⟨⟨c,hc',rfl⟩,_⟩:=J4l.1 hx
  exact (hc c hc').1,fun x hx=>(J4l.1 hx).2⟩
theorem J5t (hA:AT w [mB X b v D u]) (hu:u≤68718428160:=by omega) (h:okS pfx:=by exact yBo) (hp:pfx.size≤1000000:=by first|decide|omega|exact Nat.le_trans (ksz ym (by decide)) (by decide)) :
 Calls prog 327 #[pT b,.string pfx] w (PIU X b v D u w (Jt D pfx) pfx D (u+1)):=by
 obtain ⟨R,W,h1,h2⟩:=J46 hA.at'
 have hb:=h2.bd
 refine (J82 (H:=fun _=>True) (m:=⟨D,⟨R,W⟩⟩) h (by show D.length≤_;omega) (by show R.length≤_;omega) zO h1).mono ?_
 rintro e w' ⟨ka,kn,kc,sa,sn,sc,ra,rn,rc,wa,wn,wc,rfl,m⟩
 have:=m.at'.ownInv strT.hk 0 rfl
 exact ⟨⟨sa,ra,wa,sn,sc,rn,rc,wn,wc⟩,⟨ka,kn,kc⟩,rfl,Jho (N:=[owK ⟨ka,kn,kc⟩ _]) m h2.look,Ja9 this.1 zO hb.2.2.2⟩
theorem J5u (_:TbO w []) (hm:RM X H w v D u) (hu:u≤68718428160:=by omega) (h:okS pfx:=by exact yBo) (hp:pfx.size≤1000000:=by first|decide|omega|exact Nat.le_trans (ksz ym (by decide)) (by decide)) :
 Calls prog 296 #[v.val,.string pfx] w (PSU X H w (Jt D pfx) pfx D (u+1)):=by
 obtain ⟨R,W,g1,g2,g3,h2⟩:=hm
 have hb:=h2.bd
 refine (JcL (m:=⟨D,⟨R,W⟩⟩) g1 g2 g3 h (by show D.length≤_;omega) (by show R.length≤_;omega) zO).mono ?_
 rintro e w' ⟨sa,sn,sc,ra,rn,rc,wa,wn,wc,ka,kn,kc,rfl,m,k1,k2,k3⟩
 have:=m.at'.ownInv strT.hk 0 rfl
 have hH:∀ c,V (HP H []) w [owK ⟨ka,kn,kc⟩ (Jt D pfx)] c→V H w [owK ⟨ka,kn,kc⟩ (Jt D pfx)] c:=fun c hc=>⟨hc.1.imp (fun h=>h.resolve_right (JF _)) id,hc.2⟩
 exact ⟨⟨sa,ra,wa,sn,sc,rn,rc,wn,wc⟩,⟨ka,kn,kc⟩,rfl,m,⟨_,_,k1.mono hH,k2.mono hH,k3.mono hH,h2.look⟩,Ja9 this.1 zO hb.2.2.2⟩
end
set_option maxRecDepth 100000
set_option maxHeartbeats 1000000
section
set_option maxHeartbeats 8000000
variable {X:Uni} {w:World} {b u:Nat} {v:MV} {D:List CellD} {H:Nat→Prop}
theorem J1T {n:Int} {lo:Int} {hi:Int} (hT:TbO w []) (h_n:J1 n:=by exact ym) (h_lo:J1 lo:=by exact ym) (h_hi:J1 hi:=by exact ym) :
 Calls prog 93 #[iV n,iV lo,iV hi] w (PO w (fun (s:Unit)=>.bool (inB n lo hi)) (fun _=>True)):=by
 refine (J3M (H:=fun _=>True) h_n h_lo h_hi).mono ?_
 rintro e w' ⟨rfl,m⟩
 exact ⟨(),rfl,m,trivial⟩
theorem J3x {key:ByteArray} (hT:TbO w []) (h_key:okS key:=by exact yi) :
 Calls prog 318 #[.string key] w (PO w (fun (s:Unit)=>.bool (J14 key)) (fun _=>True)):=by
 refine (Jd8 (H:=fun _=>True) h_key).mono ?_
 rintro e w' ⟨rfl,m⟩
 exact ⟨(),rfl,m,trivial⟩
theorem J0U {hd:ByteArray} {n:Int} {tl:ByteArray} (hT:TbO w []) (h_hd:okS hd:=by exact yi) (h_n:J1 n:=by exact ym) (h_tl:okS tl:=by exact yi) (p0:hd.size≤1000:=by exact yz) (p1:tl.size≤1000:=by exact yz) :
 Calls prog 326 #[.string hd,iV n,.string tl] w (PO w (fun (s:Unit)=>.string (Ju hd n tl)) (fun _=>okS (Ju hd n tl))):=by
 refine (Jd6 (H:=fun _=>True) h_hd h_n h_tl (hT.t0.mono fun _ _=>trivial) p0 p1).mono ?_
 rintro e w' ⟨rfl,m,ok⟩
 exact ⟨(),rfl,m,ok⟩
theorem J44 {x:ByteArray} (hT:TbO w []) (h_x:okS x:=by exact yi) (p0:x.size≤20000:=by omega) :
 Calls prog 153 #[.string x] w (PO w (fun (s:Unit)=>.string (Js x)) (fun _=>(Js x).size=2 * x.size)):=by
 refine (J6f (H:=fun _=>True) h_x p0).mono ?_
 rintro e w' ⟨rfl,m,ok⟩
 exact ⟨(),rfl,m,J2H _⟩
theorem J5q {x:ByteArray} (hT:TbO w []) (h_x:okS x:=by exact yi) (p0:x.size≤1048576:=by exact yq) :
 Calls prog 337 #[.string x] w (PO w (fun (s:Unit)=>iV ((JS x:Nat):Int)) (fun _=>JS x≤999)):=by
 refine (Jdy (H:=fun _=>True) h_x (hT.t0.mono fun _ _=>trivial) (hT.t1.mono fun _ _=>trivial) zO).mono ?_
 rintro e w' ⟨rfl,m⟩
 exact ⟨(),rfl,m,J9U _⟩
theorem Jiy {x:ByteArray} (hT:TbO w []) (h_x:okS x:=by exact yi) (p0:x.size≤1048576:=by assumption) :
 Calls prog 364 #[.string x] w (PO w (fun (s:Unit)=>.string (J39 x)) (fun _=>okS (J39 x))):=by
 refine (JcB (H:=fun _=>True) h_x (hT.t2.mono fun _ _=>trivial) zO).mono ?_
 rintro e w' ⟨rfl,m,ok⟩
 exact ⟨(),rfl,m,ok⟩
theorem JgV {x:ByteArray} (hT:TbO w []) (h_x:okS x:=by exact yi) (p0:x.size≤1048576:=by assumption) :
 Calls prog 141 #[.string x] w (PO w (fun (s:Unit)=>.tuple #[.string (JK x),.bool (J0k x)]) (fun _=>okS (JK x))):=by
 refine (J8r (H:=fun _=>True) h_x (hT.t2.mono fun _ _=>trivial) zO).mono ?_
 rintro e w' ⟨rfl,m,ok⟩
 exact ⟨(),rfl,m,ok⟩
theorem J2j {id:Int} {tl:ByteArray} (hT:TbO w []) (h_id:J1 id:=by exact ym) (h_tl:okS tl:=by exact yi) (p0:tl.size≤1000:=by exact yz) :
 Calls prog 331 #[iV id,.string tl] w (PO w (fun (s:Unit)=>.string (kP id tl)) (fun _=>okS (kP id tl))):=by
 have M:St [] w [] w:=⟨Mv.refl (At.nil _),hT⟩
 refine zE (f:=331) fun _ F=>?_
 refine J0 (kO F M (hc:=J0U M.nil.tb) (k:=fun s1 w q1 M=>zk fun _ F=>?_))
 refine zd1 F ?_
 exact ⟨(),rfl,M.mv,(by assumption)⟩
theorem J2I {id:Int} {tl:ByteArray} (hT:TbO w []) (h_id:J1 id:=by exact ym) (h_tl:okS tl:=by exact yi) (p0:tl.size≤1000:=by exact yz) :
 Calls prog 317 #[iV id,.string tl] w (PO w (fun (s:Unit)=>.string (kR id tl)) (fun _=>okS (kR id tl))):=by
 have M:St [] w [] w:=⟨Mv.refl (At.nil _),hT⟩
 refine zE (f:=317) fun _ F=>?_
 refine J0 (kO F M (hc:=J0U M.nil.tb) (k:=fun s1 w q1 M=>zk fun _ F=>?_))
 refine zd1 F ?_
 exact ⟨(),rfl,M.mv,(by assumption)⟩
theorem J1S {id:Int} {tl:ByteArray} (hT:TbO w []) (h_id:J1 id:=by exact ym) (h_tl:okS tl:=by exact yi) (p0:tl.size≤1000:=by exact yz) :
 Calls prog 338 #[iV id,.string tl] w (PO w (fun (s:Unit)=>.string (kG id tl)) (fun _=>okS (kG id tl))):=by
 have M:St [] w [] w:=⟨Mv.refl (At.nil _),hT⟩
 refine zE (f:=338) fun _ F=>?_
 refine J0 (kO F M (hc:=J0U M.nil.tb) (k:=fun s1 w q1 M=>zk fun _ F=>?_))
 refine zd1 F ?_
 exact ⟨(),rfl,M.mv,(by assumption)⟩
theorem J4r {id:Int} (hT:TbO w []) (h_id:J1 id:=by exact ym) :
 Calls prog 323 #[iV id] w (PO w (fun (s:Unit)=>.string (kL id)) (fun _=>okS (kL id))):=by
 have M:St [] w [] w:=⟨Mv.refl (At.nil _),hT⟩
 refine zE (f:=323) fun _ F=>?_
 refine J0 (kO F M (hc:=J0U M.nil.tb) (k:=fun s1 w q1 M=>zk fun _ F=>?_))
 refine zd1 F ?_
 exact ⟨(),rfl,M.mv,(by assumption)⟩
theorem J3U {id:Int} (hT:TbO w []) (h_id:J1 id:=by exact ym) :
 Calls prog 361 #[iV id] w (PO w (fun (s:Unit)=>.string (kIs id)) (fun _=>okS (kIs id))):=by
 have M:St [] w [] w:=⟨Mv.refl (At.nil _),hT⟩
 refine zE (f:=361) fun _ F=>?_
 refine J0 (kO F M (hc:=J0U M.nil.tb) (k:=fun s1 w q1 M=>zk fun _ F=>?_))
 refine zd1 F ?_
 exact ⟨(),rfl,M.mv,(by assumption)⟩
theorem J3r {id:Int} (hT:TbO w []) (h_id:J1 id:=by exact ym) :
 Calls prog 334 #[iV id] w (PO w (fun (s:Unit)=>.string (kPg id)) (fun _=>okS (kPg id))):=by
 have M:St [] w [] w:=⟨Mv.refl (At.nil _),hT⟩
 refine zE (f:=334) fun _ F=>?_
 refine J0 (kO F M (hc:=J0U M.nil.tb) (k:=fun s1 w q1 M=>zk fun _ F=>?_))
 refine zd1 F ?_
 exact ⟨(),rfl,M.mv,(by assumption)⟩
theorem J3P {id:Int} {p:Int} (hT:TbO w []) (h_id:J1 id:=by exact ym) (h_p:J1 p:=by exact ym) :
 Calls prog 363 #[iV id,iV p] w (PO w (fun (s:Unit)=>.string (kIb id p)) (fun _=>okS (kIb id p))):=by
 have M:St [] w [] w:=⟨Mv.refl (At.nil _),hT⟩
 refine zE (f:=363) fun _ F=>?_
 refine J0 (kO F M (hc:=J0U M.nil.tb) (k:=fun s1 w q1 M=>zk fun _ F=>?_))
 refine J0 (kO F M (hc:=J0U M.nil.tb) (k:=fun s2 w q2 M=>zk fun _ F=>?_))
 refine zd1 F ?_
 exact ⟨(),rfl,M.mv,(by assumption)⟩
theorem J30 {x:ByteArray} (hT:TbO w []) (h_x:okS x:=by exact yi) (p0:x.size≤12:=by first|omega|exact J1m (nf (by assumption))) :
 Calls prog 322 #[.string x] w (PO w (fun (s:Unit)=>.string (kNm x)) (fun _=>okS (kNm x))):=by
 refine (JcT (H:=fun _=>True) h_x p0).mono ?_
 rintro e w' ⟨rfl,m,ok⟩
 exact ⟨(),rfl,m,ok⟩
theorem J7D {n:Int} (hT:TbO w []) (h_n:J1 n:=by exact ym) :
 Calls prog 151 #[iV n] w (PO w (fun (s:Unit)=>.string (Jj n)) (fun _=>okS (Jj n))):=by
 refine (J4j (H:=fun _=>True) h_n (hT.t0.mono fun _ _=>trivial)).mono ?_
 rintro e w' ⟨rfl,m,ok⟩
 exact ⟨(),rfl,m,ok⟩
theorem J0u {key:ByteArray} (hA:AT w [mB X b v D u]) (hu:u+1≤68718428160:=by omega) (h_key:okS key:=by exact yi) :
 Calls prog 316 #[pT b,.string key] w (PI X b v D u w (fun (r:Int) (s:Unit)=>iV r) (Ja D key) D (u+1) (fun (r:Int) (_:Unit)=>0≤r∧r≤999)):=by
 have M:=St.start hA
 refine zE (f:=316) fun _ F=>?_
 refine J0 (kI F M (hc:=J7p M.hd) (k:=fun v s1 w q1 M=>zk fun _ F=>?_))
 refine J0 (kO F M (hc:=J5q M.nil.tb) (k:=fun s2 w q2 M=>zk fun _ F=>?_))
 refine zd1 F ?_
 exact zfI M _ () (⟨zO,zO⟩) (rfl)
theorem J0B {key:ByteArray} {n:Int} (hA:AT w [mB X b v D u]) (hu:u+1≤68718428160:=by omega) (h_key:okS key:=by exact yi) (h_n:J1 n:=by exact ym) (p0:npg X key:=by exact nmp) :
 Calls prog 321 #[pT b,.string key,iV n] w (PI X b v D u w (fun (r:Unit) (s:Unit)=>.tuple #[]) () (JG D key n) (u+1) noq):=by
 have M:=St.start hA
 refine zE (f:=321) fun _ F=>?_
 refine J0 (kO F M (hc:=J1T M.nil.tb) (k:=fun s1 w q1 M=>zk fun _ F=>?_))
 refine zib F (fun h2=>?_) fun h2=>?_
 ·have hi2:=J0K h2;refine zr2 fun _ F=>?_
  refine J0 (kO F M (hc:=J7D M.nil.tb) (k:=fun s3 w q3 M=>zk fun _ F=>?_))
  refine J0 (kI F M (hc:=J1j p0 M.hd) (k:=fun v s4 w q4 M=>zk fun _ F=>?_))
  refine J2Z F (J31 rfl) ?_
  exact zfI M () () (trivial) (by rw [JG,J2A,if_pos h2])
 refine zr2 fun _ F=>?_
 refine J0 (kI F M (hc:=J1j p0 M.hd) (k:=fun v s5 w q5 M=>zk fun _ F=>?_))
 refine J2Z F (J31 rfl) ?_
 exact zfI M () () (trivial) (by rw [JG,J2A,iFb h2])
theorem J7f {key:ByteArray} (hA:AT w [mB X b v D u]) (hu:u+2≤68718428160:=by omega) (h_key:okS key:=by exact yi) (p0:npg X key:=by exact nmp) :
 Calls prog 320 #[pT b,.string key] w (PI X b v D u w (fun (r:Int) (s:Unit)=>iV r) (J0R D key).1 (J0R D key).2 (u+2) (fun (r:Int) (_:Unit)=>0≤r∧r≤999)):=by
 have M:=St.start hA
 refine zE (f:=320) fun _ F=>?_
 refine J0 (kI F M (hc:=J0u M.hd) (k:=fun v s1 w q1 M=>zk fun _ F=>?_))
 refine zi F (fun h2=>?_) fun h2=>?_
 ·refine zr2 fun _ F=>?_
  refine zd1 F ?_
  exact zfI M _ () (⟨zO,zO⟩) (by rw [J0R,if_pos h2])
 refine zr2 fun _ F=>?_
 refine J0 (kI F M (hc:=J0B M.hd (p0:=p0)) (k:=fun v s3 w q3 M=>zk fun _ F=>?_))
 refine zd1 F ?_
 exact zfI M _ () (⟨zO,zO⟩) (by rw [J0R,if_neg h2])
theorem J3u {x:ByteArray} (hA:AT w [mB X b v D u]) (hu:u+1≤68718428160:=by omega) (h_x:okS x:=by exact yi) :
 Calls prog 319 #[pT b,.string x] w (PI X b v D u w (fun (r:Int) (s:Unit)=>iV r) (JV D x) D (u+1) (fun (r:Int) (_:Unit)=>0≤r∧r≤999)):=by
 have M:=St.start hA
 refine zE (f:=319) fun _ F=>?_
 refine J0 (kO F M (hc:=J3x M.nil.tb) (k:=fun s1 w q1 M=>zk fun _ F=>?_))
 refine zib F (fun h2=>?_) fun h2=>?_
 ·refine zr2 fun _ F=>?_
  refine zd1 F ?_
  exact zfI M _ () (⟨zO,zO⟩) (by rw [JV,if_pos h2])
 have hi2:=J1m (nf h2);refine zr2 fun _ F=>?_
 have hz:=J1m (key:=x) (nf (by assumption))
 refine J0 (kO F M (hc:=J30 M.nil.tb) (k:=fun s3 w q3 M=>zk fun _ F=>?_))
 refine J0 (kI F M (hc:=J0u M.hd) (k:=fun v s4 w q4 M=>zk fun _ F=>?_))
 refine zd1 F ?_
 exact zfI M _ () (⟨zO,zO⟩) (by rw [JV,iFb h2])
theorem J9N {id:Int} (hA:AT w [mB X b v D u]) (hu:u+1≤68718428160:=by omega) (h_id:J1 id:=by exact ym) :
 Calls prog 332 #[pT b,iV id] w (PI X b v D u w (fun (r:Bool) (s:Unit)=>.bool r) (decide (Ja D (kP id (bA [47,111]))=1)) D (u+1) noq):=by
 have M:=St.start hA
 refine zE (f:=332) fun _ F=>?_
 refine J0 (kO F M (hc:=J2j M.nil.tb) (k:=fun s1 w q1 M=>zk fun _ F=>?_))
 refine J0 (kI F M (hc:=J0u M.hd) (k:=fun v s2 w q2 M=>zk fun _ F=>?_))
 refine zd1 F ?_
 exact zfI M _ () (trivial) (rfl)
theorem J9i {key:ByteArray} (hA:AT w [mB X b v D u]) (hu:u+1≤68718428160:=by omega) (h_key:okS key:=by exact yi) :
 Calls prog 333 #[pT b,.string key] w (PI X b v D u w (fun (r:Unit) (s:ByteArray)=>.string s) () D (u+1) (fun (_:Unit) (s:ByteArray)=>okS s)):=by
 have M:=St.start hA
 refine zE (f:=333) fun _ F=>?_
 refine J0 (kI F M (hc:=J7p M.hd) (k:=fun v s1 w q1 M=>zk fun _ F=>?_))
 refine J0 (kO F M (hc:=Jiy M.nil.tb) (k:=fun s2 w q2 M=>zk fun _ F=>?_))
 refine zd1 F ?_
 exact zfI M () _ ((by assumption)) (rfl)
theorem J5r {id:Int} (hA:AT w [mB X b v D u]) (hu:u+1≤68718428160:=by omega) (h_id:J1 id:=by exact ym) :
 Calls prog 237 #[pT b,iV id] w (PI X b v D u w (fun (r:Int) (s:Unit)=>iV r) (Ja D (kR id (bA [47,115]))) D (u+1) (fun (r:Int) (_:Unit)=>0≤r∧r≤999)):=by
 have M:=St.start hA
 refine zE (f:=237) fun _ F=>?_
 refine J0 (kO F M (hc:=J2I M.nil.tb) (k:=fun s1 w q1 M=>zk fun _ F=>?_))
 refine J0 (kI F M (hc:=J0u M.hd) (k:=fun v s2 w q2 M=>zk fun _ F=>?_))
 refine zd1 F ?_
 exact zfI M _ () (⟨zO,zO⟩) (rfl)
theorem J4P {key:ByteArray} (hA:AT w [mB X b v D u]) (hu:u+0≤68718428160:=by omega) (h_key:okS key:=by exact yi) (p0:knw X D key:=by assumption) :
 Calls prog 316 #[pT b,.string key] w (PI X b v D u w (fun (r:Int) (s:Unit)=>iV r) (Ja D key) D u (fun (r:Int) (_:Unit)=>0≤r∧r≤999)):=by
 have M:=St.start hA
 refine zE (f:=316) fun _ F=>?_
 refine J0 (kI F M (hc:=JaX p0 M.hd) (k:=fun v s1 w q1 M=>zk fun _ F=>?_))
 refine J0 (kO F M (hc:=J5q M.nil.tb) (k:=fun s2 w q2 M=>zk fun _ F=>?_))
 refine zd1 F ?_
 exact zfI M _ () (⟨zO,zO⟩) (rfl)
theorem Ja3 {key:ByteArray} {n:Int} (hA:AT w [mB X b v D u]) (hu:u+0≤68718428160:=by omega) (h_key:okS key:=by exact yi) (h_n:J1 n:=by exact ym) (p0:knw X D key:=by assumption) (p1:npg X key:=by exact nmp) :
 Calls prog 321 #[pT b,.string key,iV n] w (PI X b v D u w (fun (r:Unit) (s:Unit)=>.tuple #[]) () (JG D key n) u noq):=by
 have M:=St.start hA
 refine zE (f:=321) fun _ F=>?_
 refine J0 (kO F M (hc:=J1T M.nil.tb) (k:=fun s1 w q1 M=>zk fun _ F=>?_))
 refine zib F (fun h2=>?_) fun h2=>?_
 ·have hi2:=J0K h2;refine zr2 fun _ F=>?_
  refine J0 (kO F M (hc:=J7D M.nil.tb) (k:=fun s3 w q3 M=>zk fun _ F=>?_))
  refine J0 (kI F M (hc:=J5G p0 (.inr p1) M.hd) (k:=fun v s4 w q4 M=>zk fun _ F=>?_))
  refine J2Z F (J31 rfl) ?_
  exact zfI M () () (trivial) (by rw [JG,J2A,if_pos h2])
 refine zr2 fun _ F=>?_
 refine J0 (kI F M (hc:=J5G p0 (.inr p1) M.hd) (k:=fun v s5 w q5 M=>zk fun _ F=>?_))
 refine J2Z F (J31 rfl) ?_
 exact zfI M () () (trivial) (by rw [JG,J2A,iFb h2])
theorem JgS {id:Int} (hA:AT w [mB X b v D u]) (hu:u+0≤68718428160:=by omega) (h_id:J1 id:=by exact ym) (p0:sgK X id:=by assumption) :
 Calls prog 237 #[pT b,iV id] w (PI X b v D u w (fun (r:Int) (s:Unit)=>iV r) (Ja D (kR id (bA [47,115]))) D u (fun (r:Int) (_:Unit)=>0≤r∧r≤999)):=by
 have M:=St.start hA
 refine zE (f:=237) fun _ F=>?_
 refine J0 (kO F M (hc:=J2I M.nil.tb) (k:=fun s1 w q1 M=>zk fun _ F=>?_))
 refine J0 (kI F M (hc:=J4P M.hd (p0:=.inl p0.1)) (k:=fun v s2 w q2 M=>zk fun _ F=>?_))
 refine zd1 F ?_
 exact zfI M _ () (⟨zO,zO⟩) (rfl)
end
set_option maxRecDepth 100000
set_option maxHeartbeats 1000000
section
set_option maxHeartbeats 8000000
variable {X:Uni} {w:World} {b u:Nat} {v:MV} {D:List CellD} {H:Nat→Prop}
theorem J33 {n:Int} {lo:Int} {hi:Int} (hT:TbO w []) (h_n:J1 n:=by exact ym) (h_lo:J1 lo:=by exact ym) (h_hi:J1 hi:=by exact ym) :
 Calls prog 87 #[iV n,iV lo,iV hi] w (PO w (fun (s:Unit)=>.bool (inB n lo hi)) (fun _=>True)):=by
 refine (J2Y (H:=fun _=>True) h_n h_lo h_hi).mono ?_
 rintro e w' ⟨rfl,m⟩
 exact ⟨(),rfl,m,trivial⟩
theorem J40 {key:ByteArray} (hT:TbO w []) (h_key:okS key:=by exact yi) :
 Calls prog 281 #[.string key] w (PO w (fun (s:Unit)=>.bool (J14 key)) (fun _=>True)):=by
 refine (Jdl (H:=fun _=>True) h_key).mono ?_
 rintro e w' ⟨rfl,m⟩
 exact ⟨(),rfl,m,trivial⟩
theorem J12 {hd:ByteArray} {n:Int} {tl:ByteArray} (hT:TbO w []) (h_hd:okS hd:=by exact yi) (h_n:J1 n:=by exact ym) (h_tl:okS tl:=by exact yi) (p0:hd.size≤1000:=by exact yz) (p1:tl.size≤1000:=by exact yz) :
 Calls prog 283 #[.string hd,iV n,.string tl] w (PO w (fun (s:Unit)=>.string (Ju hd n tl)) (fun _=>okS (Ju hd n tl))):=by
 refine (Jdi (H:=fun _=>True) h_hd h_n h_tl p0 p1).mono ?_
 rintro e w' ⟨rfl,m,ok⟩
 exact ⟨(),rfl,m,ok⟩
theorem J7F {x:ByteArray} (hT:TbO w []) (h_x:okS x:=by exact yi) (p0:x.size≤20000:=by omega) :
 Calls prog 145 #[.string x] w (PO w (fun (s:Unit)=>.tuple #[.string (Js x),.bool true]) (fun _=>(Js x).size=2 * x.size)):=by
 refine (J6C (H:=fun _=>True) h_x p0).mono ?_
 rintro e w' ⟨rfl,m,ok⟩
 exact ⟨(),rfl,m,J2H _⟩
theorem J4x {x:ByteArray} (hT:TbO w []) (h_x:okS x:=by exact yi) :
 Calls prog 297 #[.string x] w (PO w (fun (s:Unit)=>iV ((JS x:Nat):Int)) (fun _=>JS x≤999)):=by
 refine (JdG (H:=fun _=>True) h_x).mono ?_
 rintro e w' ⟨rfl,m⟩
 exact ⟨(),rfl,m,J9U _⟩
theorem J7a {x:ByteArray} (hT:TbO w []) (h_x:okS x:=by exact yi) :
 Calls prog 135 #[.string x] w (PO w (fun (s:Unit)=>.tuple #[.string (JK x),.bool (J0k x)]) (fun _=>okS (JK x))):=by
 refine (JdI (H:=fun _=>True) h_x).mono ?_
 rintro e w' ⟨rfl,m,ok⟩
 exact ⟨(),rfl,m,ok⟩
theorem J5F {n:Int} (hT:TbO w []) (h_n:J1 n:=by exact ym) :
 Calls prog 144 #[iV n] w (PO w (fun (s:Unit)=>.string (Jj n)) (fun _=>okS (Jj n))):=by
 refine (J2W (H:=fun _=>True) h_n).mono ?_
 rintro e w' ⟨rfl,m,ok⟩
 exact ⟨(),rfl,m,ok⟩
theorem J24 {id:Int} {tl:ByteArray} (hT:TbO w []) (h_id:J1 id:=by exact ym) (h_tl:okS tl:=by exact yi) (p0:tl.size≤1000:=by exact yz) :
 Calls prog 290 #[iV id,.string tl] w (PO w (fun (s:Unit)=>.string (kP id tl)) (fun _=>okS (kP id tl))):=by
 have M:St [] w [] w:=⟨Mv.refl (At.nil _),hT⟩
 refine zE (f:=290) fun _ F=>?_
 refine J0 (kO F M (hc:=J12 M.nil.tb) (k:=fun s1 w q1 M=>zk fun _ F=>?_))
 refine zd1 F ?_
 exact ⟨(),rfl,M.mv,(by assumption)⟩
theorem J3w {id:Int} {tl:ByteArray} (hT:TbO w []) (h_id:J1 id:=by exact ym) (h_tl:okS tl:=by exact yi) (p0:tl.size≤1000:=by exact yz) :
 Calls prog 265 #[iV id,.string tl] w (PO w (fun (s:Unit)=>.string (kR id tl)) (fun _=>okS (kR id tl))):=by
 have M:St [] w [] w:=⟨Mv.refl (At.nil _),hT⟩
 refine zE (f:=265) fun _ F=>?_
 refine J0 (kO F M (hc:=J12 M.nil.tb) (k:=fun s1 w q1 M=>zk fun _ F=>?_))
 refine zd1 F ?_
 exact ⟨(),rfl,M.mv,(by assumption)⟩
theorem J2n {id:Int} {tl:ByteArray} (hT:TbO w []) (h_id:J1 id:=by exact ym) (h_tl:okS tl:=by exact yi) (p0:tl.size≤1000:=by exact yz) :
 Calls prog 294 #[iV id,.string tl] w (PO w (fun (s:Unit)=>.string (kG id tl)) (fun _=>okS (kG id tl))):=by
 have M:St [] w [] w:=⟨Mv.refl (At.nil _),hT⟩
 refine zE (f:=294) fun _ F=>?_
 refine J0 (kO F M (hc:=J12 M.nil.tb) (k:=fun s1 w q1 M=>zk fun _ F=>?_))
 refine zd1 F ?_
 exact ⟨(),rfl,M.mv,(by assumption)⟩
theorem J4o {id:Int} {k:Int} (hT:TbO w []) (h_id:J1 id:=by exact ym) (h_k:J1 k:=by exact ym) :
 Calls prog 292 #[iV id,iV k] w (PO w (fun (s:Unit)=>.string (kPq id k)) (fun _=>okS (kPq id k))):=by
 have M:St [] w [] w:=⟨Mv.refl (At.nil _),hT⟩
 refine zE (f:=292) fun _ F=>?_
 refine J0 (kO F M (hc:=J24 M.nil.tb) (k:=fun s1 w q1 M=>zk fun _ F=>?_))
 refine J0 (kO F M (hc:=J12 M.nil.tb) (k:=fun s2 w q2 M=>zk fun _ F=>?_))
 refine zd1 F ?_
 exact ⟨(),rfl,M.mv,(by assumption)⟩
theorem J56 {id:Int} {k:Int} (hT:TbO w []) (h_id:J1 id:=by exact ym) (h_k:J1 k:=by exact ym) :
 Calls prog 295 #[iV id,iV k] w (PO w (fun (s:Unit)=>.string (kGq id k)) (fun _=>okS (kGq id k))):=by
 have M:St [] w [] w:=⟨Mv.refl (At.nil _),hT⟩
 refine zE (f:=295) fun _ F=>?_
 refine J0 (kO F M (hc:=J2n M.nil.tb) (k:=fun s1 w q1 M=>zk fun _ F=>?_))
 refine J0 (kO F M (hc:=J12 M.nil.tb) (k:=fun s2 w q2 M=>zk fun _ F=>?_))
 refine zd1 F ?_
 exact ⟨(),rfl,M.mv,(by assumption)⟩
theorem J5a {id:Int} {k:Int} (hT:TbO w []) (h_id:J1 id:=by exact ym) (h_k:J1 k:=by exact ym) :
 Calls prog 347 #[iV id,iV k] w (PO w (fun (s:Unit)=>.string (kIb id k)) (fun _=>okS (kIb id k))):=by
 have M:St [] w [] w:=⟨Mv.refl (At.nil _),hT⟩
 refine zE (f:=347) fun _ F=>?_
 refine J0 (kO F M (hc:=J12 M.nil.tb) (k:=fun s1 w q1 M=>zk fun _ F=>?_))
 refine J0 (kO F M (hc:=J12 M.nil.tb) (k:=fun s2 w q2 M=>zk fun _ F=>?_))
 refine zd1 F ?_
 exact ⟨(),rfl,M.mv,(by assumption)⟩
theorem J9f {id:Int} (hT:TbO w []) (h_id:J1 id:=by exact ym) :
 Calls prog 298 #[iV id] w (PO w (fun (s:Unit)=>.string (kPg id)) (fun _=>okS (kPg id))):=by
 have M:St [] w [] w:=⟨Mv.refl (At.nil _),hT⟩
 refine zE (f:=298) fun _ F=>?_
 refine J0 (kO F M (hc:=J12 M.nil.tb) (k:=fun s1 w q1 M=>zk fun _ F=>?_))
 refine zd1 F ?_
 exact ⟨(),rfl,M.mv,(by assumption)⟩
theorem Jba {pfx:ByteArray} (hT:TbO w []) (hm:RM X H w v D u) (hu:u+1≤68718428160:=by omega) (h_pfx:okS pfx:=by exact yi) (p0:pfx.size≤1000000:=by first|omega|exact Nat.le_trans (ksz ym (by decide)) (by decide)) :
 Calls prog 285 #[v.val,.string pfx] w (PS X H w (fun v (r:Unit) (s:Unit)=>v.val) () (J1Y D pfx) (u+1) noq):=by
 have M:=Sp.start hT hm
 refine zE (f:=285) fun _ F=>?_
 refine J0 (kBx F M [_,_,_] (k:=fun b1 w M=>zk fun _ F=>?_))
 refine J0 (kAl F M JA [_,_,_] (k:=fun b2 w M=>zk fun _ F=>?_))
 refine J0 (kUS F M (hc:=J5u M.tb M.v) (k:=fun v s3 w q3 M=>zk fun _ F=>?_))
 refine J0 (kW F M 2 [_,_,_] [_,_,_] (k:=fun w M=>zk fun _ F=>?_))
 have hq4:=q3.le
 have M:=M.ext (ks:=Jt D pfx) J3V
 have F:=F.cut (m':=[(6,_),(2,_),(4,_),(5,_)]) rfl
 refine J1e (γ:=Nat × MV) (slots:=fun g=>[(6,nV g.1)]) (LL:=fun g=>[bx b1 [g.2.S,g.2.R,g.2.W] 210,owK s3 (Jt D pfx),bx b2 [sN,sN,sN] 210]) (vv:=fun g=>g.2) (DD:=fun g=>delA ((Jt D pfx).take g.1) D) (uu:=fun _=>(u+1)) (pr:=fun g=>g.1≤s3.n) (g0:=(0,v)) (fun g=>s3.n - g.1) F M (Nat.zero_le _) fun g a w F M hp=>?_
 refine zr2 fun _ F=>?_
 refine zi F (fun h5=>?_) fun h5=>?_
 ·refine zr2 fun _ F=>?_
  refine Jc [(_,[_,_,_],_)] [rdK s3 _] [] [0,1,2,3,4,5,6] M (HdK.one M.at' 1 rfl (HdS.cons M.at' 0 rfl HdS.nil)) mixed zK fun w M hS=>?_
  refine zr2 fun _ F=>?_
  refine nEl (s:=s3) F hS ET_44 0 g.1 zO (kk:=fun x6 _ hx6 ok6=>zkN fun _ F=>?_)
  have hz6:=q3.sz _ (Jm hx6)
  have hg6:=J2E (q3.bg _ (Jm hx6))
  refine J2 rfl rfl (kS F M (hc:=J5z (J35 hx6) (.inl rfl) M.tb M.v) (k:=fun v s7 w q7 M=>kF (zkN fun _ F=>?_)))
  refine J2 rfl rfl (kW F M 0 [_,_,_] [_,_,_] (k:=fun w M=>kF (zkN fun _ F=>?_)))
  exact Jw (g.1+1,v) (by dsimp only;omega) ⟨F.cut rfl,M.cast (JeM hx6),by dsimp only;omega⟩
 refine zr2 fun _ F=>?_
 have M:=M.unext
 refine J0 (kW F M 2 [_,_,_] [_,_,_] (k:=fun w M=>zk fun _ F=>?_))
 refine zdc F M.at' 0 ?_
 exact zfS M () () (trivial) (by rw [J1Y,J5n q3.n h5])
theorem J0P {key:ByteArray} (hT:TbO w []) (hm:RM X H w v D u) (hu:u+1≤68718428160:=by omega) (h_key:okS key:=by exact yi) :
 Calls prog 262 #[v.val,.string key] w (PS X H w (fun v (r:Int) (s:Unit)=>.tuple #[v.val,iV r]) (Ja D key) D (u+1) (fun (r:Int) (_:Unit)=>0≤r∧r≤999)):=by
 have M:=Sp.start hT hm
 refine zE (f:=262) fun _ F=>?_
 refine J0 (kBx F M [_,_,_] (k:=fun b1 w M=>zk fun _ F=>?_))
 refine J0 (kAl F M JA [_,_,_] (k:=fun b2 w M=>zk fun _ F=>?_))
 refine J0 (kS F M (hc:=J4G M.tb M.v) (k:=fun v s3 w q3 M=>zk fun _ F=>?_))
 refine J0 (kW F M 1 [_,_,_] [_,_] (k:=fun w M=>zk fun _ F=>?_))
 refine Jc [(_,[_,_,_],_)] [] [] [0,1,2,3,4] M (hd1 M.at' 0) mixed zK fun w M hS=>?_
 refine zr2 fun _ F=>?_
 refine J2 rfl rfl (kQ F M (hc:=J4x M.st.nil.tb) (k:=fun s4 w q4 m M=>kB m (zkN fun _ F=>?_)))
 refine J2 rfl rfl (kW F M 1 [_,_,_] [_,_] (k:=fun w M=>kF (zkN fun _ F=>?_)))
 refine zde F M.at' 0 ?_
 exact zfS M _ () (⟨zO,zO⟩) (rfl)
theorem J0N {key:ByteArray} {n:Int} (hT:TbO w []) (hm:RM X H w v D u) (hu:u+1≤68718428160:=by omega) (h_key:okS key:=by exact yi) (h_n:J1 n:=by exact ym) (p0:npg X key:=by exact nmp) :
 Calls prog 264 #[v.val,.string key,iV n] w (PS X H w (fun v (r:Unit) (s:Unit)=>v.val) () (JG D key n) (u+1) noq):=by
 have M:=Sp.start hT hm
 refine zE (f:=264) fun _ F=>?_
 refine J0 (kBx F M [_,_,_] (k:=fun b1 w M=>zk fun _ F=>?_))
 refine J0 (kAl F M JA [_,_,_] (k:=fun b2 w M=>zk fun _ F=>?_))
 refine J0 (kQ F M (hc:=J33 M.st.nil.tb) (k:=fun s3 w q3 m M=>zk fun _ F=>?_))
 refine zib F (fun h4=>?_) fun h4=>?_
 ·refine zr2 fun _ F=>?_
  refine J0 (kS F M (hc:=J1I p0 M.tb M.v) (k:=fun v s5 w q5 M=>zk fun _ F=>?_))
  refine J0 (kW F M 0 [_,_,_] [_,_] (k:=fun w M=>zk fun _ F=>?_))
  refine zdc F M.at' 0 ?_
  exact zfS M () () (trivial) (by rw [JG,J2A,if_neg (nF' h4)])
 have hi4:=J0K (nf h4);refine zr2 fun _ F=>?_
 refine Jc [(_,[_,_,_],_)] [] [] [0,1,2,3,4,5] M (hd1 M.at' 1) mixed zK fun w M hS=>?_
 refine zr2 fun _ F=>?_
 refine J2 rfl rfl (kQ F M (hc:=J5F M.st.nil.tb) (k:=fun s6 w q6 m M=>kB m (zkN fun _ F=>?_)))
 refine J2 rfl rfl (kS F M (hc:=J1I p0 M.tb M.v) (k:=fun v s7 w q7 M=>kF (zkN fun _ F=>?_)))
 refine J2 rfl rfl (kW F M 0 [_,_,_] [_,_] (k:=fun w M=>kF (zkN fun _ F=>?_)))
 refine zdc F M.at' 0 ?_
 exact zfS M () () (trivial) (by rw [JG,J2A,if_pos (nf h4)])
theorem J7g {key:ByteArray} (hT:TbO w []) (hm:RM X H w v D u) (hu:u+2≤68718428160:=by omega) (h_key:okS key:=by exact yi) (p0:npg X key:=by exact nmp) :
 Calls prog 263 #[v.val,.string key] w (PS X H w (fun v (r:Int) (s:Unit)=>.tuple #[v.val,iV r]) (J0R D key).1 (J0R D key).2 (u+2) (fun (r:Int) (_:Unit)=>0≤r∧r≤999)):=by
 have M:=Sp.start hT hm
 refine zE (f:=263) fun _ F=>?_
 refine J0 (kBx F M [_,_,_] (k:=fun b1 w M=>zk fun _ F=>?_))
 refine J0 (kAl F M JA [_,_,_] (k:=fun b2 w M=>zk fun _ F=>?_))
 refine J0 (kS F M (hc:=J4G M.tb M.v) (k:=fun v s3 w q3 M=>zk fun _ F=>?_))
 refine J0 (kW F M 1 [_,_,_] [_,_] (k:=fun w M=>zk fun _ F=>?_))
 refine J0 (kQ F M (hc:=J4x M.st.nil.tb) (k:=fun s4 w q4 m M=>zk fun _ F=>?_))
 refine zi F (fun h5=>?_) fun h5=>?_
 ·refine zr2 fun _ F=>?_
  refine J0 (kW F M 1 [_,_,_] [_,_] (k:=fun w M=>zk fun _ F=>?_))
  refine zde F M.at' 0 ?_
  exact zfS M _ () (⟨zO,zO⟩) (by rw [J0R,Ja,if_pos h5])
 refine zr2 fun _ F=>?_
 refine Jc [(_,[_,_,_],_)] [] [] [0,1,2,5,3,4,6,7] M (hd1 M.at' 0) mixed zK fun w M hS=>?_
 refine zr2 fun _ F=>?_
 refine J2 rfl rfl (kQ F M (hc:=J5F M.st.nil.tb) (k:=fun s6 w q6 m M=>kB m (zkN fun _ F=>?_)))
 refine J2 rfl rfl (kS F M (hc:=J1I p0 M.tb M.v) (k:=fun v s7 w q7 M=>kF (zkN fun _ F=>?_)))
 refine J2 rfl rfl (kW F M 1 [_,_,_] [_,_] (k:=fun w M=>kF (zkN fun _ F=>?_)))
 refine zde F M.at' 0 ?_
 exact zfS M _ () (⟨zO,zO⟩) (by rw [J0R,Ja,if_neg h5,JG,JfI zO zO])
theorem J4I {key:ByteArray} (hT:TbO w []) (hm:RM X H w v D u) (hu:u+0≤68718428160:=by omega) (h_key:okS key:=by exact yi) (p0:knw X D key:=by assumption) :
 Calls prog 262 #[v.val,.string key] w (PS X H w (fun v (r:Int) (s:Unit)=>.tuple #[v.val,iV r]) (Ja D key) D u (fun (r:Int) (_:Unit)=>0≤r∧r≤999)):=by
 have M:=Sp.start hT hm
 refine zE (f:=262) fun _ F=>?_
 refine J0 (kBx F M [_,_,_] (k:=fun b1 w M=>zk fun _ F=>?_))
 refine J0 (kAl F M JA [_,_,_] (k:=fun b2 w M=>zk fun _ F=>?_))
 refine J0 (kS F M (hc:=Jgr p0 M.tb M.v) (k:=fun v s3 w q3 M=>zk fun _ F=>?_))
 refine J0 (kW F M 1 [_,_,_] [_,_] (k:=fun w M=>zk fun _ F=>?_))
 refine Jc [(_,[_,_,_],_)] [] [] [0,1,2,3,4] M (hd1 M.at' 0) mixed zK fun w M hS=>?_
 refine zr2 fun _ F=>?_
 refine J2 rfl rfl (kQ F M (hc:=J4x M.st.nil.tb) (k:=fun s4 w q4 m M=>kB m (zkN fun _ F=>?_)))
 refine J2 rfl rfl (kW F M 1 [_,_,_] [_,_] (k:=fun w M=>kF (zkN fun _ F=>?_)))
 refine zde F M.at' 0 ?_
 exact zfS M _ () (⟨zO,zO⟩) (rfl)
theorem J9r {key:ByteArray} {n:Int} (hT:TbO w []) (hm:RM X H w v D u) (hu:u+0≤68718428160:=by omega) (h_key:okS key:=by exact yi) (h_n:J1 n:=by exact ym) (p0:knw X D key:=by assumption) (p1:npg X key:=by exact nmp) :
 Calls prog 264 #[v.val,.string key,iV n] w (PS X H w (fun v (r:Unit) (s:Unit)=>v.val) () (JG D key n) u noq):=by
 have M:=Sp.start hT hm
 refine zE (f:=264) fun _ F=>?_
 refine J0 (kBx F M [_,_,_] (k:=fun b1 w M=>zk fun _ F=>?_))
 refine J0 (kAl F M JA [_,_,_] (k:=fun b2 w M=>zk fun _ F=>?_))
 refine J0 (kQ F M (hc:=J33 M.st.nil.tb) (k:=fun s3 w q3 m M=>zk fun _ F=>?_))
 refine zib F (fun h4=>?_) fun h4=>?_
 ·refine zr2 fun _ F=>?_
  refine J0 (kS F M (hc:=J5z p0 (.inr p1) M.tb M.v) (k:=fun v s5 w q5 M=>zk fun _ F=>?_))
  refine J0 (kW F M 0 [_,_,_] [_,_] (k:=fun w M=>zk fun _ F=>?_))
  refine zdc F M.at' 0 ?_
  exact zfS M () () (trivial) (by rw [JG,J2A,if_neg (nF' h4)])
 have hi4:=J0K (nf h4);refine zr2 fun _ F=>?_
 refine Jc [(_,[_,_,_],_)] [] [] [0,1,2,3,4,5] M (hd1 M.at' 1) mixed zK fun w M hS=>?_
 refine zr2 fun _ F=>?_
 refine J2 rfl rfl (kQ F M (hc:=J5F M.st.nil.tb) (k:=fun s6 w q6 m M=>kB m (zkN fun _ F=>?_)))
 refine J2 rfl rfl (kS F M (hc:=J5z p0 (.inr p1) M.tb M.v) (k:=fun v s7 w q7 M=>kF (zkN fun _ F=>?_)))
 refine J2 rfl rfl (kW F M 0 [_,_,_] [_,_] (k:=fun w M=>kF (zkN fun _ F=>?_)))
 refine zdc F M.at' 0 ?_
 exact zfS M () () (trivial) (by rw [JG,J2A,if_pos (nf h4)])
theorem JfZ {id:Int} (hT:TbO w []) (hm:RM X H w v D u) (hu:u+0≤68718428160:=by omega) (h_id:J1 id:=by exact ym) (p0:sgK X id:=by assumption) :
 Calls prog 213 #[v.val,iV id] w (PS X H w (fun v (r:Int) (s:Unit)=>.tuple #[v.val,iV r]) (Ja D (kR id (bA [47,115]))) D u (fun (r:Int) (_:Unit)=>0≤r∧r≤999)):=by
 have M:=Sp.start hT hm
 refine zE (f:=213) fun _ F=>?_
 refine J0 (kBx F M [_,_,_] (k:=fun b1 w M=>zk fun _ F=>?_))
 refine J0 (kAl F M JA [_,_,_] (k:=fun b2 w M=>zk fun _ F=>?_))
 refine Jc [(_,[_,_,_],_)] [] [] [0,1,2,3,4,5,6,7] M (hd1 M.at' 1) mixed zK fun w M hS=>?_
 refine zr2 fun _ F=>?_
 refine J2 rfl rfl (kQ F M (hc:=J3w M.st.nil.tb) (k:=fun s3 w q3 m M=>kB m (zkN fun _ F=>?_)))
 refine J2 rfl rfl (kS F M (hc:=J4I M.tb M.v (p0:=.inl p0.1)) (k:=fun v s4 w q4 M=>kF (zkN fun _ F=>?_)))
 refine J2 rfl rfl (kW F M 0 [_,_,_] [_,_] (k:=fun w M=>kF (zkN fun _ F=>?_)))
 refine zde F M.at' 0 ?_
 exact zfS M _ () (⟨zO,zO⟩) (rfl)
theorem J3W {x:ByteArray} (hT:TbO w []) (hm:RM X H w v D u) (hu:u+1≤68718428160:=by omega) (h_x:okS x:=by exact yi) :
 Calls prog 282 #[v.val,.string x] w (PS X H w (fun v (r:Int) (s:Unit)=>.tuple #[v.val,iV r]) (JV D x) D (u+1) (fun (r:Int) (_:Unit)=>0≤r∧r≤999)):=by
 have M:=Sp.start hT hm
 refine zE (f:=282) fun _ F=>?_
 refine J0 (kBx F M [_,_,_] (k:=fun b1 w M=>zk fun _ F=>?_))
 refine J0 (kAl F M JA [_,_,_] (k:=fun b2 w M=>zk fun _ F=>?_))
 refine J0 (kQ F M (hc:=J40 M.st.nil.tb) (k:=fun s3 w q3 m M=>zk fun _ F=>?_))
 refine zib F (fun h4=>?_) fun h4=>?_
 ·refine zr2 fun _ F=>?_
  refine J0 (kW F M 0 [_,_,_] [_,_] (k:=fun w M=>zk fun _ F=>?_))
  refine zde F M.at' 0 ?_
  exact zfS M _ () (⟨zO,zO⟩) (by rw [JV,if_pos h4])
 have hi4:=J1m (nf h4);refine zr2 fun _ F=>?_
 refine J0 (kS F M (hc:=J0P M.tb M.v) (k:=fun v s5 w q5 M=>zk fun _ F=>?_))
 refine J0 (kW F M 0 [_,_,_] [_,_] (k:=fun w M=>zk fun _ F=>?_))
 refine zde F M.at' 0 ?_
 exact zfS M _ () (⟨zO,zO⟩) (by rw [JV,iFb h4])
theorem J78 {id:Int} (hT:TbO w []) (hm:RM X H w v D u) (hu:u+1≤68718428160:=by omega) (h_id:J1 id:=by exact ym) :
 Calls prog 213 #[v.val,iV id] w (PS X H w (fun v (r:Int) (s:Unit)=>.tuple #[v.val,iV r]) (Ja D (kR id (bA [47,115]))) D (u+1) (fun (r:Int) (_:Unit)=>0≤r∧r≤999)):=by
 have M:=Sp.start hT hm
 refine zE (f:=213) fun _ F=>?_
 refine J0 (kBx F M [_,_,_] (k:=fun b1 w M=>zk fun _ F=>?_))
 refine J0 (kAl F M JA [_,_,_] (k:=fun b2 w M=>zk fun _ F=>?_))
 refine Jc [(_,[_,_,_],_)] [] [] [0,1,2,3,4,5,6,7] M (hd1 M.at' 1) mixed zK fun w M hS=>?_
 refine zr2 fun _ F=>?_
 refine J2 rfl rfl (kQ F M (hc:=J3w M.st.nil.tb) (k:=fun s3 w q3 m M=>kB m (zkN fun _ F=>?_)))
 refine J2 rfl rfl (kS F M (hc:=J0P M.tb M.v) (k:=fun v s4 w q4 M=>kF (zkN fun _ F=>?_)))
 refine J2 rfl rfl (kW F M 0 [_,_,_] [_,_] (k:=fun w M=>kF (zkN fun _ F=>?_)))
 refine zde F M.at' 0 ?_
 exact zfS M _ () (⟨zO,zO⟩) (rfl)
theorem J9O {id:Int} (hT:TbO w []) (hm:RM X H w v D u) (hu:u+1≤68718428160:=by omega) (h_id:J1 id:=by exact ym) :
 Calls prog 291 #[v.val,iV id] w (PS X H w (fun v (r:Bool) (s:Unit)=>.tuple #[v.val,.bool r]) (decide (Ja D (kP id (bA [47,111]))=1)) D (u+1) noq):=by
 have M:=Sp.start hT hm
 refine zE (f:=291) fun _ F=>?_
 refine J0 (kBx F M [_,_,_] (k:=fun b1 w M=>zk fun _ F=>?_))
 refine J0 (kAl F M JA [_,_,_] (k:=fun b2 w M=>zk fun _ F=>?_))
 refine Jc [(_,[_,_,_],_)] [] [] [0,1,2,3,4,5,6,7,8] M (hd1 M.at' 1) mixed zK fun w M hS=>?_
 refine zr2 fun _ F=>?_
 refine J2 rfl rfl (kQ F M (hc:=J24 M.st.nil.tb) (k:=fun s3 w q3 m M=>kB m (zkN fun _ F=>?_)))
 refine J2 rfl rfl (kS F M (hc:=J0P M.tb M.v) (k:=fun v s4 w q4 M=>kF (zkN fun _ F=>?_)))
 refine J2 rfl rfl (kW F M 1 [_,_,_] [_,_] (k:=fun w M=>kF (zkN fun _ F=>?_)))
 refine J0 (kW F M 1 [_,_,_] [_,_] (k:=fun w M=>zk fun _ F=>?_))
 refine zde F M.at' 0 ?_
 exact zfS M _ () (trivial) (rfl)
end
end Go.Proofs.YtipdbeklopjbmaaGreatDoor
