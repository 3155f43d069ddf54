/-
  A transaction asks: walks of the reference.
-/
import Derived.Test.YtipdbeklopjbmaaGreatDoorMR
import Derived.Test.YtipdbeklopjbmaaGreatDoorGenXd
import Derived.Test.YtipdbeklopjbmaaGreatDoorP26
import Derived.Test.YtipdbeklopjbmaaGreatDoorP28
set_option linter.unusedVariables false
set_option linter.unusedSimpArgs false
namespace Go.Proofs.YtipdbeklopjbmaaGreatDoor
open Go.ChangeShapes Go.WideShapes Go.ChangeAt Go.RowKit Go.Proofs.Tryz
instance iMT1:RTc prog 60 f60 17:=rtc func60 ntmps60
instance iMT2:RTc prog 195 f195 54:=rtc func195 ntmps195
theorem CFts:CF prog 111:=⟨⟨_,_,func111,rfl,by kernel_rfl⟩⟩
instance iMT3:CFc prog 111:=⟨CFts⟩
theorem CFlr:CF prog 110:=⟨⟨_,_,func110,rfl,by kernel_rfl⟩⟩
instance iMT4:CFc prog 110:=⟨CFlr⟩
theorem CFtv:CF prog 60:=⟨⟨_,_,func60,rfl,by kernel_rfl⟩⟩
instance iMT5:CFc prog 60:=⟨CFtv⟩
theorem CFlc:CF prog 266:=⟨⟨_,_,func266,rfl,by kernel_rfl⟩⟩
instance iMT6:CFc prog 266:=⟨CFlc⟩
structure TV where
 ca:Option Addr
 cn:Nat
 cc:Nat
 aa:Option Addr
 an:Nat
 ac:Nat
 ra:Option Addr
 rn:Nat
 rc:Nat
 wa:Option Addr
 wn:Nat
 wc:Nat
 ma:Option Addr
 mn:Nat
 mc:Nat
abbrev TV.val (t:TV) (x:TxD):Value:=.agg #[iV x.id,iV x.age,iV x.proc,iV x.began,.slice t.ca t.cn t.cc,.slice t.aa t.an t.ac,.slice t.ra t.rn t.rc,.slice t.wa t.wn t.wc,.slice t.ma t.mn t.mc,iV x.state]
def xOk (x:TxD):Prop:=J1 x.id∧J1 x.age∧J1 x.proc∧J1 x.began∧J1 x.state
structure TxR (H:Nat→Prop) (w:World) (x:TxD) (t:TV):Prop where
 c:Rd 6 J16 okK H w (.slice t.ca t.cn t.cc) x.calls
 a:Rd 3 J0x okR H w (.slice t.aa t.an t.ac) x.answers
 r:Rd 1 J3 okS H w (.slice t.ra t.rn t.rc) x.touch.reads
 y:Rd 1 J3 okS H w (.slice t.wa t.wn t.wc) x.touch.writes
 m:Rd 1 J0w okI H w (.slice t.ma t.mn t.mc) x.marks
section
variable {H:Nat→Prop} {w0 w w':World} {L L':List Atom} {x:TxD} {t:TV}
theorem TxR.mq (h:TxR (V H w0 L) w x t) (m:Mv L w L' w'):TxR (V H w0 L') w' x t:=⟨h.c.mq m,h.a.mq m,h.r.mq m,h.y.mq m,h.m.mq m⟩
theorem TxR.start (h:TxR H w x t):TxR (V H w []) w x t:=⟨Rd.start h.c fun _ _=>JF _,Rd.start h.a fun _ _=>JF _,Rd.start h.r fun _ _=>JF _,Rd.start h.y fun _ _=>JF _,Rd.start h.m fun _ _=>JF _⟩
theorem RM.s {X:Uni} {v:MV} {D:List CellD} {u:Nat} (h:RM X H w v D u):Rd 2 J6 okC H w v.S D:=let ⟨_,_,h1,_⟩:=h;h1
end
set_option maxRecDepth 100000 in
set_option maxHeartbeats 4000000 in
theorem J4u {w0:World} {H H2:Nat→Prop} {s:List CellD} {sa:Option Addr} {sn sc:Nat} {x:TxD} {t:TV} (hT:TbO w0 []) (hs:Rd 2 J6 okC H w0 (.slice sa sn sc) s) (hx:TxR H2 w0 x t) (ho:xOk x) (h1:J0t s) (h2:s.length≤1048576) (h3:x.calls.length≤1048576) :
 Calls prog 60 #[.slice sa sn sc,t.val x] w0 (PS (J2f s x.proc) H w0 (fun v (_:Unit) (_:Unit)=>v.S) () (J0m s x.proc x.calls) 362000000 noq):=by
 have hsn:=hs.inv.1
 have M:St [] w0 [] w0:=⟨Mv.refl (At.nil _),hT⟩
 have hs0:=Rd.start (L:=[]) hs fun _ _=>JF _
 have hx0:=hx.start
 refine zE (f:=60) fun _ F=>?_
 refine J0 (J4h F M [_,_,_,_,_,_,_,_,_,_] (k:=fun b w M=>zk fun _ F=>?_))
 have hx1:=hx0.mq M.mv
 refine J0 (J0D F (J8b (tx:=x) ho.1 ho.2.1 ho.2.2.1 ho.2.2.2.1 hx1.c hx1.a hx1.r hx1.y hx1.m ho.2.2.2.2 h3 ho.2.2.1) rfl rfl rfl rfl rfl rfl fun e w1 h=>?_)
 obtain ⟨qa,qn,qc,rfl,m⟩:=h
 refine ⟨_,rfl,fun _ F=>?_⟩
 have M:=M.then (At.frame0K M.at' m)
 refine zr2 fun _ F=>?_
 have hq:=At.rd M.at' ET_151.hk 0 rfl
 have hqn:=hq.inv.1
 have hql:(J3E x).length=x.calls.length:=by unfold J3E;rw [List.length_map]
 refine J0 (J0D F (J9P (X:=J2f s x.proc) (cs:=x.calls) (M.nil.tb) (hs0.mq M.mv) hq (J48 h1 h2) zO zO zO ho.2.2.1) rfl rfl rfl rfl rfl rfl fun e w2 h=>?_)
 obtain ⟨v,A,rfl,m2,⟨R,W,k1,k2,k3,hU⟩,k4⟩:=h
 refine ⟨_,rfl,fun _ F=>?_⟩
 have hf:=At.frame0 M.at' m2
 have k5:=k1.got M.mv.kp.size hf fun c hc h=>by have:=M.at'.lt c h;omega
 have M:=M.then hf
 have N:=St.start M.all
 refine zr2 fun _ F=>?_
 refine J0 (J2T F N J0i [_,_] (k:=fun b2 w N=>zk fun _ F=>?_))
 refine J0 (kWI F N 0 [_,_] [_,_,_] (k:=fun w N=>zk fun _ F=>?_))
 refine zd1 F ?_
 exact ⟨⟨v.sa,none,none,v.sn,v.sc,0,0,0,0⟩,(),rfl,(M.mv.trans N.mv).pick [] rfl,⟨[],[],(k5.mq N.mv).mono fun _ hb=>hb.1,Rd.nil,Rd.nil,hU.fresh.le zO⟩,trivial⟩
theorem sel3 {L:List Atom} {a b c:Atom} {i j k:Nat} (h1:nth L i=some a) (h2:nth L j=some b) (h3:nth L k=some c):sel L [i,j,k]=[a,b,c]:=by
 simp only [sel,h1,h2,h3]
def Jbx (H:Nat→Prop) (w0:World) (x:TxD) (e:Ending) (w':World):Prop:=
 ∃ (d:TxD) (t:TV) (a:AnsD),e=.returned (.tuple #[t.val d,.agg #[iV a.code,iV a.n,.string a.text]])∧Mv [] w0 [qK t.ca t.cn t.cc d.calls,qR t.aa t.an t.ac d.answers,qI t.ma t.mn t.mc d.marks] w'∧Rd 1 J3 okS (V H w0 [qK t.ca t.cn t.cc d.calls,qR t.aa t.an t.ac d.answers,qI t.ma t.mn t.mc d.marks]) w' (.slice t.ra t.rn t.rc) d.touch.reads∧Rd 1 J3 okS (V H w0 [qK t.ca t.cn t.cc d.calls,qR t.aa t.an t.ac d.answers,qI t.ma t.mn t.mc d.marks]) w' (.slice t.wa t.wn t.wc) d.touch.writes∧xOk d∧okR a ∧
  (d.calls.length≤x.calls.length+1∧d.answers.length≤x.answers.length+1∧d.touch.reads.length≤x.touch.reads.length+362000330∧d.touch.writes.length≤x.touch.writes.length+362000330∧d.marks.length≤x.marks.length)
theorem J5J {α:Type} {e k:Nat} {enc:α→List Value} {ok:α→Prop} {H:Nat→Prop} {w0 w:World} {L:List Atom} {v:Value} {l:List α} (M:St [] w0 L w) (hk:∀ x,(enc x).length=k) (i:Nat) (hL:nth L i=some (ow e k enc ok v l)) (is:List Nat) (hi:is.any (Nat.beq i)=false):Rd k enc ok (V H w0 (sel L is)) w v l:=by
 have h:=At.rdOff M.at' hk i hL is hi
 refine ⟨h.1,fun ad n c e hn=>⟨.inr ?_,h.2 ad n c e hn⟩⟩
 exact (M.mv.fresh ad.block ⟨_,Jm hL,by show v.ownBlock=_;subst e;rfl⟩).resolve_left (JF _)
theorem J4y {w:World} {L:List Atom} {x:TxD} {t:TV} (A:At w L) (i:Nat) (e1:nth L i=some (qK t.ca t.cn t.cc x.calls)) (e2:nth L (i+1)=some (qR t.aa t.an t.ac x.answers)) (e3:nth L (i+2)=some (qS t.ra t.rn t.rc x.touch.reads)) (e4:nth L (i+3)=some (qS t.wa t.wn t.wc x.touch.writes)) (e5:nth L (i+4)=some (qI t.ma t.mn t.mc x.marks)):TxR (fun _=>True) w x t:=
 ⟨At.rd (k:=6) (enc:=J16) A (fun _=>rfl) _ e1,At.rd (k:=3) (enc:=J0x) A (fun _=>rfl) _ e2,At.rd (k:=1) (enc:=J3) A (fun _=>rfl) _ e3,At.rd (k:=1) (enc:=J3) A (fun _=>rfl) _ e4,At.rd (k:=1) (enc:=J0w) A (fun _=>rfl) _ e5⟩
def MidA (X:Uni) (H:Nat→Prop) (w0:World) (x:TxD) (c:CallD) (s:List CellD) (ca:Option Addr) (cn cc:Nat) (aa:Option Addr) (an ac:Nat) (ra:Option Addr) (rn rc:Nat) (wa:Option Addr) (wn wc:Nat) (ma:Option Addr) (mn mc b4 b5 b6 b7:Nat) (a:Act) (w:World):Prop:=
 ∃ (v:MV) (s2:Int × Int × ByteArray) (_:J1 s2.1∧J1 s2.2.1∧okS s2.2.2) (b9 b10:Nat),Fr 54 [(4,pT b4),(5,pT b5),(6,pT b6),(7,pT b7),(9,pT b9),(10,pT b10)] a ∧
  Sp X H w0 [bx b10 [v.R,v.W] 56,bx b9 [iV s2.1,iV s2.2.1,.string s2.2.2] 155,bx b4 [iV x.id,iV x.age,iV x.proc,iV x.began,.slice ca cn cc,.slice aa an ac,.slice ra rn rc,.slice wa wn wc,.slice ma mn mc,iV x.state] 58,bx b5 [iV c.kind,.string c.name,.string c.to_,iV c.a,iV c.b,.string c.text] 153,qK ca cn cc x.calls,qR aa an ac x.answers,qS ra rn rc x.touch.reads,qS wa wn wc x.touch.writes,qI ma mn mc x.marks,bx b6 [iV 0,iV 0,iV 0,iV 0,sN,sN,sN,sN,sN,iV 0] 58,bx b7 [iV 0,iV 0,.string (⟨#[]⟩:ByteArray)] 155] w v (doS (J0m s x.proc x.calls) x.proc c) (362000000+330)
set_option maxRecDepth 100000 in
set_option maxHeartbeats 16000000 in
theorem JgU {w0:World} {H H2:Nat→Prop} {s:List CellD} {sa:Option Addr} {sn sc:Nat} {x:TxD} {t:TV} {c:CallD} (hT:TbO w0 []) (hs:Rd 2 J6 okC H w0 (.slice sa sn sc) s) (hx:TxR H2 w0 x t) (ho:xOk x) (hc:okK c) (h1:J0t s) (h2:s.length≤1048576) (h3:x.calls.length≤1000) (h4:x.touch.reads.length≤4000000000) (h5:x.touch.writes.length≤4000000000) (h6:x.answers.length≤1000) (h7:x.marks.length≤1000) :
 Calls prog 195 #[.slice sa sn sc,t.val x,.agg #[iV c.kind,.string c.name,.string c.to_,iV c.a,iV c.b,.string c.text]] w0 (Jbx H w0 x):=by
 have M:=Sp.start (X:=J2f s x.proc) (H:=H) (v:=⟨sa,none,none,sn,sc,0,0,0,0⟩) hT ⟨[],[],hs,Rd.nil,Rd.nil,J48 h1 h2⟩
 have hx0:=hx.start
 refine zE (f:=195) fun _ F=>?_
 refine J0 (kBx F M [_,_,_,_,_,_,_,_,_,_] (k:=fun b4 w M=>zk fun _ F=>?_))
 refine J0 (kBx F M [_,_,_,_,_,_] (k:=fun b5 w M=>zk fun _ F=>?_))
 refine J0 (kAl F M J1t [_,_,_,_,_,_,_,_,_,_] (k:=fun b6 w M=>zk fun _ F=>?_))
 refine J0 (kAl F M J00 [_,_,_] (k:=fun b7 w M=>zk fun _ F=>?_))
 have M:=M.pick [3,2,1,0] [_,_,_,_]
 refine zr2 fun _ F=>?_
 have hx1:=hx0.mq M.st.mv
 refine J0 (J0D F (J8c (x:=x) ho.1 ho.2.1 ho.2.2.1 ho.2.2.2.1 hx1.c hx1.a hx1.r hx1.y hx1.m ho.2.2.2.2 zO zO zO zO zO) rfl rfl rfl rfl rfl rfl fun e w1 h=>?_)
 obtain ⟨ca,cn,cc,aa,an,ac,ra,rn,rc,wa,wn,wc,ma,mn,mc,rfl,m⟩:=h
 refine ⟨_,rfl,fun _ F=>?_⟩
 have M:=(M.then (At.frame0K M.at' m)).pick [5,6,0,1,2,3,4,7,8] [_,_,_,_,_,_,_,_,_]
 refine zr2 fun _ F=>?_
 refine J0 (kW F M 0 [_,_,_,_,_,_,_,_,_,_] [_,_,_,_,_,_,_,_,_] (k:=fun w M=>zk fun _ F=>?_))
 have hcn:=(At.rd (k:=6) (enc:=J16) M.at' (fun _=>rfl) 2 rfl).inv.1
 have leave:∀ {w:World} {L:List Atom} (z:Int),z=2∨z=3→St [] w0 L w→nth L 4=some (qK ca cn cc x.calls)→nth L 5=some (qR aa an ac x.answers)→nth L 6=some (qS ra rn rc x.touch.reads)→nth L 7=some (qS wa wn wc x.touch.writes)→nth L 8=some (qI ma mn mc x.marks)→JP L.length [4,5,8]=true→Jbx H w0 x (.returned (.tuple #[TV.val ⟨ca,cn,cc,aa,an,ac,ra,rn,rc,wa,wn,wc,ma,mn,mc⟩ x,.agg #[iV z,iV 0,.string (⟨#[]⟩:ByteArray)]])) w:=by
  intro w L z hz M e1 e2 e3 e4 e5 e6
  have hm:=M.mv.pick [4,5,8] e6
  have f1:=J5J (k:=1) (enc:=J3) (ok:=okS) (H:=H) M (fun _=>rfl) 6 e3 [4,5,8] rfl
  have f2:=J5J (k:=1) (enc:=J3) (ok:=okS) (H:=H) M (fun _=>rfl) 7 e4 [4,5,8] rfl
  rw [show sel L [4,5,8]=_ from sel3 e1 e2 e5] at hm f1 f2
  refine ⟨x,⟨ca,cn,cc,aa,an,ac,ra,rn,rc,wa,wn,wc,ma,mn,mc⟩,⟨z,0,⟨#[]⟩⟩,rfl,hm,f1,f2,ho,⟨by rcases hz with rfl|rfl <;> (unfold J1;dsimp only;omega),J7G,J5I⟩,zO,zO,zO,zO,Nat.le_refl _⟩
 refine zi F (fun _=>?_) fun _=>?_
 ·refine zr2 fun _ F=>?_
  refine J0 (kBd F J1q (k:=zk fun _ F=>?_))
  refine J0 (kW F M 7 [_,_,_,_,_,_,_,_,_,_] [_,_,_,_,_,_,_,_,_] (k:=fun w M=>zk fun _ F=>?_))
  refine J0 (kW F M 8 [_,_,_] [_,_,_,_,_,_,_,_,_] (k:=fun w M=>zk fun _ F=>?_))
  refine Jg F (JU rfl (zca F M.at' 1) (zca F M.at' 0)) ?_
  exact leave 2 (.inl rfl) M.st rfl rfl rfl rfl rfl rfl
 refine zr2 fun _ F=>?_
 refine zi F (fun _=>?_) fun h8=>?_
 ·refine zr2 fun _ F=>?_
  refine J0 (kBd F J1q (k:=zk fun _ F=>?_))
  refine J0 (kW F M 7 [_,_,_,_,_,_,_,_,_,_] [_,_,_,_,_,_,_,_,_] (k:=fun w M=>zk fun _ F=>?_))
  refine J0 (kW F M 8 [_,_,_] [_,_,_,_,_,_,_,_,_] (k:=fun w M=>zk fun _ F=>?_))
  refine Jg F (JU rfl (zca F M.at' 1) (zca F M.at' 0)) ?_
  exact leave 3 (.inr rfl) M.st rfl rfl rfl rfl rfl rfl
 refine zr2 fun _ F=>?_
 refine J3J (MidA (J2f s x.proc) H w0 x c s ca cn cc aa an ac ra rn rc wa wn wc ma mn mc b4 b5 b6 b7) ?_ ?_
 ·refine J5L [(_,[_,_,_,_,_,_,_,_,_,_],_),(_,[_,_,_,_,_,_],_)] [] [] (.b3 [0,1,3,4,5] 2 (.b3 [] 6 (.b2 [7,8,9,10] 11 (.l [12,13,14,15]) 12 (.l [11,13,14,15])) 11 (.b2 [] 6 (.l [7,8,9,10,12,13,14,15]) 12 (.l [6,7,8,9,10,13,14,15])) 12 (.b2 [] 6 (.l [7,8,9,10,11,13,14,15]) 11 (.l [6,7,8,9,10,13,14,15]))) 11 (.b2 [] 2 (.b2 [] 6 (.l [7,8,9,10,12,13,14,15]) 12 (.l [6,7,8,9,10,13,14,15])) 12 (.l [2,6,7,8,9,10,13,14,15])) 12 (.b2 [] 2 (.b2 [] 6 (.l [7,8,9,10,11,13,14,15]) 11 (.l [6,7,8,9,10,13,14,15])) 11 (.l [2,6,7,8,9,10,13,14,15]))) M (hd2 M.at' 0 1) mixed zK fun w M hS=>?_
  refine en3 ?_
  refine zr2 fun _ F=>?_
  refine J0c F rfl rfl rfl rfl rfl rfl rfl rfl fun _ F=>?_
  refine zr2 fun _ F=>?_
  refine J4R ?_ ?_ ?_
  ·refine Jh rfl (kS F M (hc:=J4u (t:=⟨ca,cn,cc,aa,an,ac,ra,rn,rc,wa,wn,wc,ma,mn,mc⟩) M.tb M.v.s (J4y M.at' 2 rfl rfl rfl rfl rfl) ho h1 h2 zO) (k:=fun v _ w _ M=>oH (hd2 M.at' 0 1) (o3 (zkN fun _ F=>?_))))
   refine J4R ?_ ?_ ?_
   ·refine Jh rfl (kS F M (hc:=J11 (c:=c) M.tb M.v (hi64:=ho.2.2.1)) (k:=fun v s2 w qq M=>oH (hd2 M.at' 0 1) (o2 (zkN fun _ F=>?_))))
    refine J03 ?_ ?_
    ·refine Jh rfl (kAl F M J00 [_,_,_] (k:=fun b9 w M=>oH (hd2 M.at' 1 2) (oL (zkN fun _ F=>?_))))
     refine J2 rfl rfl (kAl F M J0i [_,_] (k:=fun b10 w M=>kH (hd2 M.at' 2 3) (zkN fun _ F=>?_)))
     refine J2 rfl rfl (kW F M 1 [_,_,_] [_,_,_,_,_,_,_,_,_,_,_] (k:=fun w M=>kF (zkN fun _ F=>?_)))
     refine J2 rfl rfl (kW F M 1 [_,_] [_,_,_,_,_,_,_,_,_,_,_] (k:=fun w M=>kF (zkN fun _ F=>?_)))
     exact ⟨v,s2,qq,b9,b10,F.cut rfl,M⟩
    refine Jh rfl (kAl F M J0i [_,_] (k:=fun b10 w M=>oH (hd2 M.at' 1 2) (oL (zkN fun _ F=>?_))))
    refine J2 rfl rfl (kAl F M J00 [_,_,_] (k:=fun b9 w M=>kH (hd2 M.at' 2 3) (zkN fun _ F=>?_)))
    refine J2 rfl rfl (kW F M 0 [_,_,_] [_,_,_,_,_,_,_,_,_,_,_] (k:=fun w M=>kF (zkN fun _ F=>?_)))
    refine J2 rfl rfl (kW F M 1 [_,_] [_,_,_,_,_,_,_,_,_,_,_] (k:=fun w M=>kF (zkN fun _ F=>?_)))
    exact ⟨v,s2,qq,b9,b10,F.cut rfl,M⟩
   ·refine Jh rfl (kAl F M J00 [_,_,_] (k:=fun b9 w M=>oH (hd2 M.at' 1 2) (o2 (zkN fun _ F=>?_))))
    refine J03 ?_ ?_
    ·refine Jh rfl (kS F M (hc:=J11 (c:=c) M.tb M.v (hi64:=ho.2.2.1)) (k:=fun v s2 w qq M=>oH (hd2 M.at' 1 2) (oL (zkN fun _ F=>?_))))
     refine J2 rfl rfl (kAl F M J0i [_,_] (k:=fun b10 w M=>kH (hd2 M.at' 2 3) (zkN fun _ F=>?_)))
     refine J2 rfl rfl (kW F M 1 [_,_,_] [_,_,_,_,_,_,_,_,_,_,_] (k:=fun w M=>kF (zkN fun _ F=>?_)))
     refine J2 rfl rfl (kW F M 1 [_,_] [_,_,_,_,_,_,_,_,_,_,_] (k:=fun w M=>kF (zkN fun _ F=>?_)))
     exact ⟨v,s2,qq,b9,b10,F.cut rfl,M⟩
    refine Jh rfl (kAl F M J0i [_,_] (k:=fun b10 w M=>oH (hd2 M.at' 2 3) (oL (zkN fun _ F=>?_))))
    refine J2 rfl rfl (kS F M (hc:=J11 (c:=c) M.tb M.v (hi64:=ho.2.2.1)) (k:=fun v s2 w qq M=>kH (hd2 M.at' 2 3) (zkN fun _ F=>?_)))
    refine J2 rfl rfl (kW F M 1 [_,_,_] [_,_,_,_,_,_,_,_,_,_,_] (k:=fun w M=>kF (zkN fun _ F=>?_)))
    refine J2 rfl rfl (kW F M 1 [_,_] [_,_,_,_,_,_,_,_,_,_,_] (k:=fun w M=>kF (zkN fun _ F=>?_)))
    exact ⟨v,s2,qq,b9,b10,F.cut rfl,M⟩
   refine Jh rfl (kAl F M J0i [_,_] (k:=fun b10 w M=>oH (hd2 M.at' 1 2) (o2 (zkN fun _ F=>?_))))
   refine J03 ?_ ?_
   ·refine Jh rfl (kS F M (hc:=J11 (c:=c) M.tb M.v (hi64:=ho.2.2.1)) (k:=fun v s2 w qq M=>oH (hd2 M.at' 1 2) (oL (zkN fun _ F=>?_))))
    refine J2 rfl rfl (kAl F M J00 [_,_,_] (k:=fun b9 w M=>kH (hd2 M.at' 2 3) (zkN fun _ F=>?_)))
    refine J2 rfl rfl (kW F M 0 [_,_,_] [_,_,_,_,_,_,_,_,_,_,_] (k:=fun w M=>kF (zkN fun _ F=>?_)))
    refine J2 rfl rfl (kW F M 1 [_,_] [_,_,_,_,_,_,_,_,_,_,_] (k:=fun w M=>kF (zkN fun _ F=>?_)))
    exact ⟨v,s2,qq,b9,b10,F.cut rfl,M⟩
   refine Jh rfl (kAl F M J00 [_,_,_] (k:=fun b9 w M=>oH (hd2 M.at' 2 3) (oL (zkN fun _ F=>?_))))
   refine J2 rfl rfl (kS F M (hc:=J11 (c:=c) M.tb M.v (hi64:=ho.2.2.1)) (k:=fun v s2 w qq M=>kH (hd2 M.at' 2 3) (zkN fun _ F=>?_)))
   refine J2 rfl rfl (kW F M 0 [_,_,_] [_,_,_,_,_,_,_,_,_,_,_] (k:=fun w M=>kF (zkN fun _ F=>?_)))
   refine J2 rfl rfl (kW F M 1 [_,_] [_,_,_,_,_,_,_,_,_,_,_] (k:=fun w M=>kF (zkN fun _ F=>?_)))
   exact ⟨v,s2,qq,b9,b10,F.cut rfl,M⟩
  ·refine Jh rfl (kAl F M J00 [_,_,_] (k:=fun b9 w M=>oH (hd2 M.at' 1 2) (o2 (zkN fun _ F=>?_))))
   refine J03 ?_ ?_
   ·refine Jh rfl (kS F M (hc:=J4u (t:=⟨ca,cn,cc,aa,an,ac,ra,rn,rc,wa,wn,wc,ma,mn,mc⟩) M.tb M.v.s (J4y M.at' 3 rfl rfl rfl rfl rfl) ho h1 h2 zO) (k:=fun v _ w _ M=>oH (hd2 M.at' 1 2) (o2 (zkN fun _ F=>?_))))
    refine J03 ?_ ?_
    ·refine Jh rfl (kS F M (hc:=J11 (c:=c) M.tb M.v (hi64:=ho.2.2.1)) (k:=fun v s2 w qq M=>oH (hd2 M.at' 1 2) (oL (zkN fun _ F=>?_))))
     refine J2 rfl rfl (kAl F M J0i [_,_] (k:=fun b10 w M=>kH (hd2 M.at' 2 3) (zkN fun _ F=>?_)))
     refine J2 rfl rfl (kW F M 1 [_,_,_] [_,_,_,_,_,_,_,_,_,_,_] (k:=fun w M=>kF (zkN fun _ F=>?_)))
     refine J2 rfl rfl (kW F M 1 [_,_] [_,_,_,_,_,_,_,_,_,_,_] (k:=fun w M=>kF (zkN fun _ F=>?_)))
     exact ⟨v,s2,qq,b9,b10,F.cut rfl,M⟩
    refine Jh rfl (kAl F M J0i [_,_] (k:=fun b10 w M=>oH (hd2 M.at' 2 3) (oL (zkN fun _ F=>?_))))
    refine J2 rfl rfl (kS F M (hc:=J11 (c:=c) M.tb M.v (hi64:=ho.2.2.1)) (k:=fun v s2 w qq M=>kH (hd2 M.at' 2 3) (zkN fun _ F=>?_)))
    refine J2 rfl rfl (kW F M 1 [_,_,_] [_,_,_,_,_,_,_,_,_,_,_] (k:=fun w M=>kF (zkN fun _ F=>?_)))
    refine J2 rfl rfl (kW F M 1 [_,_] [_,_,_,_,_,_,_,_,_,_,_] (k:=fun w M=>kF (zkN fun _ F=>?_)))
    exact ⟨v,s2,qq,b9,b10,F.cut rfl,M⟩
   refine Jh rfl (kAl F M J0i [_,_] (k:=fun b10 w M=>oH (hd2 M.at' 2 3) (oL (zkN fun _ F=>?_))))
   refine J2 rfl rfl (kS F M (hc:=J4u (t:=⟨ca,cn,cc,aa,an,ac,ra,rn,rc,wa,wn,wc,ma,mn,mc⟩) M.tb M.v.s (J4y M.at' 4 rfl rfl rfl rfl rfl) ho h1 h2 zO) (k:=fun v _ w _ M=>kH (hd2 M.at' 2 3) (zkN fun _ F=>?_)))
   refine J2 rfl rfl (kS F M (hc:=J11 (c:=c) M.tb M.v (hi64:=ho.2.2.1)) (k:=fun v s2 w qq M=>kH (hd2 M.at' 2 3) (zkN fun _ F=>?_)))
   refine J2 rfl rfl (kW F M 1 [_,_,_] [_,_,_,_,_,_,_,_,_,_,_] (k:=fun w M=>kF (zkN fun _ F=>?_)))
   refine J2 rfl rfl (kW F M 1 [_,_] [_,_,_,_,_,_,_,_,_,_,_] (k:=fun w M=>kF (zkN fun _ F=>?_)))
   exact ⟨v,s2,qq,b9,b10,F.cut rfl,M⟩
  refine Jh rfl (kAl F M J0i [_,_] (k:=fun b10 w M=>oH (hd2 M.at' 1 2) (o2 (zkN fun _ F=>?_))))
  refine J03 ?_ ?_
  ·refine Jh rfl (kS F M (hc:=J4u (t:=⟨ca,cn,cc,aa,an,ac,ra,rn,rc,wa,wn,wc,ma,mn,mc⟩) M.tb M.v.s (J4y M.at' 3 rfl rfl rfl rfl rfl) ho h1 h2 zO) (k:=fun v _ w _ M=>oH (hd2 M.at' 1 2) (o2 (zkN fun _ F=>?_))))
   refine J03 ?_ ?_
   ·refine Jh rfl (kS F M (hc:=J11 (c:=c) M.tb M.v (hi64:=ho.2.2.1)) (k:=fun v s2 w qq M=>oH (hd2 M.at' 1 2) (oL (zkN fun _ F=>?_))))
    refine J2 rfl rfl (kAl F M J00 [_,_,_] (k:=fun b9 w M=>kH (hd2 M.at' 2 3) (zkN fun _ F=>?_)))
    refine J2 rfl rfl (kW F M 0 [_,_,_] [_,_,_,_,_,_,_,_,_,_,_] (k:=fun w M=>kF (zkN fun _ F=>?_)))
    refine J2 rfl rfl (kW F M 1 [_,_] [_,_,_,_,_,_,_,_,_,_,_] (k:=fun w M=>kF (zkN fun _ F=>?_)))
    exact ⟨v,s2,qq,b9,b10,F.cut rfl,M⟩
   refine Jh rfl (kAl F M J00 [_,_,_] (k:=fun b9 w M=>oH (hd2 M.at' 2 3) (oL (zkN fun _ F=>?_))))
   refine J2 rfl rfl (kS F M (hc:=J11 (c:=c) M.tb M.v (hi64:=ho.2.2.1)) (k:=fun v s2 w qq M=>kH (hd2 M.at' 2 3) (zkN fun _ F=>?_)))
   refine J2 rfl rfl (kW F M 0 [_,_,_] [_,_,_,_,_,_,_,_,_,_,_] (k:=fun w M=>kF (zkN fun _ F=>?_)))
   refine J2 rfl rfl (kW F M 1 [_,_] [_,_,_,_,_,_,_,_,_,_,_] (k:=fun w M=>kF (zkN fun _ F=>?_)))
   exact ⟨v,s2,qq,b9,b10,F.cut rfl,M⟩
  refine Jh rfl (kAl F M J00 [_,_,_] (k:=fun b9 w M=>oH (hd2 M.at' 2 3) (oL (zkN fun _ F=>?_))))
  refine J2 rfl rfl (kS F M (hc:=J4u (t:=⟨ca,cn,cc,aa,an,ac,ra,rn,rc,wa,wn,wc,ma,mn,mc⟩) M.tb M.v.s (J4y M.at' 4 rfl rfl rfl rfl rfl) ho h1 h2 zO) (k:=fun v _ w _ M=>kH (hd2 M.at' 2 3) (zkN fun _ F=>?_)))
  refine J2 rfl rfl (kS F M (hc:=J11 (c:=c) M.tb M.v (hi64:=ho.2.2.1)) (k:=fun v s2 w qq M=>kH (hd2 M.at' 2 3) (zkN fun _ F=>?_)))
  refine J2 rfl rfl (kW F M 0 [_,_,_] [_,_,_,_,_,_,_,_,_,_,_] (k:=fun w M=>kF (zkN fun _ F=>?_)))
  refine J2 rfl rfl (kW F M 1 [_,_] [_,_,_,_,_,_,_,_,_,_,_] (k:=fun w M=>kF (zkN fun _ F=>?_)))
  exact ⟨v,s2,qq,b9,b10,F.cut rfl,M⟩
 clear F M
 rintro _ w ⟨v,s2,qq,b9,b10,F,M⟩
 have Q:=M.pick [2,3,1,0,4,5,6,7,8,9,10] [_,_,_,_,_,_,_,_,_,_,_]
 clear M
 obtain ⟨R,W,k1,k2,k3,hU⟩:=Q.v
 have hb:=hU.bd
 have M:=St.start Q.st.all
 refine zr2 fun _ F=>?_
 refine J1P (ok:=okK) F M.at' 4 c ET_54 (hx:=hc) (kk:=fun B1 N1 C1 _ w l1 m _ F=>?_)
 have M:=(M.then m).pick [1,2,3,4,0,5,6,7,8,9,10] [_,_,_,_,_,_,_,_,_,_,_]
 refine zr2 fun _ F=>?_
 refine J0 (kWI F M 0 [_,_,_,_,_,_,_,_,_,_] [_,_,_,_,_,_,_,_,_,_,_] (k:=fun w M=>zk fun _ F=>?_))
 refine J1P (ok:=okR) F M.at' 5 (⟨s2.1,s2.2.1,s2.2.2⟩:AnsD) ET_55 (hx:=⟨qq.1,qq.2.1,qq.2.2⟩) (kk:=fun B2 N2 C2 _ w l2 m _ F=>?_)
 have M:=(M.then m).pick [1,4,3,2,5,0,6,7,8,9,10] [_,_,_,_,_,_,_,_,_,_,_]
 refine zr2 fun _ F=>?_
 refine J0 (kWI F M 0 [_,_,_,_,_,_,_,_,_,_] [_,_,_,_,_,_,_,_,_,_,_] (k:=fun w M=>zk fun _ F=>?_))
 have M0:St [] w0 _ w:=⟨Q.st.mv.trans M.mv,M.tb⟩
 have f1:=J5J (k:=1) (enc:=J3) (ok:=okS) (H:=H) M0 (fun _=>rfl) 6 rfl [0,1,2,3,4,5,8,9,10] rfl
 have f2:=J5J (k:=1) (enc:=J3) (ok:=okS) (H:=H) M0 (fun _=>rfl) 7 rfl [0,1,2,3,4,5,8,9,10] rfl
 have M:=M.pick [0,1,2,3,4,5,8,9,10] [_,_,_,_,_,_,_,_,_]
 have g2:=k2.mq M.mv
 have g3:=k3.mq M.mv
 have M0:St [] w0 _ w:=⟨Q.st.mv.trans M.mv,M.tb⟩
 refine J0 (J0D F (J3l (a:=x.touch) (b:=⟨R,W⟩) f1 f2 g2 g3 zO zO (by dsimp only;omega) (by dsimp only;omega)) rfl rfl rfl rfl rfl rfl fun e w2 h=>?_)
 obtain ⟨ra',rn',rc',wa',wn',wc',rfl,m2,j1,j2⟩:=h
 refine ⟨_,rfl,fun _ F=>?_⟩
 have hf:=At.frame0 M0.at' m2
 have hL:∀ b,w.heap.size≤b→¬ fps _ b:=fun b hb h=>Nat.lt_irrefl _ (Nat.lt_of_lt_of_le (M0.at'.lt b h) hb)
 have j3:=j1.got M0.mv.kp.size hf hL
 have j4:=j2.got M0.mv.kp.size hf hL
 have M1:=M0.then hf
 clear M M0
 have M:=St.start M1.all
 refine zr2 fun _ F=>?_
 refine J0 (kWI F M 0 [_,_,_,_,_,_,_,_,_,_] [_,_,_,_,_,_,_,_,_] (k:=fun w M=>zk fun _ F=>?_))
 refine J5K [(_,[_,_,_,_,_,_,_,_,_,_],_),(_,[_,_,_],_)] [] [] [0,1,2,3] M (hd2 M.at' 0 2) mixed zK fun w M hS=>?_
 refine zr2 fun _ F=>?_
 refine J2 rfl rfl (kWI F M 7 [_,_,_,_,_,_,_,_,_,_] [_,_,_,_,_,_,_,_,_] (k:=fun w M=>kH (hd2 M.at' 1 3) (zkN fun _ F=>?_)))
 refine J2 rfl rfl (kWI F M 8 [_,_,_] [_,_,_,_,_,_,_,_,_] (k:=fun w M=>kF (zkN fun _ F=>?_)))
 refine Jg F (JU rfl (zca F M.at' 1) (zca F M.at' 0)) ?_
 have p1:=J51 x.touch.reads R
 have p2:=J51 x.touch.writes W
 exact ⟨⟨x.id,x.age,x.proc,x.began,x.calls++[c],x.answers++[(⟨s2.1,s2.2.1,s2.2.2⟩:AnsD)],J4N x.touch ⟨R,W⟩,x.marks,x.state⟩,⟨B1,N1,C1,B2,N2,C2,ra',rn',rc',wa',wn',wc',ma,mn,mc⟩,⟨s2.1,s2.2.1,s2.2.2⟩,rfl,(M1.mv.trans M.mv).pick [6,7,8] rfl,j3.mq (M.mv.pick [6,7,8] rfl),j4.mq (M.mv.pick [6,7,8] rfl),ho,⟨qq.1,qq.2.1,qq.2.2⟩,
  by simp,by simp,Nat.le_trans p1 zO,Nat.le_trans p2 zO,Nat.le_refl _⟩
end Go.Proofs.YtipdbeklopjbmaaGreatDoor
