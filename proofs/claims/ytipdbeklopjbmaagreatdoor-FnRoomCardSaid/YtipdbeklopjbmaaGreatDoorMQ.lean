/-
  The reference's run of a list of calls on a store.
-/
import Derived.Test.YtipdbeklopjbmaaGreatDoorKaN
import Derived.Test.YtipdbeklopjbmaaGreatDoorP24
set_option linter.unusedVariables false
set_option linter.unusedSimpArgs false
namespace Go.Proofs.YtipdbeklopjbmaaGreatDoor
open Go.ChangeShapes Go.WideShapes Go.ChangeAt Go.RowKit Go.Proofs.Tryz
instance iMQ1:RTc prog 110 f110 51:=rtc func110 ntmps110
theorem CFco:CF prog 148:=⟨⟨_,_,func148,rfl,by kernel_rfl⟩⟩
instance iMQ2:CFc prog 148:=⟨CFco⟩
theorem CFjt:CF prog 149:=⟨⟨_,_,func149,rfl,by kernel_rfl⟩⟩
instance iMQ3:CFc prog 149:=⟨CFjt⟩
structure SpJ (X:Uni) (H:Nat→Prop) (w0:World) (L:List Atom) (w:World) (v v':MV) (R W:List ByteArray) (D:List CellD) (u:Nat):Prop where
 n:Sp (X.ext (R++W)) H w0 L w v' D u
 r:Rd 1 J3 okS (V H w0 L) w v.R R
 x:Rd 1 J3 okS (V H w0 L) w v.W W
section
variable {P:Program} {ops:Array Oper} {Q:Exit→Act→World→Prop} {K:Act→World→Prop} {o:Oper} {a:Act} {d n:Nat} {m:List (Nat × Value)}
variable {X:Uni} {H:Nat→Prop} {w0 w w':World} {L L':List Atom} {v v1 v':MV} {R W:List ByteArray} {D D':List CellD} {u u':Nat}
theorem SpJ.then (M:SpJ X H w0 L w v v1 R W D u) (m:Mv L w L' w'):SpJ X H w0 L' w' v v1 R W D u:=⟨M.n.then m,M.r.mq m,M.x.mq m⟩
theorem SpJ.at' (M:SpJ X H w0 L w v v1 R W D u):At w L:=M.n.at'
theorem SpJ.drew (M:SpJ X H w0 L w v v1 R W D u):SpJ X H w0 L w.drew v v1 R W D u:=M.then (J1U M.at')
theorem SpJ.pick (M:SpJ X H w0 L w v v1 R W D u) (is:List Nat) (L':List Atom) (h:JP L.length is=true:=by exact rfl) (e:sel L is=L':=by exact rfl):SpJ X H w0 L' w v v1 R W D u:=by
 subst e
 exact M.then ((Mv.refl M.at').pick is h)
theorem SpJ.call (M:SpJ X H w0 L w v v1 R W D u) (m:Mv [] w [] w') (hm:RM (X.ext (R++W)) (Fsh (V H w0 L) w) w' v' D' u'):SpJ X H w0 L w' v v' R W D' u':=
 ⟨M.n.call m hm,M.r.mq (At.frame0 M.at' m),M.x.mq (At.frame0 M.at' m)⟩
theorem Sp.toJ (M:Sp X H w0 L w v D u):∃ R W,SpJ X H w0 L w v ⟨v.sa,none,none,v.sn,v.sc,0,0,0,0⟩ R W D u∧srtL R∧srtL W∧R.length≤u∧W.length≤u:=by
 obtain ⟨R,W,g1,g2,g3,h4⟩:=M.v
 exact ⟨R,W,⟨⟨M.st,[],[],g1,Rd.nil,Rd.nil,h4.base⟩,g2,g3⟩,h4.srt.1,h4.srt.2,h4.bd.2.1,h4.bd.2.2.1⟩
theorem kSJ {ρ σ:Type} {r:ρ} {q:ρ→σ→Prop} {g:MV→ρ→σ→Value} {f:Nat} {vs:List Value} [I:CFc P f] (F:Fr n m a) (M:SpJ X H w0 L w v v1 R W D u)
 (hx:J1u m o=vs:=by exact rfl) (hf:J1v o=f:=by exact rfl) (ho:J1E m o=true:=by exact rfl) (hd:o.dst=some d:=by exact rfl) (hw:J8 ops m o=some true:=by exact rfl) (hp:Nat.blt d n=true:=by exact rfl)
 (hc:Calls P f vs.toArray w (PS (X.ext (R++W)) (V H w0 L) w g r D' u' q))
 (k:∀ v' s w',q r s→SpJ X H w0 L w' v v' R W D' u'→∀ a',Fr n ((d,g v' r s)::m) a'→K a' w'):st1 P ops Q o K a w:=
 J0D F hc hx hf ho hd hw hp fun _ w' ⟨v',s,h1,h2,h3,h4⟩=>⟨_,h1,k v' s w' h4 (M.call h2 h3)⟩
theorem J2z {t:TypeId} {z:Value} (F:Fr n m a) (M:SpJ X H w0 L w v v1 R W D u) (Z:ZI P t z) (cs:List Value) (ho:o.op=.alloc t:=by exact rfl) (hd:o.dst=some d:=by exact rfl) (hw:J8 ops m o=some true:=by exact rfl) (hz:z.cells.toList=cs:=by exact rfl) (hp:Nat.blt d n=true:=by exact rfl)
 (k:∀ b w',SpJ X H w0 (bx b cs t::L) w' v v1 R W D u→∀ a',Fr n ((d,pT b)::m) a'→K a' w'):st1 P ops Q o K a w:=J2a F M.at' Z (Jk F hw) hd ho hz hp fun b a' w' F' m'=>k b w' (M.then m') a' F'
theorem kWJ {t:TypeId} {x y:Operand} {g:Bool} {c:Nat} [I:TIc P t g c] (F:Fr n m a) (M:SpJ X H w0 L w v v1 R W D u) (j:Nat) (cs':List Value) (L':List Atom) {b off:Nat} {cs vs:List Value} {T:TypeId} {val:Value} (ho:o.op=.store t x y:=by exact rfl) (hx:opd m x=some (.pointer (some ⟨b,off,none⟩)):=by exact rfl) (hy:opd m y=some val:=by exact rfl) (hw:J8 ops m o=some true:=by exact rfl) (hd:o.dst=none:=by exact rfl)
 (hL:nth L j=some (bx b cs T):=by exact rfl) (hok:JP L.length [j]=true:=by exact rfl) (hv:val.cells.toList=vs:=by exact rfl) (hk:vs.length=c:=by exact rfl) (hfit:Nat.ble (off+vs.length) cs.length=true:=by exact rfl) (h1:vs.all (·.oneCell')=true:=by exact rfl) (e:Jq cs off vs=cs':=by exact rfl) (e':[bx b cs' T]++del L [j]=L':=by exact rfl)
 (k:∀ w',SpJ X H w0 L' w' v v1 R W D u→∀ a',Fr n m a'→K a' w'):st1 P ops Q o K a w:=kWm F M.at' j cs' L' ho hx hy hw hd hL hok hv hk hfit h1 e e' fun w' m'=>k w' (M.then m') a F
theorem Sp.freeze {e:Nat} {ad:Option Addr} {q c:Nat} (M:Sp X H w0 (ow e 2 J6 okC (.slice ad q c) D'::L) w v D u) (h:D'=D):Sp X H w0 L w ⟨ad,v.ra,v.wa,q,c,v.rn,v.rc,v.wn,v.wc⟩ D u:=by
 subst h
 have f:=At.freeze (G:=H) (k:=2) (enc:=J6) (ok:=okC) M.st.mv (fun _=>rfl) 0 rfl fun b hb=>(M.st.mv.fresh b ⟨_,List.mem_cons_self ..,hb⟩).resolve_left (JF _)
 rw [J2G] at f
 have m:Mv (ow e 2 J6 okC (.slice ad q c) D'::L) w L w:=by
  have:=M.at'.drop 0
  rwa [J2G] at this
 obtain ⟨R,W,_,g2,g3,h4⟩:=M.v
 exact ⟨M.st.then m,R,W,f,g2.mq m,g3.mq m,h4⟩
theorem SpJ.join {R' W':List ByteArray} {ra wa:Option Addr} {rn rc wn wc:Nat} (M:SpJ X H w0 L w v v1 R W D u) (k1:Rd 2 J6 okC (V H w0 L) w v1.S D) (hU:Un (X.ext (R++W)) u D R' W') (hR:srtL R) (hW:srtL W) (m:Mv [] w [] w')
 (j1:Rd 1 J3 okS (Fsh (V H w0 L) w) w' (.slice ra rn rc) (J0p R R')) (j2:Rd 1 J3 okS (Fsh (V H w0 L) w) w' (.slice wa wn wc) (J0p W W')) (hD:D=D') (hu:u≤u'):Sp X H w0 L w' ⟨v1.sa,ra,wa,v1.sn,v1.sc,rn,rc,wn,wc⟩ D' u':=by
 subst hD
 have hf:=At.frame0 M.at' m
 have hL:∀ b,w.heap.size≤b→¬ fps L b:=fun b hb h=>by have:=M.at'.lt b h;omega
 have hs:=M.n.st.mv.kp.size
 exact ⟨M.n.st.then hf,J0p R R',J0p W W',k1.mq hf,j1.got hs hf hL,j2.got hs hf hL,(hU.join hR hW).le hu⟩
end
theorem RM.castD {X:Uni} {H:Nat→Prop} {w:World} {v:MV} {D D':List CellD} {u:Nat} (h:RM X H w v D u) (e:D=D'):RM X H w v D' u:=e ▸ h
def PRn (X:Uni) (H:Nat→Prop) (w:World) (D:List CellD) (u:Nat) (e:Ending) (w':World):Prop:=
 ∃ (v:MV) (s:GL AnsD),e=.returned (.tuple #[v.S,s.val,.agg #[v.R,v.W]])∧Mv [] w [] w'∧RM X (Fsh H w) w' v D u∧Rd 3 J0x okR (Fsh H w) w' s.val s.l
set_option maxRecDepth 100000 in
set_option maxHeartbeats 8000000 in
theorem J9P {X:Uni} {w:World} {u:Nat} {D:List CellD} {H H2:Nat→Prop} {cs:List CallD} {sa:Option Addr} {sn sc:Nat} {ad:Option Addr} {q c:Nat} (hT:TbO w []) (hD:Rd 2 J6 okC H w (.slice sa sn sc) D) (hs:Rd 7 J1p J1f H2 w (.slice ad q c) (cs.map (J1J X.P))) (hU:Un X u D [] []) (hn:sn≤1099511627776) (hq:q≤1048576) (hu:u+330 * q≤68718428160) (hi64:J1 X.P) :
 Calls prog 110 #[.slice sa sn sc,.slice ad q c] w (PRn X H w (J0m D X.P cs) (u+330 * q)):=by
 have hql:q=cs.length:=by have:=hs.inv.1;rwa [List.length_map] at this
 have hsn:sn=D.length:=hD.inv.1
 have M:=Sp.start (v:=⟨sa,none,none,sn,sc,0,0,0,0⟩) hT ⟨[],[],hD,Rd.nil,Rd.nil,hU⟩
 have hs0:Rd 7 J1p J1f (V H2 w []) w (.slice ad q c) (cs.map (J1J X.P)):=Rd.start hs fun _ _=>JF _
 refine zE (f:=110) fun _ F=>?_
 refine J0 (kAl F M J0i [_,_] (k:=fun b6 w M=>zk fun _ F=>?_))
 refine J0 (J4b (enc:=J6) (ok:=okC) (k:=2) F M.at' ET_28 (kk:=fun b0 w m _ F=>?_))
 have M:=M.then m
 refine zr2 fun _ F=>?_
 obtain ⟨_,_,g1,_,_,_⟩:=M.v
 refine J0 (Jv F M.at' 0 ET_28 rfl rfl (Jk F rfl) rfl rfl rfl (F.g rfl) (F.g rfl) g1.1 (by rw [List.length_nil,Nat.zero_add];omega) fun b1 q1 c1 _ w F m hq1=>?_)
 have M:=(M.then m).freeze (List.nil_append D)
 refine zr2 fun _ F=>?_
 refine J0 (J4b (enc:=J0x) (ok:=okR) (k:=3) F M.at' ET_55 (kk:=fun b0 w m _ F=>?_))
 have M:=M.then m
 refine zr2 fun _ F=>?_
 refine J0 (kBd F J4L (k:=zk fun _ F=>?_))
 refine J0 (kAl F M J0i [_,_] (k:=fun b8 w M=>zk fun _ F=>?_))
 refine J0 (kW F M 0 [_,_] [_,_,_] (k:=fun w M=>zk fun _ F=>?_))
 have F:=F.cut (m':=[(9,_),(0,_),(7,_),(1,_),(8,_),(6,_)]) rfl
 refine J1e (γ:=(Nat × GL AnsD) × MV) (slots:=fun g=>[(9,nV g.1.1),(0,g.2.S),(7,g.1.2.val)]) (LL:=fun g=>[bx b8 [g.2.R,g.2.W] 56,owG 155 3 J0x okR g.1.2,bx b6 [sN,sN] 56]) (vv:=fun g=>g.2) (DD:=fun g=>J0m D X.P (cs.take g.1.1)) (uu:=fun g=>u+330 * g.1.1) (pr:=fun g=>g.1.1≤q∧g.1.2.l.length≤g.1.1) (g0:=((0,⟨_,_,_,_⟩),⟨_,none,none,_,_,0,0,0,0⟩)) (fun g=>q - g.1.1) F M ⟨Nat.zero_le _,Nat.zero_le _⟩ fun g a w F M hp=>?_
 refine zr2 fun _ F=>?_
 refine zi F (fun h1=>?_) fun h1=>?_
 ·refine zr2 fun _ F=>?_
  obtain ⟨R,W,M,hsR,hsW,hlR,hlW⟩:=M.toJ
  refine J60 (ex:=[]) (S:=HdK [] [rdx 7 J1p J1f (.slice ad q c) (cs.map (J1J X.P))]) (.b3 [0,1,2,3,4,5,6,7,8,9,10] 11 (.b2 [12,13,14,15] 16 (.l [17,18,19,20]) 17 (.l [16,18,19,20])) 16 (.b2 [] 11 (.l [12,13,14,15,17,18,19,20]) 17 (.l [11,12,13,14,15,18,19,20])) 17 (.b2 [] 11 (.l [12,13,14,15,16,18,19,20]) 16 (.l [11,12,13,14,15,18,19,20]))) mixed zK ?_
  have M:=M.drew
  have hS:=HdK.view (l:=[]) (hs0.mq M.n.st.mv) HdS.nil
  refine en3 ?_
  refine zr2 fun _ F=>?_
  refine JbO (ad:=ad) (q:=q) (c:=c) (l:=cs.map (J1J X.P)) J3b J9A F hS ET_151 0 g.1.1 zO (fun x=>[iV x.proc]) (kk:=fun x1 _ _ hx1 ok1 _ F=>?_)
  refine zr2 fun _ F=>?_
  refine JbO (ad:=ad) (q:=q) (c:=c) (l:=cs.map (J1J X.P)) J5w J9B F hS ET_151 0 g.1.1 zO (fun x=>[iV x.call.kind,.string x.call.name,.string x.call.to_,iV x.call.a,iV x.call.b,.string x.call.text]) (kk:=fun x2 _ _ hx2 ok2 _ F=>?_)
  refine zr2 fun _ F=>?_
  obtain ⟨c,hc,rfl⟩:=J6P hx1
  obtain ⟨c2,hc2,rfl⟩:=J6P hx2
  obtain rfl:c=c2:=Option.some.inj (hc.symm.trans hc2)
  have hok:okK c:=ok1.2
  refine J4R ?_ ?_ ?_
  ·refine Jh rfl (kSJ F M (hc:=J11 (c:=c) M.n.tb M.n.v) (k:=fun v1 s w qq M=>oF (o2 (zkN fun _ F=>?_))))
   refine J03 ?_ ?_
   ·refine Jh rfl (J2z F M J00 [_,_,_] (k:=fun b11 w M=>oH (HdK.view (hs0.mq M.n.st.mv) HdS.nil) (oL (zkN fun _ F=>?_))))
    refine J2 rfl rfl (J2z F M J0i [_,_] (k:=fun b12 w M=>kH (HdK.view (hs0.mq M.n.st.mv) HdS.nil) (zkN fun _ F=>?_)))
    refine J2 rfl rfl (kWJ F M 1 [_,_,_] [_,_,_,_,_] (k:=fun w M=>kF (zkN fun _ F=>?_)))
    refine J2 rfl rfl (kWJ F M 1 [_,_] [_,_,_,_,_] (k:=fun w M=>kF (zkN fun _ F=>?_)))
    refine J1P (ok:=okR) F M.at' 3 (⟨s.1,s.2.1,s.2.2⟩:AnsD) ET_55 (hx:=⟨qq.1,qq.2.1,qq.2.2⟩) (kk:=fun B N C _ w l m _ F=>?_)
    have M:=(M.then m).pick [3,1,0,4] [_,_,_,_]
    refine zr2 fun _ F=>?_
    obtain ⟨R1,W1,k1,k2,k3,hU2⟩:=M.n.v
    have hb2:=hU2.bd
    refine J0 (J0D F (J3l (a:=⟨R,W⟩) (b:=⟨R1,W1⟩) M.r M.x k2 k3 (by dsimp only;omega) (by dsimp only;omega) (by dsimp only;omega) (by dsimp only;omega)) rfl rfl rfl rfl rfl rfl fun e w2 h=>?_)
    obtain ⟨ra,rn,rc,wa,wn,wc,rfl,m2,j1,j2⟩:=h
    refine ⟨_,rfl,fun _ F=>?_⟩
    have M:=M.join (u':=u+330 * (g.1.1+1)) k1 hU2 hsR hsW m2 j1 j2 (J3s hc) zO
    refine zr2 fun _ F=>?_
    refine J0 (kW F M 0 [_,_] [_,_,_,_] (k:=fun w M=>zk fun _ F=>?_))
    have M:=M.pick [0,2,3] [_,_,_]
    exact Jw ((g.1.1+1,⟨B,N,C,g.1.2.l++[⟨s.1,s.2.1,s.2.2⟩]⟩),⟨v1.sa,ra,wa,v1.sn,v1.sc,rn,rc,wn,wc⟩) (by dsimp only;omega) ⟨F.cut rfl,M,⟨by dsimp only;omega,by simp only [List.length_append,List.length_singleton];omega⟩⟩
   refine Jh rfl (J2z F M J0i [_,_] (k:=fun b12 w M=>oH (HdK.view (hs0.mq M.n.st.mv) HdS.nil) (oL (zkN fun _ F=>?_))))
   refine J2 rfl rfl (J2z F M J00 [_,_,_] (k:=fun b11 w M=>kH (HdK.view (hs0.mq M.n.st.mv) HdS.nil) (zkN fun _ F=>?_)))
   refine J2 rfl rfl (kWJ F M 0 [_,_,_] [_,_,_,_,_] (k:=fun w M=>kF (zkN fun _ F=>?_)))
   refine J2 rfl rfl (kWJ F M 1 [_,_] [_,_,_,_,_] (k:=fun w M=>kF (zkN fun _ F=>?_)))
   refine J1P (ok:=okR) F M.at' 3 (⟨s.1,s.2.1,s.2.2⟩:AnsD) ET_55 (hx:=⟨qq.1,qq.2.1,qq.2.2⟩) (kk:=fun B N C _ w l m _ F=>?_)
   have M:=(M.then m).pick [3,1,0,4] [_,_,_,_]
   refine zr2 fun _ F=>?_
   obtain ⟨R1,W1,k1,k2,k3,hU2⟩:=M.n.v
   have hb2:=hU2.bd
   refine J0 (J0D F (J3l (a:=⟨R,W⟩) (b:=⟨R1,W1⟩) M.r M.x k2 k3 (by dsimp only;omega) (by dsimp only;omega) (by dsimp only;omega) (by dsimp only;omega)) rfl rfl rfl rfl rfl rfl fun e w2 h=>?_)
   obtain ⟨ra,rn,rc,wa,wn,wc,rfl,m2,j1,j2⟩:=h
   refine ⟨_,rfl,fun _ F=>?_⟩
   have M:=M.join (u':=u+330 * (g.1.1+1)) k1 hU2 hsR hsW m2 j1 j2 (J3s hc) zO
   refine zr2 fun _ F=>?_
   refine J0 (kW F M 0 [_,_] [_,_,_,_] (k:=fun w M=>zk fun _ F=>?_))
   have M:=M.pick [0,2,3] [_,_,_]
   exact Jw ((g.1.1+1,⟨B,N,C,g.1.2.l++[⟨s.1,s.2.1,s.2.2⟩]⟩),⟨v1.sa,ra,wa,v1.sn,v1.sc,rn,rc,wn,wc⟩) (by dsimp only;omega) ⟨F.cut rfl,M,⟨by dsimp only;omega,by simp only [List.length_append,List.length_singleton];omega⟩⟩
  ·refine Jh rfl (J2z F M J00 [_,_,_] (k:=fun b11 w M=>oH (HdK.view (hs0.mq M.n.st.mv) HdS.nil) (o2 (zkN fun _ F=>?_))))
   refine J03 ?_ ?_
   ·refine Jh rfl (kSJ F M (hc:=J11 (c:=c) M.n.tb M.n.v) (k:=fun v1 s w qq M=>oF (oL (zkN fun _ F=>?_))))
    refine J2 rfl rfl (J2z F M J0i [_,_] (k:=fun b12 w M=>kH (HdK.view (hs0.mq M.n.st.mv) HdS.nil) (zkN fun _ F=>?_)))
    refine J2 rfl rfl (kWJ F M 1 [_,_,_] [_,_,_,_,_] (k:=fun w M=>kF (zkN fun _ F=>?_)))
    refine J2 rfl rfl (kWJ F M 1 [_,_] [_,_,_,_,_] (k:=fun w M=>kF (zkN fun _ F=>?_)))
    refine J1P (ok:=okR) F M.at' 3 (⟨s.1,s.2.1,s.2.2⟩:AnsD) ET_55 (hx:=⟨qq.1,qq.2.1,qq.2.2⟩) (kk:=fun B N C _ w l m _ F=>?_)
    have M:=(M.then m).pick [3,1,0,4] [_,_,_,_]
    refine zr2 fun _ F=>?_
    obtain ⟨R1,W1,k1,k2,k3,hU2⟩:=M.n.v
    have hb2:=hU2.bd
    refine J0 (J0D F (J3l (a:=⟨R,W⟩) (b:=⟨R1,W1⟩) M.r M.x k2 k3 (by dsimp only;omega) (by dsimp only;omega) (by dsimp only;omega) (by dsimp only;omega)) rfl rfl rfl rfl rfl rfl fun e w2 h=>?_)
    obtain ⟨ra,rn,rc,wa,wn,wc,rfl,m2,j1,j2⟩:=h
    refine ⟨_,rfl,fun _ F=>?_⟩
    have M:=M.join (u':=u+330 * (g.1.1+1)) k1 hU2 hsR hsW m2 j1 j2 (J3s hc) zO
    refine zr2 fun _ F=>?_
    refine J0 (kW F M 0 [_,_] [_,_,_,_] (k:=fun w M=>zk fun _ F=>?_))
    have M:=M.pick [0,2,3] [_,_,_]
    exact Jw ((g.1.1+1,⟨B,N,C,g.1.2.l++[⟨s.1,s.2.1,s.2.2⟩]⟩),⟨v1.sa,ra,wa,v1.sn,v1.sc,rn,rc,wn,wc⟩) (by dsimp only;omega) ⟨F.cut rfl,M,⟨by dsimp only;omega,by simp only [List.length_append,List.length_singleton];omega⟩⟩
   refine Jh rfl (J2z F M J0i [_,_] (k:=fun b12 w M=>oH (HdK.view (hs0.mq M.n.st.mv) HdS.nil) (oL (zkN fun _ F=>?_))))
   refine J2 rfl rfl (kSJ F M (hc:=J11 (c:=c) M.n.tb M.n.v) (k:=fun v1 s w qq M=>kF (zkN fun _ F=>?_)))
   refine J2 rfl rfl (kWJ F M 1 [_,_,_] [_,_,_,_,_] (k:=fun w M=>kF (zkN fun _ F=>?_)))
   refine J2 rfl rfl (kWJ F M 1 [_,_] [_,_,_,_,_] (k:=fun w M=>kF (zkN fun _ F=>?_)))
   refine J1P (ok:=okR) F M.at' 3 (⟨s.1,s.2.1,s.2.2⟩:AnsD) ET_55 (hx:=⟨qq.1,qq.2.1,qq.2.2⟩) (kk:=fun B N C _ w l m _ F=>?_)
   have M:=(M.then m).pick [3,1,0,4] [_,_,_,_]
   refine zr2 fun _ F=>?_
   obtain ⟨R1,W1,k1,k2,k3,hU2⟩:=M.n.v
   have hb2:=hU2.bd
   refine J0 (J0D F (J3l (a:=⟨R,W⟩) (b:=⟨R1,W1⟩) M.r M.x k2 k3 (by dsimp only;omega) (by dsimp only;omega) (by dsimp only;omega) (by dsimp only;omega)) rfl rfl rfl rfl rfl rfl fun e w2 h=>?_)
   obtain ⟨ra,rn,rc,wa,wn,wc,rfl,m2,j1,j2⟩:=h
   refine ⟨_,rfl,fun _ F=>?_⟩
   have M:=M.join (u':=u+330 * (g.1.1+1)) k1 hU2 hsR hsW m2 j1 j2 (J3s hc) zO
   refine zr2 fun _ F=>?_
   refine J0 (kW F M 0 [_,_] [_,_,_,_] (k:=fun w M=>zk fun _ F=>?_))
   have M:=M.pick [0,2,3] [_,_,_]
   exact Jw ((g.1.1+1,⟨B,N,C,g.1.2.l++[⟨s.1,s.2.1,s.2.2⟩]⟩),⟨v1.sa,ra,wa,v1.sn,v1.sc,rn,rc,wn,wc⟩) (by dsimp only;omega) ⟨F.cut rfl,M,⟨by dsimp only;omega,by simp only [List.length_append,List.length_singleton];omega⟩⟩
  refine Jh rfl (J2z F M J0i [_,_] (k:=fun b12 w M=>oH (HdK.view (hs0.mq M.n.st.mv) HdS.nil) (o2 (zkN fun _ F=>?_))))
  refine J03 ?_ ?_
  ·refine Jh rfl (kSJ F M (hc:=J11 (c:=c) M.n.tb M.n.v) (k:=fun v1 s w qq M=>oF (oL (zkN fun _ F=>?_))))
   refine J2 rfl rfl (J2z F M J00 [_,_,_] (k:=fun b11 w M=>kH (HdK.view (hs0.mq M.n.st.mv) HdS.nil) (zkN fun _ F=>?_)))
   refine J2 rfl rfl (kWJ F M 0 [_,_,_] [_,_,_,_,_] (k:=fun w M=>kF (zkN fun _ F=>?_)))
   refine J2 rfl rfl (kWJ F M 1 [_,_] [_,_,_,_,_] (k:=fun w M=>kF (zkN fun _ F=>?_)))
   refine J1P (ok:=okR) F M.at' 3 (⟨s.1,s.2.1,s.2.2⟩:AnsD) ET_55 (hx:=⟨qq.1,qq.2.1,qq.2.2⟩) (kk:=fun B N C _ w l m _ F=>?_)
   have M:=(M.then m).pick [3,1,0,4] [_,_,_,_]
   refine zr2 fun _ F=>?_
   obtain ⟨R1,W1,k1,k2,k3,hU2⟩:=M.n.v
   have hb2:=hU2.bd
   refine J0 (J0D F (J3l (a:=⟨R,W⟩) (b:=⟨R1,W1⟩) M.r M.x k2 k3 (by dsimp only;omega) (by dsimp only;omega) (by dsimp only;omega) (by dsimp only;omega)) rfl rfl rfl rfl rfl rfl fun e w2 h=>?_)
   obtain ⟨ra,rn,rc,wa,wn,wc,rfl,m2,j1,j2⟩:=h
   refine ⟨_,rfl,fun _ F=>?_⟩
   have M:=M.join (u':=u+330 * (g.1.1+1)) k1 hU2 hsR hsW m2 j1 j2 (J3s hc) zO
   refine zr2 fun _ F=>?_
   refine J0 (kW F M 0 [_,_] [_,_,_,_] (k:=fun w M=>zk fun _ F=>?_))
   have M:=M.pick [0,2,3] [_,_,_]
   exact Jw ((g.1.1+1,⟨B,N,C,g.1.2.l++[⟨s.1,s.2.1,s.2.2⟩]⟩),⟨v1.sa,ra,wa,v1.sn,v1.sc,rn,rc,wn,wc⟩) (by dsimp only;omega) ⟨F.cut rfl,M,⟨by dsimp only;omega,by simp only [List.length_append,List.length_singleton];omega⟩⟩
  refine Jh rfl (J2z F M J00 [_,_,_] (k:=fun b11 w M=>oH (HdK.view (hs0.mq M.n.st.mv) HdS.nil) (oL (zkN fun _ F=>?_))))
  refine J2 rfl rfl (kSJ F M (hc:=J11 (c:=c) M.n.tb M.n.v) (k:=fun v1 s w qq M=>kF (zkN fun _ F=>?_)))
  refine J2 rfl rfl (kWJ F M 0 [_,_,_] [_,_,_,_,_] (k:=fun w M=>kF (zkN fun _ F=>?_)))
  refine J2 rfl rfl (kWJ F M 1 [_,_] [_,_,_,_,_] (k:=fun w M=>kF (zkN fun _ F=>?_)))
  refine J1P (ok:=okR) F M.at' 3 (⟨s.1,s.2.1,s.2.2⟩:AnsD) ET_55 (hx:=⟨qq.1,qq.2.1,qq.2.2⟩) (kk:=fun B N C _ w l m _ F=>?_)
  have M:=(M.then m).pick [3,1,0,4] [_,_,_,_]
  refine zr2 fun _ F=>?_
  obtain ⟨R1,W1,k1,k2,k3,hU2⟩:=M.n.v
  have hb2:=hU2.bd
  refine J0 (J0D F (J3l (a:=⟨R,W⟩) (b:=⟨R1,W1⟩) M.r M.x k2 k3 (by dsimp only;omega) (by dsimp only;omega) (by dsimp only;omega) (by dsimp only;omega)) rfl rfl rfl rfl rfl rfl fun e w2 h=>?_)
  obtain ⟨ra,rn,rc,wa,wn,wc,rfl,m2,j1,j2⟩:=h
  refine ⟨_,rfl,fun _ F=>?_⟩
  have M:=M.join (u':=u+330 * (g.1.1+1)) k1 hU2 hsR hsW m2 j1 j2 (J3s hc) zO
  refine zr2 fun _ F=>?_
  refine J0 (kW F M 0 [_,_] [_,_,_,_] (k:=fun w M=>zk fun _ F=>?_))
  have M:=M.pick [0,2,3] [_,_,_]
  exact Jw ((g.1.1+1,⟨B,N,C,g.1.2.l++[⟨s.1,s.2.1,s.2.2⟩]⟩),⟨v1.sa,ra,wa,v1.sn,v1.sc,rn,rc,wn,wc⟩) (by dsimp only;omega) ⟨F.cut rfl,M,⟨by dsimp only;omega,by simp only [List.length_append,List.length_singleton];omega⟩⟩
 refine zr2 fun _ F=>?_
 refine Jc [(_,[_,_],_)] [] [] [0,1,2,3,4,5] M (hd1 M.at' 0) mixed zK fun w M hS=>?_
 refine zr2 fun _ F=>?_
 refine J2 rfl rfl (kW F M 2 [_,_] [_,_,_] (k:=fun w M=>kF (zkN fun _ F=>?_)))
 refine Jg F (JQ rfl (zta F) (zta F) (zca F M.at' 0)) ?_
 have e:cs.take g.1.1=cs:=List.take_of_length_le zO
 have f:=At.freeze (G:=H) (k:=3) (enc:=J0x) (ok:=okR) M.st.mv (fun _=>rfl) 2 rfl fun b hb=>(M.st.mv.fresh b ⟨_,List.mem_cons_of_mem _ (List.mem_cons_of_mem _ (List.mem_cons_self ..)),hb⟩).resolve_left (JF _)
 exact ⟨g.2,g.1.2,rfl,M.st.mv.pick [] rfl,((M.v.le zO).mono fun _ hb=>hb.1).castD (by rw [e]),f.mono fun _ hb=>hb.1⟩
end Go.Proofs.YtipdbeklopjbmaaGreatDoor
