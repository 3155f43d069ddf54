/-
  A machine as one piece: its block, its three slices, what its store holds, how much it has touched.
-/
import Derived.Test.YtipdbeklopjbmaaGreatDoorP04
import Derived.Test.YtipdbeklopjbmaaGreatDoorP09
import Derived.Test.YtipdbeklopjbmaaGreatDoorP17
set_option linter.unusedVariables false
set_option linter.unusedSimpArgs false
namespace Go.Proofs.YtipdbeklopjbmaaGreatDoor
open Go.ChangeShapes Go.WideShapes Go.ChangeAt Go.RowKit
structure SL where
 a:Option Addr
 n:Nat
 c:Nat
abbrev SL.val (s:SL):Value:=.slice s.a s.n s.c
structure KOk (s:SL) (l:List ByteArray) (p:ByteArray):Prop where
 n:s.n=l.length
 le:s.n≤68719476736
 sz:∀ x ∈ l,x.size≤1048576
 bg:∀ x ∈ l,J0h x p=true
abbrev owK (s:SL) (l:List ByteArray):Atom:=qS s.a s.n s.c l
structure RdX where
 ok:World→Prop
 bl:∀ w w',ok w→Bl w w'→ok w'
def rdx {α:Type} (k:Nat) (enc:α→List Value) (okv:α→Prop) (v:Value) (l:List α):RdX:=⟨fun w=>RSl k (Enc enc okv) w v l,fun _ _ h hb=>RSl.below (Enc.stable _ _) h hb⟩
abbrev rdK (s:SL) (l:List ByteArray):RdX:=rdx 1 J3 okS s.val l
def HdK (l:List Hld) (kl:List RdX) (w:World):Prop:=HdS l w∧∀ p ∈ kl,p.ok w
theorem HdK.bl {l:List Hld} {kl:List RdX} {w w':World} (h:HdK l kl w) (hb:Bl w w'):HdK l kl w':=⟨h.1.bl hb,fun p hp=>p.bl _ _ (h.2 p hp) hb⟩
theorem HdK.none {l:List Hld} {w:World} (h:HdS l w):HdK l [] w:=⟨h,fun _ h=>by cases h⟩
theorem hd1 {w:World} {L:List Atom} {b:Nat} {cs:List Value} {T:TypeId} (A:At w L) (i:Nat) (h:nth L i=some (bx b cs T):=by exact rfl):HdK [(b,cs,T)] [] w:=HdK.none (HdS.cons A i h HdS.nil)
theorem hd2 {w:World} {L:List Atom} {b c:Nat} {cs ds:List Value} {T U:TypeId} (A:At w L) (i j:Nat) (h:nth L i=some (bx b cs T):=by exact rfl) (k:nth L j=some (bx c ds U):=by exact rfl):HdK [(b,cs,T),(c,ds,U)] [] w:=HdK.none (HdS.cons A i h (HdS.cons A j k HdS.nil))
theorem HdK.view {α:Type} {k:Nat} {enc:α→List Value} {okv:α→Prop} {H:Nat→Prop} {v:Value} {ks:List α} {l:List Hld} {w:World} (R:Rd k enc okv H w v ks) (h:HdS l w):HdK l [rdx k enc okv v ks] w:=⟨h,fun p hp=>by
 rw [List.mem_singleton.1 hp]
 exact R.1⟩
theorem HdK.one {α:Type} {e k:Nat} {enc:α→List Value} {okv:α→Prop} {v:Value} {ks:List α} {l:List Hld} {w:World} {L:List Atom} (A:At w L) (j:Nat) (hL:nth L j=some (ow e k enc okv v ks)) (h:HdS l w) (hk:∀ x,(enc x).length=k:=by intro _;rfl):HdK l [rdx k enc okv v ks] w:=HdK.view (At.rd A hk j hL) h
section
variable {P:Program} {ops:Array Oper} {Q:Exit→Act→World→Prop} {o:Oper} {a:Act} {w:World} {d n i:Nat} {m:List (Nat × Value)} {r ex:List Nat} {x:Operand}
theorem JbR {l:List Hld} {kl:List RdX} {t:TypeId} {g:Bool} {k b off:Nat} {cs vs:List Value} {T:TypeId} [I:TIc P t g k] (F:Fr n m a) (hS:HdK l kl w) (q:Nat) (hi:ops[i]? = some o) (ho:o.op=.load t x) (hw:J8 ops m o=some true) (hx:opd m x=some (.pointer (some ⟨b,off,none⟩))) (hq:nth l q=some (b,cs,T)) (hx':ex.contains i=false)
 (hv:(cs.drop off).take k=vs) (hk:vs.length=k) (hg:(g || k == 1)=true) (hd:o.dst=some d) (hp:Nat.blt d n=true) (kk:∀ a',Fr n ((d,J1O g vs)::m) a'→Ji P ops ex Q (HdK l kl) r a' w):Ji P ops ex Q (HdK l kl) (i::r) a w:=by
 have ht:JT o=true:=by unfold JT;rw [ho]
 have hl:JM o=true:=by unfold JM;rw [ho]
 refine ⟨o,hi,?_⟩
 rw [if_pos (by rw [ht,hx'];rfl)]
 refine ⟨J1O g vs,?_,by rw [hd];exact kk _ (F.put rfl hp)⟩
 rw [if_pos hl]
 exact ⟨hS,.inl ⟨Jk F hw,fun w' h'=>J3B (h'.1 _ (Jm hq)) I.h ho (F.g hx) hv hk (fun e=>by subst e;simpa using hg) rfl⟩⟩
end
def TbO (w:World) (L:List Atom):Prop:=(Ground 0 w∧Ground 1 w∧Ground 2 w)∧∀ K g,g ∈ GS K→g < w.heap.size∧¬ fps L g
section
variable {w w' w0:World} {L L' L0:List Atom} {A A':Atom}
theorem TbO.mv (h:TbO w L) (m:Mv L w L' w'):TbO w' L':=by
 have hk:∀ K g,g ∈ GS K→w'.heap[g]? = w.heap[g]?:=fun K g hg=>m.kp.block g (h.2 K g hg).1 (h.2 K g hg).2
 refine ⟨⟨h.1.1.same (hk 0),h.1.2.1.same (hk 1),h.1.2.2.same (hk 2)⟩,fun K g hg=>⟨Nat.lt_of_lt_of_le (h.2 K g hg).1 m.kp.size,fun hf=>?_⟩⟩
 rcases m.fresh g hf with h1|h1
 ·exact (h.2 K g hg).2 h1
 have:=(h.2 K g hg).1;omega
theorem TbO.sub (h:TbO w L) (hs:∀ b,fps L' b→fps L b):TbO w L':=⟨h.1,fun K g hg=>⟨(h.2 K g hg).1,fun hf=>(h.2 K g hg).2 (hs g hf)⟩⟩
theorem TbO.t0 (h:TbO w L):Tb 0 (fun b=>¬ fps L b) w:=⟨h.1.1,fun g hg=>⟨(h.2 0 g hg).2,(h.2 0 g hg).1⟩⟩
theorem TbO.t1 (h:TbO w L):Tb 1 (fun b=>¬ fps L b) w:=⟨h.1.2.1,fun g hg=>⟨(h.2 1 g hg).2,(h.2 1 g hg).1⟩⟩
theorem TbO.t2 (h:TbO w L):Tb 2 (fun b=>¬ fps L b) w:=⟨h.1.2.2,fun g hg=>⟨(h.2 2 g hg).2,(h.2 2 g hg).1⟩⟩
structure AT (w:World) (L:List Atom):Prop where
 at':At w L
 tb:TbO w L
structure St (L0:List Atom) (w0:World) (L:List Atom) (w:World):Prop where
 mv:Mv L0 w0 L w
 tb:TbO w L
theorem St.at' (M:St L0 w0 L w):At w L:=M.mv.at'
theorem St.start (h:AT w L):St L w L w:=⟨Mv.refl h.at',h.tb⟩
theorem St.then (M:St L0 w0 L w) (m:Mv L w L' w'):St L0 w0 L' w':=⟨M.mv.trans m,M.tb.mv m⟩
theorem St.all (M:St L0 w0 L w):AT w L:=⟨M.mv.at',M.tb⟩
theorem J2G {α:Type} {x:α} {l:List α} : del (x::l) [0]=l:=by
 have h:∀ (l:List α) k,del.go l [0] (k+1)=l:=by
  intro l
  induction l with
  | nil=>intro k;rfl
  | cons y l ih=>intro k;rw [del.go,if_neg (by simp),ih]
 show del.go (x::l) [0] 0=l
 rw [del.go,if_pos (by rfl),h]
theorem St.hd (M:St L0 w0 (A::L) w):AT w [A]:=⟨M.mv.at'.pick (is:=[0]) rfl,M.tb.sub fun _ hb=>J0T.2 (.inl ((J0T.1 hb).resolve_right (JF _)))⟩
theorem Mv.head (A0:At w (A::L)) (m:Mv [A] w [A'] w'):Mv (A::L) w (A'::L) w':=by
 have:=At.frame (New:=[A']) A0 [0] rfl m
 rw [J2G] at this
 exact this
theorem Jgv {B:Atom} (h:At w (B::A::L)):Mv (B::A::L) w (A::B::L) w:=by
 have hfp:∀ b,fps (A::B::L) b ↔ fps (B::A::L) b:=fun b=>by rw [J0T,J0T,J0T,J0T];exact or_left_comm
 have h1:=List.pairwise_cons.1 h.apart
 have h2:=List.pairwise_cons.1 h1.2
 refine ⟨⟨fun C hC=>?_,fun b hb=>h.lt b ((hfp b).1 hb),List.pairwise_cons.2 ⟨fun C hC b hb hc=>?_,List.pairwise_cons.2 ⟨fun C hC=>h1.1 C (List.mem_cons_of_mem _ hC),h2.2⟩⟩⟩,fun b hb=>.inl ((hfp b).1 hb),Kp.refl _ _⟩
 ·rcases List.mem_cons.1 hC with rfl|hC
  ·exact h.ok _ (List.mem_cons_of_mem _ (List.mem_cons_self ..))
  rcases List.mem_cons.1 hC with rfl|hC
  ·exact h.ok _ (List.mem_cons_self ..)
  exact h.ok _ (List.mem_cons_of_mem _ (List.mem_cons_of_mem _ hC))
 rcases List.mem_cons.1 hC with rfl|hC
 ·exact h1.1 A (List.mem_cons_self ..) b hc hb
 exact h2.1 C hC b hb hc
theorem St.swap {B:Atom} (M:St L0 w0 (B::A::L) w):St L0 w0 (A::B::L) w:=M.then (Jgv M.mv.at')
theorem St.hd2 {B:Atom} (M:St L0 w0 (B::A::L) w):AT w [A]:=M.swap.hd
theorem St.tail {B:Atom} (M:St L0 w0 (B::L) w):St L0 w0 L w:=M.then (by
 have:=M.mv.at'.drop 0
 rw [J2G] at this
 exact this)
theorem St.nil (M:St L0 w0 L w):AT w []:=⟨At.nil _,M.tb.sub fun _ h=>(JF _ h).elim⟩
theorem St.call (M:St L0 w0 (A::L) w) (m:Mv [A] w [A'] w'):St L0 w0 (A'::L) w':=M.then (Mv.head M.mv.at' m)
theorem St.pure (M:St L0 w0 L w) (m:Mv [] w [] w'):St L0 w0 L w':=M.then (At.frame0 M.mv.at' m)
theorem St.drew (M:St L0 w0 L w):St L0 w0 L w.drew:=M.then (J1U M.mv.at')
end
structure MV where
 sa:Option Addr
 ra:Option Addr
 wa:Option Addr
 sn:Nat
 sc:Nat
 rn:Nat
 rc:Nat
 wn:Nat
 wc:Nat
abbrev MV.S (v:MV):Value:=.slice v.sa v.sn v.sc
abbrev MV.R (v:MV):Value:=.slice v.ra v.rn v.rc
abbrev MV.W (v:MV):Value:=.slice v.wa v.wn v.wc
abbrev MV.val (v:MV):Value:=.agg #[v.S,v.R,v.W]
abbrev mL (b:Nat) (v:MV) (D:List CellD) (R W:List ByteArray):List Atom:=[bx b [v.S,v.R,v.W] 210,ow 91 2 J6 okC v.S D,ow 9 1 J3 okS v.R R,ow 9 1 J3 okS v.W W]
def mfp (b:Nat) (v:MV) (c:Nat):Prop:=c=b∨v.S.ownBlock=some c∨v.R.ownBlock=some c∨v.W.ownBlock=some c
theorem J2c {b:Nat} {v:MV} {D:List CellD} {R W:List ByteArray} {c:Nat} : fps (mL b v D R W) c ↔ mfp b v c:=by
 unfold mL mfp
 rw [J0T,J0T,J0T,J0T]
 constructor
 ·rintro (h|h|h|h|h)
  ·exact .inl h
  ·exact .inr (.inl h)
  ·exact .inr (.inr (.inl h))
  ·exact .inr (.inr (.inr h))
  exact (JF _ h).elim
 rintro (h|h|h|h)
 ·exact .inl h
 ·exact .inr (.inl h)
 ·exact .inr (.inr (.inl h))
 exact .inr (.inr (.inr (.inl h)))
theorem At.same {w w':World} {L:List Atom} (A:At w L) (hb:∀ b,fps L b→w'.heap[b]? = w.heap[b]?):At w' L:=
 ⟨fun B hB=>B.st w w' (fun b hf=>hb b ⟨B,hB,hf⟩) (A.ok B hB),fun b hf=>by
  have h1:=hb b hf
  have h2:=A.lt b hf
  rw [Array.getElem?_eq_getElem h2] at h1
  exact (Array.getElem?_eq_some_iff.1 h1).1,A.apart⟩
def mB (X:Uni) (b:Nat) (v:MV) (D:List CellD) (u:Nat):Atom where
 fp:=mfp b v
 ok:=fun w=>∃ R W,At w (mL b v D R W)∧Un X u D R W
 st:=fun _ _ hb ⟨R,W,h1,h2⟩=>⟨R,W,h1.same fun c hc=>hb c (J2c.1 hc),h2⟩
section
variable {X:Uni} {w w' w0:World} {L L' L0:List Atom} {b u u':Nat} {v v':MV} {D D':List CellD} {R W R' W':List ByteArray} {H:Nat→Prop}
theorem J4Q {A:Atom} {c:Nat} : fps [A] c ↔ A.fp c:=J1b
theorem Jbl (h:At w (mL b v D R W)) (hU:Un X u D R W):At w [mB X b v D u]:=At.one ⟨R,W,h,hU⟩ fun c hc=>h.lt c (J2c.2 hc)
theorem J46 (h:At w [mB X b v D u]):∃ R W,At w (mL b v D R W)∧Un X u D R W:=h.ok _ (List.mem_singleton.2 rfl)
theorem J5H (m:Mv (mL b v D R W) w (mL b v' D' R' W') w') (hU:Un X u' D' R' W'):Mv [mB X b v D u] w [mB X b v' D' u'] w':=by
 have e:∀ {b v D u c},fps [mB X b v D u] c ↔ mfp b v c:=fun {_ _ _ _ _}=>J4Q
 refine ⟨Jbl m.at' hU,fun c hc=>?_,m.kp.os,m.kp.tape,m.kp.output,m.kp.size,fun c h1 h2=>m.kp.block c h1 fun h3=>h2 (e.2 (J2c.1 h3))⟩
 exact (m.fresh c (J2c.2 (e.1 hc))).imp (fun h=>e.2 (J2c.1 h)) id
theorem Jho {N:List Atom} (m:Mv (mL b v D R W) w (N++mL b v' D' R' W') w') (hU:Un X u' D' R' W'):Mv [mB X b v D u] w (N++[mB X b v' D' u']) w':=by
 have e:∀ {b v D u c},fps [mB X b v D u] c ↔ mfp b v c:=fun {_ _ _ _ _}=>J4Q
 have e2:∀ c,fps (N++[mB X b v' D' u']) c ↔ fps (N++mL b v' D' R' W') c:=fun c=>by rw [J21,J21,e,J2c]
 have hap:=List.pairwise_append.1 m.at'.apart
 have hM:At w' (mL b v' D' R' W'):=⟨fun A hA=>m.at'.ok A (List.mem_append.2 (.inr hA)),fun c hc=>m.at'.lt c (J21.2 (.inr hc)),hap.2.1⟩
 refine ⟨⟨fun A hA=>?_,fun c hc=>m.at'.lt c ((e2 c).1 hc),List.pairwise_append.2 ⟨hap.1,by simp,fun A hA B hB c ha hb=>?_⟩⟩,fun c hc=>?_,m.kp.os,m.kp.tape,m.kp.output,m.kp.size,fun c h1 h2=>m.kp.block c h1 fun h3=>h2 (e.2 (J2c.1 h3))⟩
 ·rcases List.mem_append.1 hA with hA|hA
  ·exact m.at'.ok A (List.mem_append.2 (.inl hA))
  rw [List.mem_singleton.1 hA];exact ⟨R',W',hM,hU⟩
 ·rw [List.mem_singleton.1 hB] at hb
  obtain ⟨B',hB',hb'⟩:=J2c.2 hb
  exact hap.2.2 A hA B' hB' c ha hb'
 exact (m.fresh c ((e2 c).1 hc)).imp (fun h=>e.2 (J2c.1 h)) id
theorem Jat (A:At w [mB X b v D u]) (hu:u≤u'):Mv [mB X b v D u] w [mB X b v D u'] w:=by
 obtain ⟨R,W,h1,h2⟩:=J46 A
 exact J5H (Mv.refl h1) (h2.le hu)
def RM (X:Uni) (H:Nat→Prop) (w:World) (v:MV) (D:List CellD) (u:Nat):Prop:=∃ R W,Rd 2 J6 okC H w v.S D∧Rd 1 J3 okS H w v.R R∧Rd 1 J3 okS H w v.W W∧Un X u D R W
theorem RM.mv (h:RM X (V H w0 L) w v D u) (m:Mv L w L' w'):RM X (V H w0 L') w' v D u:=let ⟨R,W,h1,h2,h3,h4⟩:=h;⟨R,W,h1.mq m,h2.mq m,h3.mq m,h4⟩
theorem RM.le (h:RM X H w v D u) (hu:u≤u'):RM X H w v D u':=let ⟨R,W,h1,h2,h3,h4⟩:=h;⟨R,W,h1,h2,h3,h4.le hu⟩
theorem RM.mono {H':Nat→Prop} (h:RM X H w v D u) (hH:∀ b,H b→H' b):RM X H' w v D u:=let ⟨R,W,h1,h2,h3,h4⟩:=h;⟨R,W,h1.mono hH,h2.mono hH,h3.mono hH,h4⟩
structure Sp (X:Uni) (H:Nat→Prop) (w0:World) (L:List Atom) (w:World) (v:MV) (D:List CellD) (u:Nat):Prop where
 st:St [] w0 L w
 v:RM X (V H w0 L) w v D u
theorem Sp.then (M:Sp X H w0 L w v D u) (m:Mv L w L' w'):Sp X H w0 L' w' v D u:=⟨M.st.then m,M.v.mv m⟩
theorem Sp.at' (M:Sp X H w0 L w v D u):At w L:=M.st.mv.at'
theorem Sp.pure (M:Sp X H w0 L w v D u) (m:Mv [] w [] w'):Sp X H w0 L w' v D u:=M.then (At.frame0 M.at' m)
theorem Sp.drew (M:Sp X H w0 L w v D u):Sp X H w0 L w.drew v D u:=M.then (J1U M.at')
theorem Sp.start (h:TbO w []) (hm:RM X H w v D u):Sp X H w [] w v D u:=⟨⟨Mv.refl (At.nil _),h⟩,hm.mono fun _ hb=>⟨.inl hb,JF _⟩⟩
theorem Sp.tb (M:Sp X H w0 L w v D u):TbO w []:=M.st.tb.sub fun _ h=>(JF _ h).elim
theorem Sp.call (M:Sp X H w0 L w v D u) (m:Mv [] w [] w') (hm:RM X (Fsh (V H w0 L) w) w' v' D' u'):Sp X H w0 L w' v' D' u':=by
 have hf:=At.frame0 M.at' m
 refine ⟨M.st.then hf,?_⟩
 obtain ⟨R,W,h1,h2,h3,h4⟩:=hm
 have hL:∀ b,w.heap.size≤b→¬ fps L b:=fun b hb h=>by have:=M.at'.lt b h;omega
 have hs:=M.st.mv.kp.size
 exact ⟨R,W,h1.got hs hf hL,h2.got hs hf hL,h3.got hs hf hL,h4⟩
theorem Sp.callN {N:List Atom} (M:Sp X H w0 L w v D u) (m:Mv [] w N w') (hm:RM X (V (V H w0 L) w N) w' v' D' u'):Sp X H w0 (N++L) w' v' D' u':=by
 have hf:Mv L w (N++L) w':=by
  have:=At.frame (New:=N) M.at' [] rfl m
  rw [J19] at this
  exact this
 refine ⟨M.st.then hf,hm.mono fun c hc=>?_⟩
 have hs:=M.st.mv.kp.size
 rcases hc.1 with h|h
 ·exact ⟨h.1,fun h2=>(J21.1 h2).elim hc.2 h.2⟩
 exact ⟨.inr zO,fun h2=>(J21.1 h2).elim hc.2 fun h3=>by have:=M.at'.lt c h3;omega⟩
theorem Sp.ext {ks:List ByteArray} (M:Sp X H w0 L w v D u) (h:∀ k ∈ ks,knw X D k):Sp (X.ext ks) H w0 L w v D u:=⟨M.st,let ⟨R,W,h1,h2,h3,h4⟩:=M.v;⟨R,W,h1,h2,h3,h4.ext h⟩⟩
theorem Sp.unext {ks:List ByteArray} (M:Sp (X.ext ks) H w0 L w v D u):Sp X H w0 L w v D u:=⟨M.st,let ⟨R,W,h1,h2,h3,h4⟩:=M.v;⟨R,W,h1,h2,h3,h4.unext⟩⟩
theorem Sp.cast (M:Sp X H w0 L w v D u) (e:D=D'):Sp X H w0 L w v D' u:=e ▸ M
theorem Sp.pick (M:Sp X H w0 L w v D u) (is:List Nat) (L':List Atom) (h:JP L.length is=true:=by exact rfl) (e:sel L is=L':=by exact rfl):Sp X H w0 L' w v D u:=by
 subst e
 exact M.then ((Mv.refl M.at').pick is h)
theorem At.swap {A A':Atom} {B:Atom} (h:At w (B::A::L)) (hf:∀ b,A'.fp b ↔ A.fp b) (ho:A.ok w→A'.ok w):Mv (B::A::L) w (B::A'::L) w:=by
 have hfp:∀ b,fps (B::A'::L) b ↔ fps (B::A::L) b:=fun b=>by rw [J0T,J0T,J0T,J0T,hf]
 have h1:=List.pairwise_cons.1 h.apart
 have h2:=List.pairwise_cons.1 h1.2
 refine ⟨⟨fun C hC=>?_,fun b hb=>h.lt b ((hfp b).1 hb),List.pairwise_cons.2 ⟨fun C hC b hb hc=>?_,List.pairwise_cons.2 ⟨fun C hC b hb=>h2.1 C hC b ((hf b).1 hb),h2.2⟩⟩⟩,fun b hb=>.inl ((hfp b).1 hb),Kp.refl _ _⟩
 ·rcases List.mem_cons.1 hC with rfl|hC
  ·exact h.ok _ (List.mem_cons_self ..)
  rcases List.mem_cons.1 hC with rfl|hC
  ·exact ho (h.ok _ (List.mem_cons_of_mem _ (List.mem_cons_self ..)))
  exact h.ok _ (List.mem_cons_of_mem _ (List.mem_cons_of_mem _ hC))
 rcases List.mem_cons.1 hC with rfl|hC
 ·exact h1.1 _ (List.mem_cons_self ..) b hb ((hf b).1 hc)
 exact h1.1 _ (List.mem_cons_of_mem _ hC) b hb hc
theorem St.ext {ks:List ByteArray} {B:Atom} {L0:List Atom} (M:St L0 w0 (B::mB X b v D u::L) w) (h:∀ k ∈ ks,knw X D k):St L0 w0 (B::mB (X.ext ks) b v D u::L) w:=
 M.then (M.at'.swap (fun _=>Iff.rfl) fun ⟨R,W,h1,h2⟩=>⟨R,W,h1,h2.ext h⟩)
theorem St.unext {ks:List ByteArray} {B:Atom} {L0:List Atom} (M:St L0 w0 (B::mB (X.ext ks) b v D u::L) w):St L0 w0 (B::mB X b v D u::L) w:=
 M.then (M.at'.swap (fun _=>Iff.rfl) fun ⟨R,W,h1,h2⟩=>⟨R,W,h1,h2.unext⟩)
theorem Sp.pgS (M:Sp X H w0 L w v D u):∀ k ∈ Jt D (kPg X.P),X.S (k.extract (kPg X.P).size k.size):=let ⟨_,_,_,_,_,h4⟩:=M.v;h4.pgS
theorem St.pgS {L0:List Atom} (M:St L0 w0 (mB X b v D u::L) w):∀ k ∈ Jt D (kPg X.P),X.S (k.extract (kPg X.P).size k.size):=let ⟨_,_,_,h4⟩:=M.at'.ok _ (List.mem_cons_self ..);h4.pgS
def PI {ρ σ:Type} (X:Uni) (b:Nat) (v:MV) (D:List CellD) (u:Nat) (w:World) (g:ρ→σ→Value) (r:ρ) (D':List CellD) (u':Nat) (q:ρ→σ→Prop) (e:Ending) (w':World):Prop:=
 ∃ v' s,e=.returned (g r s)∧Mv [mB X b v D u] w [mB X b v' D' u'] w'∧q r s
def PS {ρ σ:Type} (X:Uni) (H:Nat→Prop) (w:World) (g:MV→ρ→σ→Value) (r:ρ) (D':List CellD) (u':Nat) (q:ρ→σ→Prop) (e:Ending) (w':World):Prop:=
 ∃ v' s,e=.returned (g v' r s)∧Mv [] w [] w'∧RM X (Fsh H w) w' v' D' u'∧q r s
def PIU (X:Uni) (b:Nat) (v:MV) (D:List CellD) (u:Nat) (w:World) (l:List ByteArray) (p:ByteArray) (D':List CellD) (u':Nat) (e:Ending) (w':World):Prop:=
 ∃ v' s,e=.returned (SL.val s)∧Mv [mB X b v D u] w [owK s l,mB X b v' D' u'] w'∧KOk s l p
def PSU (X:Uni) (H:Nat→Prop) (w:World) (l:List ByteArray) (p:ByteArray) (D':List CellD) (u':Nat) (e:Ending) (w':World):Prop:=
 ∃ v' s,e=.returned (.tuple #[MV.val v',SL.val s])∧Mv [] w [owK s l] w'∧RM X (V H w [owK s l]) w' v' D' u'∧KOk s l p
def PO {σ:Type} (w:World) (g:σ→Value) (q:σ→Prop) (e:Ending) (w':World):Prop:=∃ s,e=.returned (g s)∧Mv [] w [] w'∧q s
theorem zfI {ρ σ:Type} {g:ρ→σ→Value} {r:ρ} {q:ρ→σ→Prop} (M:St [mB X b v D u] w [mB X b v' D' u'] w') {D1:List CellD} {u1:Nat} (r1:ρ) (s:σ) (hq:q r1 s) (e:(r,D1)=(r1,D')) (hu:u'≤u1:=by omega):PI X b v D u w g r D1 u1 q (.returned (g r1 s)) w':=by
 obtain ⟨rfl,rfl⟩:=Prod.mk.inj e
 exact ⟨v',s,rfl,M.mv.trans (Jat M.at' hu),hq⟩
theorem zfS {ρ σ:Type} {g:MV→ρ→σ→Value} {r:ρ} {q:ρ→σ→Prop} (M:Sp X H w L w' v' D' u') {D1:List CellD} {u1:Nat} (r1:ρ) (s:σ) (hq:q r1 s) (e:(r,D1)=(r1,D')) (hu:u'≤u1:=by omega):PS X H w g r D1 u1 q (.returned (g v' r1 s)) w':=by
 obtain ⟨rfl,rfl⟩:=Prod.mk.inj e
 exact ⟨v',s,rfl,M.st.mv.pick [] rfl,(M.v.le hu).mono fun _ hb=>hb.1,hq⟩
end
def J1u (m:List (Nat × Value)) (o:Oper):List Value:=match o.op with
 | .call c=>c.args.toList.map fun x=>(opd m x).getD undef
 | _=>[]
def J1v (o:Oper):Nat:=match o.op with
 | .call c=>match c.callee with
  | .value (.func f)=>f
  | _=>0
 | _=>0
def J1E (m:List (Nat × Value)) (o:Oper):Bool:=match o.op with
 | .call c=>(match c.callee with
  | .value (.func _)=>true
  | _=>false) && c.args.toList.all fun x=>(opd m x).isSome
 | _=>false
section
variable {P:Program} {ops:Array Oper} {Q:Exit→Act→World→Prop} {K:Act→World→Prop} {o:Oper} {rest:List Oper} {a:Act} {w w0:World} {d n nk:Nat} {m mk:List (Nat × Value)} {L L0:List Atom}
variable {X:Uni} {b u u':Nat} {v:MV} {D D':List CellD} {H:Nat→Prop} {ρ σ:Type} {r:ρ} {q:ρ→σ→Prop}
theorem J0D {f:Nat} {vs:List Value} {R:Ending→World→Prop} [I:CFc P f] (F:Fr n m a) (hc:Calls P f vs.toArray w R) (hx:J1u m o=vs) (hf:J1v o=f) (ho:J1E m o=true) (hd:o.dst=some d) (hw:J8 ops m o=some true) (hp:Nat.blt d n=true)
 (k:∀ e w',R e w'→∃ v,e=.returned v∧∀ a',Fr n ((d,v)::m) a'→K a' w'):st1 P ops Q o K a w:=by
 subst hx
 subst hf
 unfold J1E at ho
 split at ho
 ·rename_i c hop
  rw [Bool.and_eq_true] at ho
  obtain ⟨h1,h2⟩:=ho
  split at h1
  ·rename_i f hf
   have e1:J1v o=f:=by unfold J1v;rw [hop];simp only [hf]
   have e2:J1u m o=c.args.toList.map a.eval:=by
    unfold J1u
    rw [hop]
    refine List.map_congr_left fun x hx=>?_
    have:=List.all_eq_true.1 h2 x hx
    obtain ⟨y,hy⟩:=Option.isSome_iff_exists.1 this
    rw [hy]
    exact (F.g hy).symm
   rw [e1,e2] at hc
   have I':CFc P f:=e1 ▸ I
   obtain ⟨cal,args,ats⟩:=c
   simp only at hf
   subst hf
   exact J4E F I'.h (Jk F hw) hd hop hp rfl hc k
  cases h1
 cases ho
theorem kI {g:ρ→σ→Value} {f:Nat} {vs:List Value} [I:CFc P f] (F:Fr n m a) (M:St L0 w0 (mB X b v D u::L) w)
 (hx:J1u m o=vs:=by exact rfl) (hf:J1v o=f:=by exact rfl) (ho:J1E m o=true:=by exact rfl) (hd:o.dst=some d:=by exact rfl) (hw:J8 ops m o=some true:=by exact rfl) (hp:Nat.blt d n=true:=by exact rfl)
 (hc:Calls P f vs.toArray w (PI X b v D u w g r D' u' q))
 (k:∀ v' s w',q r s→St L0 w0 (mB X b v' D' u'::L) w'→∀ a',Fr n ((d,g r s)::m) a'→K a' w'):st1 P ops Q o K a w:=
 J0D F hc hx hf ho hd hw hp fun _ w' ⟨v',s,h1,h2,h3⟩=>⟨_,h1,k v' s w' h3 (M.call h2)⟩
theorem kI2 {B:Atom} {g:ρ→σ→Value} {f:Nat} {vs:List Value} [I:CFc P f] (F:Fr n m a) (M:St L0 w0 (B::mB X b v D u::L) w)
 (hx:J1u m o=vs:=by exact rfl) (hf:J1v o=f:=by exact rfl) (ho:J1E m o=true:=by exact rfl) (hd:o.dst=some d:=by exact rfl) (hw:J8 ops m o=some true:=by exact rfl) (hp:Nat.blt d n=true:=by exact rfl)
 (hc:Calls P f vs.toArray w (PI X b v D u w g r D' u' q))
 (k:∀ v' s w',q r s→St L0 w0 (B::mB X b v' D' u'::L) w'→∀ a',Fr n ((d,g r s)::m) a'→K a' w'):st1 P ops Q o K a w:=
 kI F M.swap hx hf ho hd hw hp hc fun v' s w' h M'=>k v' s w' h M'.swap
theorem kO {g:σ→Value} {q:σ→Prop} {f:Nat} {vs:List Value} [I:CFc P f] (F:Fr n m a) (M:St L0 w0 L w)
 (hx:J1u m o=vs:=by exact rfl) (hf:J1v o=f:=by exact rfl) (ho:J1E m o=true:=by exact rfl) (hd:o.dst=some d:=by exact rfl) (hw:J8 ops m o=some true:=by exact rfl) (hp:Nat.blt d n=true:=by exact rfl)
 (hc:Calls P f vs.toArray w (PO w g q))
 (k:∀ s w',q s→St L0 w0 L w'→∀ a',Fr n ((d,g s)::m) a'→K a' w'):st1 P ops Q o K a w:=
 J0D F hc hx hf ho hd hw hp fun _ w' ⟨s,h1,h2,h3⟩=>⟨_,h1,k s w' h3 (M.pure h2)⟩
theorem kOm {g:σ→Value} {q:σ→Prop} {f:Nat} {vs:List Value} [I:CFc P f] (F:Fr n m a) (M:St L0 w0 L w)
 (hx:J1u m o=vs:=by exact rfl) (hf:J1v o=f:=by exact rfl) (ho:J1E m o=true:=by exact rfl) (hd:o.dst=some d:=by exact rfl) (hw:J8 ops m o=some true:=by exact rfl) (hp:Nat.blt d n=true:=by exact rfl)
 (hc:Calls P f vs.toArray w (PO w g q))
 (k:∀ s w',q s→Mv [] w [] w'→St L0 w0 L w'→∀ a',Fr n ((d,g s)::m) a'→K a' w'):st1 P ops Q o K a w:=
 J0D F hc hx hf ho hd hw hp fun _ w' ⟨s,h1,h2,h3⟩=>⟨_,h1,k s w' h3 h2 (M.pure h2)⟩
theorem kS {g:MV→ρ→σ→Value} {f:Nat} {vs:List Value} [I:CFc P f] (F:Fr n m a) (M:Sp X H w0 L w v D u)
 (hx:J1u m o=vs:=by exact rfl) (hf:J1v o=f:=by exact rfl) (ho:J1E m o=true:=by exact rfl) (hd:o.dst=some d:=by exact rfl) (hw:J8 ops m o=some true:=by exact rfl) (hp:Nat.blt d n=true:=by exact rfl)
 (hc:Calls P f vs.toArray w (PS X (V H w0 L) w g r D' u' q))
 (k:∀ v' s w',q r s→Sp X H w0 L w' v' D' u'→∀ a',Fr n ((d,g v' r s)::m) a'→K a' w'):st1 P ops Q o K a w:=
 J0D F hc hx hf ho hd hw hp fun _ w' ⟨v',s,h1,h2,h3,h4⟩=>⟨_,h1,k v' s w' h4 (M.call h2 h3)⟩
theorem kQ {g:σ→Value} {q:σ→Prop} {f:Nat} {vs:List Value} [I:CFc P f] (F:Fr n m a) (M:Sp X H w0 L w v D u)
 (hx:J1u m o=vs:=by exact rfl) (hf:J1v o=f:=by exact rfl) (ho:J1E m o=true:=by exact rfl) (hd:o.dst=some d:=by exact rfl) (hw:J8 ops m o=some true:=by exact rfl) (hp:Nat.blt d n=true:=by exact rfl)
 (hc:Calls P f vs.toArray w (PO w g q))
 (k:∀ s w',q s→Mv [] w [] w'→Sp X H w0 L w' v D u→∀ a',Fr n ((d,g s)::m) a'→K a' w'):st1 P ops Q o K a w:=
 J0D F hc hx hf ho hd hw hp fun _ w' ⟨s,h1,h2,h3⟩=>⟨_,h1,k s w' h3 h2 (M.pure h2)⟩
theorem kWm {t:TypeId} {x y:Operand} {g:Bool} {c:Nat} [I:TIc P t g c] (F:Fr n m a) (A:At w L) (j:Nat) (cs':List Value) (L':List Atom) {b off:Nat} {cs vs:List Value} {T:TypeId} {val:Value} (ho:o.op=.store t x y) (hx:opd m x=some (.pointer (some ⟨b,off,none⟩))) (hy:opd m y=some val) (hw:J8 ops m o=some true) (hd:o.dst=none)
 (hL:nth L j=some (bx b cs T)) (hok:JP L.length [j]=true) (hv:val.cells.toList=vs) (hk:vs.length=c) (hfit:Nat.ble (off+vs.length) cs.length=true) (h1:vs.all (·.oneCell')=true) (e:Jq cs off vs=cs') (e':[bx b cs' T]++del L [j]=L')
 (k:∀ w',Mv L w L' w'→K a w'):st1 P ops Q o K a w:=by
 subst e'
 exact J0C A j I.h hL hok (Jk F hw) hd ho (F.g hx) (F.g hy) hv hk hfit h1 e k
theorem kW {t:TypeId} {x y:Operand} {g:Bool} {c:Nat} [I:TIc P t g c] (F:Fr n m a) (M:Sp X H w0 L w v D u) (j:Nat) (cs':List Value) (L':List Atom) {b off:Nat} {cs vs:List Value} {T:TypeId} {val:Value} (ho:o.op=.store t x y:=by exact rfl) (hx:opd m x=some (.pointer (some ⟨b,off,none⟩)):=by exact rfl) (hy:opd m y=some val:=by exact rfl) (hw:J8 ops m o=some true:=by exact rfl) (hd:o.dst=none:=by exact rfl)
 (hL:nth L j=some (bx b cs T):=by exact rfl) (hok:JP L.length [j]=true:=by exact rfl) (hv:val.cells.toList=vs:=by exact rfl) (hk:vs.length=c:=by exact rfl) (hfit:Nat.ble (off+vs.length) cs.length=true:=by exact rfl) (h1:vs.all (·.oneCell')=true:=by exact rfl) (e:Jq cs off vs=cs':=by exact rfl) (e':[bx b cs' T]++del L [j]=L':=by exact rfl)
 (k:∀ w',Sp X H w0 L' w' v D u→∀ a',Fr n m a'→K a' w'):st1 P ops Q o K a w:=kWm F M.at' j cs' L' ho hx hy hw hd hL hok hv hk hfit h1 e e' fun w' m'=>k w' (M.then m') a F
theorem kWI {t:TypeId} {x y:Operand} {g:Bool} {c:Nat} [I:TIc P t g c] (F:Fr n m a) (M:St L0 w0 L w) (j:Nat) (cs':List Value) (L':List Atom) {b off:Nat} {cs vs:List Value} {T:TypeId} {val:Value} (ho:o.op=.store t x y:=by exact rfl) (hx:opd m x=some (.pointer (some ⟨b,off,none⟩)):=by exact rfl) (hy:opd m y=some val:=by exact rfl) (hw:J8 ops m o=some true:=by exact rfl) (hd:o.dst=none:=by exact rfl)
 (hL:nth L j=some (bx b cs T):=by exact rfl) (hok:JP L.length [j]=true:=by exact rfl) (hv:val.cells.toList=vs:=by exact rfl) (hk:vs.length=c:=by exact rfl) (hfit:Nat.ble (off+vs.length) cs.length=true:=by exact rfl) (h1:vs.all (·.oneCell')=true:=by exact rfl) (e:Jq cs off vs=cs':=by exact rfl) (e':[bx b cs' T]++del L [j]=L':=by exact rfl)
 (k:∀ w',St L0 w0 L' w'→∀ a',Fr n m a'→K a' w'):st1 P ops Q o K a w:=kWm F M.at' j cs' L' ho hx hy hw hd hL hok hv hk hfit h1 e e' fun w' m'=>k w' (M.then m') a F
theorem kAl {t:TypeId} {z:Value} (F:Fr n m a) (M:Sp X H w0 L w v D u) (Z:ZI P t z) (cs:List Value) (ho:o.op=.alloc t:=by exact rfl) (hd:o.dst=some d:=by exact rfl) (hw:J8 ops m o=some true:=by exact rfl) (hz:z.cells.toList=cs:=by exact rfl) (hp:Nat.blt d n=true:=by exact rfl)
 (k:∀ b w',Sp X H w0 (bx b cs t::L) w' v D u→∀ a',Fr n ((d,pT b)::m) a'→K a' w'):st1 P ops Q o K a w:=J2a F M.at' Z (Jk F hw) hd ho hz hp fun b a' w' F' m'=>k b w' (M.then m') a' F'
theorem J2T {t:TypeId} {z:Value} (F:Fr n m a) (M:St L0 w0 L w) (Z:ZI P t z) (cs:List Value) (ho:o.op=.alloc t:=by exact rfl) (hd:o.dst=some d:=by exact rfl) (hw:J8 ops m o=some true:=by exact rfl) (hz:z.cells.toList=cs:=by exact rfl) (hp:Nat.blt d n=true:=by exact rfl)
 (k:∀ b w',St L0 w0 (bx b cs t::L) w'→∀ a',Fr n ((d,pT b)::m) a'→K a' w'):st1 P ops Q o K a w:=J2a F M.at' Z (Jk F hw) hd ho hz hp fun b a' w' F' m'=>k b w' (M.then m') a' F'
theorem kBx {t:TypeId} {x:Operand} {val:Value} (F:Fr n m a) (M:Sp X H w0 L w v D u) (cs:List Value) (ho:o.op=.box t x:=by exact rfl) (hd:o.dst=some d:=by exact rfl) (hw:J8 ops m o=some true:=by exact rfl) (hx:opd m x=some val:=by exact rfl) (hz:val.cells.toList=cs:=by exact rfl) (hp:Nat.blt d n=true:=by exact rfl)
 (k:∀ b w',Sp X H w0 (bx b cs t::L) w' v D u→∀ a',Fr n ((d,pT b)::m) a'→K a' w'):st1 P ops Q o K a w:=J7E F M.at' (Jk F hw) hd ho (F.g hx) hz hp fun b a' w' F' m'=>k b w' (M.then m') a' F'
theorem J4h {t:TypeId} {x:Operand} {val:Value} (F:Fr n m a) (M:St L0 w0 L w) (cs:List Value) (ho:o.op=.box t x:=by exact rfl) (hd:o.dst=some d:=by exact rfl) (hw:J8 ops m o=some true:=by exact rfl) (hx:opd m x=some val:=by exact rfl) (hz:val.cells.toList=cs:=by exact rfl) (hp:Nat.blt d n=true:=by exact rfl)
 (k:∀ b w',St L0 w0 (bx b cs t::L) w'→∀ a',Fr n ((d,pT b)::m) a'→K a' w'):st1 P ops Q o K a w:=J7E F M.at' (Jk F hw) hd ho (F.g hx) hz hp fun b a' w' F' m'=>k b w' (M.then m') a' F'
theorem Jc {id:Nat} (l:List Hld) (kl:List RdX) (ex order:List Nat) (M:Sp X H w0 L w v D u) (hl:HdK l kl w) (hm:P.follows .mixedOrders=true) (hc:(order.length == ops.size && Region.noSelect ops && J38 ops ex order (Array.replicate ops.size false))=true)
 (h:∀ w',Sp X H w0 L w' v D u→HdK l kl w'→Ji P ops ex (Exit.then (fun a w=>Q .normal a w) fun _ _ _=>False) (HdK l kl) order a w'):(Code.region id ops true).wp P Q a w:=J7W ex order (HdK l kl) hm hc (h _ M.drew ⟨fun p hp=>hl.1 p hp,fun p hp=>p.bl _ _ (hl.2 p hp) (J1U (At.nil w)).bl⟩)
theorem J5K {id:Nat} (l:List Hld) (kl:List RdX) (ex order:List Nat) (M:St L0 w0 L w) (hl:HdK l kl w) (hm:P.follows .mixedOrders=true) (hc:(order.length == ops.size && Region.noSelect ops && J38 ops ex order (Array.replicate ops.size false))=true)
 (h:∀ w',St L0 w0 L w'→HdK l kl w'→Ji P ops ex (Exit.then (fun a w=>Q .normal a w) fun _ _ _=>False) (HdK l kl) order a w'):(Code.region id ops true).wp P Q a w:=J7W ex order (HdK l kl) hm hc (h _ M.drew ⟨fun p hp=>hl.1 p hp,fun p hp=>p.bl _ _ (hl.2 p hp) (J1U (At.nil w)).bl⟩)
theorem kU {l:List ByteArray} {p:ByteArray} {f:Nat} {vs:List Value} [I:CFc P f] (F:Fr n m a) (M:St L0 w0 (mB X b v D u::L) w)
 (hx:J1u m o=vs:=by exact rfl) (hf:J1v o=f:=by exact rfl) (ho:J1E m o=true:=by exact rfl) (hd:o.dst=some d:=by exact rfl) (hw:J8 ops m o=some true:=by exact rfl) (hp:Nat.blt d n=true:=by exact rfl)
 (hc:Calls P f vs.toArray w (PIU X b v D u w l p D' u'))
 (k:∀ v' s w',KOk s l p→St L0 w0 (owK s l::mB X b v' D' u'::L) w'→∀ a',Fr n ((d,SL.val s)::m) a'→K a' w'):st1 P ops Q o K a w:=
 J0D F hc hx hf ho hd hw hp fun _ w' ⟨v',s,h1,h2,h3⟩=>⟨_,h1,k v' s w' h3 (M.then (by
  have:=At.frame (New:=[owK s l,mB X b v' D' u']) M.mv.at' [0] rfl h2
  rw [J2G] at this
  exact this))⟩
theorem kUS {l:List ByteArray} {p:ByteArray} {f:Nat} {vs:List Value} [I:CFc P f] (F:Fr n m a) (M:Sp X H w0 L w v D u)
 (hx:J1u m o=vs:=by exact rfl) (hf:J1v o=f:=by exact rfl) (ho:J1E m o=true:=by exact rfl) (hd:o.dst=some d:=by exact rfl) (hw:J8 ops m o=some true:=by exact rfl) (hp:Nat.blt d n=true:=by exact rfl)
 (hc:Calls P f vs.toArray w (PSU X (V H w0 L) w l p D' u'))
 (k:∀ v' s w',KOk s l p→Sp X H w0 (owK s l::L) w' v' D' u'→∀ a',Fr n ((d,.tuple #[MV.val v',SL.val s])::m) a'→K a' w'):st1 P ops Q o K a w:=
 J0D F hc hx hf ho hd hw hp fun _ w' ⟨v',s,h1,h2,h3,h4⟩=>⟨_,h1,k v' s w' h4 (M.callN h2 h3)⟩
variable {S:World→Prop} {rl:List Nat} {i:Nat} {ex:List Nat}
theorem kB {l:List Hld} {kl:List RdX} {w':World} {R:Act→Prop} (m:Mv [] w [] w') (k:∀ a',R a'→Ji P ops ex Q (HdK l kl) rl a' w'):∀ a',R a'→(J0E ops ex i=true→HdK l kl w→HdK l kl w')∧Ji P ops ex Q (HdK l kl) rl a' w':=fun a' h=>⟨fun _ h=>h.bl m.bl,k a' h⟩
theorem kH {w':World} {R:Act→Prop} (hS:S w') (k:∀ a',R a'→Ji P ops ex Q S rl a' w'):∀ a',R a'→(J0E ops ex i=true→S w→S w')∧Ji P ops ex Q S rl a' w':=fun a' h'=>⟨fun _ _=>hS,k a' h'⟩
theorem kF {w':World} {R:Act→Prop} (k:∀ a',R a'→Ji P ops ex Q S rl a' w') (h:J0E ops ex i=false:=by kernel_rfl):∀ a',R a'→(J0E ops ex i=true→S w→S w')∧Ji P ops ex Q S rl a' w':=fun a' h'=>⟨fun e=>(by rw [h] at e;cases e),k a' h'⟩
end
def J5N (m:List (Nat × Value)) (o:Oper):Option Int:=match o.op with
 | .binOp op _ x y _=>match opd m x,opd m y with
  | some (.int .i64 i),some (.int .i64 j)=>ari op i j
  | _,_=>none
 | _=>none
def J5O (m:List (Nat × Value)) (o:Oper):Option (ByteArray × ByteArray):=match o.op with
 | .binOp .add _ x y _=>match opd m x,opd m y with
  | some (.string i),some (.string j)=>some (i,j)
  | _,_=>none
 | _=>none
section
variable {P:Program} {ops:Array Oper} {Q:Exit→Act→World→Prop} {o:Oper} {rest:List Oper} {a:Act} {w:World} {d n i:Nat} {m:List (Nat × Value)} {S:World→Prop} {r ex:List Nat} {z:Int} {s t:ByteArray}
theorem Jae (F:Fr n m a) (h:J5N m o=some z) (hb:J1 z) (w:World):(execOp a.eval o).run P w=.ok (.value (iV z)) w:=by
 unfold J5N at h
 split at h
 ·rename_i ho
  split at h
  ·rename_i h1 h2;exact Jbq ho (F.g h1) (F.g h2) h hb
  cases h
 cases h
theorem Jaf (F:Fr n m a) (h:J5O m o=some (s,t)) (hb:s.size+t.size≤9223372036854775807) (w:World):(execOp a.eval o).run P w=.ok (.value (.string (s++t))) w:=by
 unfold J5O at h
 split at h
 ·rename_i ho
  split at h
  ·rename_i h1 h2;cases h;exact J0e ho (F.g h1) (F.g h2) hb
  cases h
 cases h
theorem m_ar (F:Fr n m a) (h:J5N m o=some z) (hw:J8 ops m o=some true) (hd:o.dst=some d) (hp:Nat.blt d n=true) (hb:J1 z) (k:∀ a',Fr n ((d,iV z)::m) a'→wpList P ops Q rest a' w):wpList P ops Q (o::rest) a w:=J0 (Jf F (Jk F hw) hd (Jae F h hb w) hp k)
theorem n_ar (F:Fr n m a) (hi:ops[i]? = some o) (h:J5N m o=some z) (ht:((JT o && !ex.contains i) && !JM o)=true) (hw:J8 ops m o=some true) (hd:o.dst=some d) (hp:Nat.blt d n=true) (hb:J1 z) (k:∀ a',Fr n ((d,iV z)::m) a'→Ji P ops ex Q S r a' w):Ji P ops ex Q S (i::r) a w:=J2w F hi ht (Jae F h hb) hw hd hp k
theorem m_ct (F:Fr n m a) (h:J5O m o=some (s,t)) (hw:J8 ops m o=some true) (hd:o.dst=some d) (hp:Nat.blt d n=true) (hb:s.size+t.size≤9223372036854775807) (k:∀ a',Fr n ((d,.string (s++t))::m) a'→wpList P ops Q rest a' w):wpList P ops Q (o::rest) a w:=J0 (Jf F (Jk F hw) hd (Jaf F h hb w) hp k)
theorem n_ct (F:Fr n m a) (hi:ops[i]? = some o) (h:J5O m o=some (s,t)) (ht:((JT o && !ex.contains i) && !JM o)=true) (hw:J8 ops m o=some true) (hd:o.dst=some d) (hp:Nat.blt d n=true) (hb:s.size+t.size≤9223372036854775807) (k:∀ a',Fr n ((d,.string (s++t))::m) a'→Ji P ops ex Q S r a' w):Ji P ops ex Q S (i::r) a w:=J2w F hi ht (Jaf F h hb) hw hd hp k
end
theorem n_ls {P:Program} {ops:Array Oper} {Q:Exit→Act→World→Prop} {o:Oper} {a:Act} {w:World} {d n i:Nat} {m:List (Nat × Value)} {S:World→Prop} {r ex:List Nat} {t:TypeId} {s:ByteArray} {x:Operand} [I:UTc P t .string] (F:Fr n m a) (hi:ops[i]? = some o) (ho:o.op=.call { callee:=.builtin .len,args:=#[x],argTypes:=#[t] }) (ht:((JT o && !ex.contains i) && !JM o)=true) (hw:J8 ops m o=some true) (hx:opd m x=some (.string s)) (hd:o.dst=some d) (hp:Nat.blt d n=true)
 (k:∀ a',Fr n ((d,iV (s.size:Int))::m) a'→Ji P ops ex Q S r a' w):Ji P ops ex Q S (i::r) a w:=J2w F hi ht (fun _=>Jb2 (fun t ht=>by cases ht;exact I.h) rfl ho (F.g hx)) hw hd hp k
theorem Jb7 (s:ByteArray) (i j:Nat):(s.extract i j).size≤s.size:=by rw [ByteArray.size_extract];omega
theorem sz0:(⟨#[]⟩:ByteArray).size=0:=rfl
theorem sz1 {a:UInt8} : (⟨#[a]⟩:ByteArray).size=1:=rfl
theorem sz2 {a b:UInt8} : (⟨#[a,b]⟩:ByteArray).size=2:=rfl
theorem zr2 {G:Prop} {n:Nat} {m:List (Nat × Value)} {w:World} {K:Act→World→Prop} (k:∀ a,Fr n m a→K a w)
 (h:(∀ a,Fr n m a→K a w)→G:=by
  intro kZ
  repeat (first
   | with_reducible refine wp_seq ?_
   | with_reducible refine wp_region_lit ?_
   | with_reducible refine J7J ?_
   | with_reducible refine J3A ?_
   | refine m_pl F rfl rfl rfl rfl fun _ F=>?_
   | refine Jn F M.at' 0 rfl rfl rfl rfl rfl rfl rfl rfl rfl fun _ F=>?_
   | refine Jn F M.at' 1 rfl rfl rfl rfl rfl rfl rfl rfl rfl fun _ F=>?_
   | refine Jn F M.at' 2 rfl rfl rfl rfl rfl rfl rfl rfl rfl fun _ F=>?_
   | refine JbS F rfl rfl rfl rfl rfl rfl fun _ F=>?_
   | refine JbR F hS 0 rfl rfl rfl rfl rfl rfl rfl rfl rfl rfl rfl fun _ F=>?_
   | refine JbR F hS 1 rfl rfl rfl rfl rfl rfl rfl rfl rfl rfl rfl fun _ F=>?_
   | with_reducible refine Jbn ?_
   | with_reducible refine wp_skip ?_
   | with_reducible refine wp_block ?_
   | with_reducible refine wp_ret ?_
   | with_reducible refine wp_exit ?_
   | with_reducible refine J6E ?_
   | with_reducible refine J6r ?_
   | with_reducible refine J67 ?_
   | with_reducible refine J6q ?_
   | with_reducible refine J6k ?_
   | refine x_block_on rfl ?_
   | refine J7N F rfl ?_
   | refine J7M F rfl ?_
   | refine J7R F rfl rfl rfl rfl rfl rfl fun _ F=>?_
   | refine J7S F rfl rfl rfl rfl rfl fun _ F=>?_
   | refine J7T F rfl rfl rfl rfl rfl fun _ F=>?_
   | refine m_ar F rfl rfl rfl rfl (by unfold J1 at *;omega) fun _ F=>?_
   | refine n_ar F rfl rfl rfl rfl rfl rfl (by unfold J1 at *;omega) fun _ F=>?_
   | refine m_ct F rfl rfl rfl rfl (by first|omega|(simp only [sz0,sz1,sz2] at *;omega)) fun _ F=>?_
   | refine n_ct F rfl rfl rfl rfl rfl rfl (by first|omega|(simp only [sz0,sz1,sz2] at *;omega)) fun _ F=>?_
   | refine n_ls F rfl rfl rfl rfl rfl rfl rfl fun _ F=>?_
   | refine J7U F rfl rfl rfl fun _ F=>?_
   | refine JbT F rfl rfl rfl rfl rfl fun _ F=>?_)
  exact kZ _ F):G:=h k
section
variable {P:Program} {ops:Array Oper} {Q:Exit→Act→World→Prop} {K:Act→World→Prop} {rest:List Oper} {w:World} {n nk:Nat} {m mk:List (Nat × Value)} {S:World→Prop} {rl ex:List Nat}
theorem zk (k:∀ a',Fr nk mk a'→K a' w) (h:(∀ a',Fr nk mk a'→K a' w)→∀ a',Fr n m a'→wpList P ops Q rest a' w:=by intro kZ _ F;exact zr2 kZ):∀ a',Fr n m a'→wpList P ops Q rest a' w:=h k
theorem zkN (k:∀ a',Fr nk mk a'→K a' w) (h:(∀ a',Fr nk mk a'→K a' w)→∀ a',Fr n m a'→Ji P ops ex Q S rl a' w:=by intro kZ _ F;exact zr2 kZ):∀ a',Fr n m a'→Ji P ops ex Q S rl a' w:=h k
theorem zE {f:Nat} {fn:Func} {c:Code} {args:List Value} {R:Ending→World→Prop} [I:RTc P f fn n] (k:∀ a',Fr nk mk a'→K a' w)
 (hb:fn.body=some c:=by exact rfl) (hl:Nat.ble args.length n=true:=by exact rfl)
 (h:(∀ a',Fr nk mk a'→K a' w)→∀ a',Fr n (J3C 0 args) a'→c.wp P (bodyPost P fn R) a' w:=by intro kZ _ F;exact zr2 kZ):Calls P f args.toArray w R:=
 J8A n I.h hb I.n (Nat.le_of_ble_eq_true hl) (h k)
theorem nEl {a:Act} {l:List Hld} {kl:List RdX} {i1 i2:Nat} {o1 o2:Oper} {ks:List ByteArray} {s:SL} {t t2 bytes d1 d2:Nat} {z:Value} {x y:Operand} [I:TIc P t2 false 1] (F:Fr n m a) (hS:HdK l kl w) (E:ElemT P t 9 z 1 bytes J3) (j k:Nat) (hk:k < s.n) (hL:nth kl j=some (rdK s ks):=by exact rfl)
 (hi1:ops[i1]? = some o1:=by exact rfl) (hi2:ops[i2]? = some o2:=by exact rfl) (hx1:ex.contains i1=false:=by exact rfl) (hx2:ex.contains i2=false:=by exact rfl)
 (ho1:o1.op=.indexAddr t x y:=by exact rfl) (hx:opd m x=some (SL.val s):=by exact rfl) (hy:opd m y=some (nV k):=by exact rfl) (hd1:o1.dst=some d1:=by exact rfl) (hw1:J8 ops m o1=some true:=by exact rfl) (hp1:Nat.blt d1 n=true:=by exact rfl)
 (ho2:o2.op=.load t2 (.tmp d1):=by exact rfl) (hd2:o2.dst=some d2:=by exact rfl) (hg2:o2.guard=none:=by exact rfl) (hp2:Nat.blt d2 n=true:=by exact rfl)
 (kk:∀ x p,nth ks k=some x→okS x→∀ a',Fr n ((d2,.string x)::(d1,p)::m) a'→Ji P ops ex Q (HdK l kl) rl a' w):Ji P ops ex Q (HdK l kl) (i1::i2::rl) a w:=by
 have hrd:∀ w',HdK l kl w'→Rd 1 J3 okS (fun _=>True) w' (SL.val s) ks:=fun w' h'=>⟨h'.2 _ (Jm hL),fun _ _ _ _ _=>trivial⟩
 obtain ⟨B,O,x,ad,hxn,ok,_,_⟩:=(hrd w hS).at k hk
 have t1:JT o1=true:=by unfold JT;rw [ho1]
 have t2':JT o2=true:=by unfold JT;rw [ho2]
 have l1:JM o1=false:=by unfold JM;rw [ho1]
 have l2:JM o2=true:=by unfold JM;rw [ho2]
 refine ⟨o1,hi1,?_⟩
 rw [if_pos (by rw [t1,hx1];rfl)]
 refine ⟨_,by rw [if_neg (by rw [l1];decide)];exact .inl ⟨Jk F hw1,fun w' _=>JB (i:=k) E ho1 ((F.g hx).trans (by unfold SL.val;rw [ad])) (F.g hy) rfl zO⟩,?_⟩
 rw [hd1]
 have F1:=F.put (d:=d1) rfl hp1 (v:=.pointer (some ⟨B,O+k * 1,none⟩))
 refine ⟨o2,hi2,?_⟩
 rw [if_pos (by rw [t2',hx2];rfl)]
 refine ⟨.string x,?_,?_⟩
 ·rw [if_pos l2]
  refine ⟨hS,.inl ⟨Jk F1 (by unfold J8;rw [hg2]),fun w' h'=>?_⟩⟩
  obtain ⟨B',O',x',ad',hxn',_,_,cl'⟩:=(hrd w' h').at k hk
  rw [ad] at ad'
  cases ad'
  rw [hxn] at hxn'
  cases hxn'
  exact JD (cs:=[.string x]) I.h ho2 (F1.g (by show look _ d1=_;unfold look;rw [Nat.beq_refl])) rfl (fun _=>rfl) cl'
 rw [hd2]
 exact kk x _ hxn ok _ (F1.put rfl hp2)
theorem JbQ {a:Act} {l:List Hld} {kl:List RdX} {i1 i2:Nat} {o1 o2:Oper} {ks:List ByteArray} {s:SL} {t t2 bytes d1 d2:Nat} {z:Value} {x y:Operand} [I:TIc P t2 false 1] (F:Fr n m a) (hS:HdK l kl w) (E:ElemT P t 9 z 1 bytes J3) (j k:Nat) (hk:k < s.n) {x0:ByteArray} (hx0:nth ks k=some x0) (hL:nth kl j=some (rdK s ks):=by exact rfl)
 (hi1:ops[i1]? = some o1:=by exact rfl) (hi2:ops[i2]? = some o2:=by exact rfl) (hx1:ex.contains i1=false:=by exact rfl) (hx2:ex.contains i2=false:=by exact rfl)
 (ho1:o1.op=.indexAddr t x y:=by exact rfl) (hx:opd m x=some (SL.val s):=by exact rfl) (hy:opd m y=some (nV k):=by exact rfl) (hd1:o1.dst=some d1:=by exact rfl) (hw1:J8 ops m o1=some true:=by exact rfl) (hp1:Nat.blt d1 n=true:=by exact rfl)
 (ho2:o2.op=.load t2 (.tmp d1):=by exact rfl) (hd2:o2.dst=some d2:=by exact rfl) (hg2:o2.guard=none:=by exact rfl) (hp2:Nat.blt d2 n=true:=by exact rfl)
 (kk:∀ p,okS x0→∀ a',Fr n ((d2,.string x0)::(d1,p)::m) a'→Ji P ops ex Q (HdK l kl) rl a' w):Ji P ops ex Q (HdK l kl) (i1::i2::rl) a w:=
 nEl F hS E j k hk hL hi1 hi2 hx1 hx2 ho1 hx hy hd1 hw1 hp1 ho2 hd2 hg2 hp2 fun x p h ok a' F=>by
  cases Option.some.inj (hx0.symm.trans h)
  exact kk p ok a' F
theorem kEl {a:Act} {L:List Atom} {o1 o2:Oper} {ks:List ByteArray} {s:SL} {t t2 bytes d1 d2:Nat} {z:Value} {x y:Operand} [I:TIc P t2 false 1] (F:Fr n m a) (A:At w L) (E:ElemT P t 9 z 1 bytes J3) (j k:Nat) (hk:k < s.n) (hL:nth L j=some (owK s ks):=by exact rfl)
 (ho1:o1.op=.indexAddr t x y:=by exact rfl) (hx:opd m x=some (SL.val s):=by exact rfl) (hy:opd m y=some (nV k):=by exact rfl) (hd1:o1.dst=some d1:=by exact rfl) (hw1:J8 ops m o1=some true:=by exact rfl) (hp1:Nat.blt d1 n=true:=by exact rfl)
 (ho2:o2.op=.load t2 (.tmp d1):=by exact rfl) (hd2:o2.dst=some d2:=by exact rfl) (hg2:o2.guard=none:=by exact rfl) (hp2:Nat.blt d2 n=true:=by exact rfl)
 (kk:∀ x p,nth ks k=some x→okS x→∀ a',Fr n ((d2,.string x)::(d1,p)::m) a'→wpList P ops Q rest a' w):wpList P ops Q (o1::o2::rest) a w:=by
 obtain ⟨B,O,x,ad,hxn,ok,_,cl⟩:=(At.rd A E.hk j hL).at k hk
 refine J0 (Jf F (Jk F hw1) hd1 (JB (i:=k) E ho1 ((F.g hx).trans (by unfold SL.val;rw [ad])) (F.g hy) rfl zO) hp1 fun a1 F1=>?_)
 refine J0 (Jf F1 (Jk F1 (by unfold J8;rw [hg2])) hd2 (JD (cs:=[.string x]) I.h ho2 (F1.g (by show look _ d1=_;unfold look;rw [Nat.beq_refl])) rfl (fun _=>rfl) cl) hp2 fun a2 F2=>?_)
 exact kk x _ hxn ok a2 F2
end
section
variable {P:Program} {Q:Exit→Act→World→Prop} {n:Nat} {m1:List (Nat × Value)} {a:Act} {w w0:World} {L0:List Atom}
theorem St.cast {L L':List Atom} (M:St L0 w0 L w) (e:L=L'):St L0 w0 L' w:=e ▸ M
def J7O {γ:Type} (μ:γ→Nat) (J:γ→Act→World→Prop) (g:γ) (a:Act) (w:World):Prop:=∃ g',μ g' < μ g∧J g' a w
theorem Jw {γ:Type} {μ:γ→Nat} {J:γ→Act→World→Prop} {g:γ} {a:Act} {w:World} (g':γ) (h:μ g' < μ g) (hJ:J g' a w):J7O μ J g a w:=⟨g',h,hJ⟩
theorem J1i {γ:Type} {slots:γ→List (Nat × Value)} {LL:γ→List Atom} {pr:γ→Prop} {c:Code} {g0:γ} (μ:γ→Nat) (F:Fr n (slots g0++m1) a) (M:St L0 w0 (LL g0) w) (h0:pr g0)
 (round:∀ g a w,Fr n (slots g++m1) a→St L0 w0 (LL g) w→pr g→c.wp P (Exit.then (J7O μ (fun g a w=>Fr n (slots g++m1) a∧St L0 w0 (LL g) w∧pr g) g) Q) a w):(Code.loop c).wp P Q a w:=by
 refine J5D (fun g a w=>Fr n (slots g++m1) a∧St L0 w0 (LL g) w∧pr g) μ g0 ⟨F,M,h0⟩ fun g a w h=>?_
 exact round g a w h.1 h.2.1 h.2.2
theorem J1e {X:Uni} {H:Nat→Prop} {γ:Type} {slots:γ→List (Nat × Value)} {LL:γ→List Atom} {vv:γ→MV} {DD:γ→List CellD} {uu:γ→Nat} {pr:γ→Prop} {c:Code} {g0:γ} (μ:γ→Nat) (F:Fr n (slots g0++m1) a) (M:Sp X H w0 (LL g0) w (vv g0) (DD g0) (uu g0)) (h0:pr g0)
 (round:∀ g a w,Fr n (slots g++m1) a→Sp X H w0 (LL g) w (vv g) (DD g) (uu g)→pr g→c.wp P (Exit.then (J7O μ (fun g a w=>Fr n (slots g++m1) a∧Sp X H w0 (LL g) w (vv g) (DD g) (uu g)∧pr g) g) Q) a w):(Code.loop c).wp P Q a w:=by
 refine J5D (fun g a w=>Fr n (slots g++m1) a∧Sp X H w0 (LL g) w (vv g) (DD g) (uu g)∧pr g) μ g0 ⟨F,M,h0⟩ fun g a w h=>?_
 exact round g a w h.1 h.2.1 h.2.2
end
section
variable {n:Nat} {m:List (Nat × Value)}
theorem kSl {P:Program} {ops:Array Oper} {Q:Exit→Act→World→Prop} {o:Oper} {rest:List Oper} {a:Act} {w:World} {d t:Nat} {x lo:Operand} {s:ByteArray} {z:Int} [I:UTc P t .string] (F:Fr n m a) (l:Nat) (hl:l≤s.size) (ho:o.op=.slice t x (some lo) none none:=by exact rfl) (hx:opd m x=some (.string s):=by exact rfl) (hy:opd m lo=some (iV z):=by exact rfl) (hz:z=((l:Nat):Int):=by exact yBp) (hd:o.dst=some d:=by exact rfl) (hw:J8 ops m o=some true:=by exact rfl) (hp:Nat.blt d n=true:=by exact rfl)
 (k:(s.extract l s.size).size≤s.size→∀ a',Fr n ((d,.string (s.extract l s.size))::m) a'→wpList P ops Q rest a' w):wpList P ops Q (o::rest) a w:=by
 subst hz
 exact J0 (Jf F (Jk F hw) hd (J2p I.h ho (F.g hx) (F.g hy) rfl hl (Nat.le_refl _) rfl) hp (k (Jb7 ..)))
theorem nSl {P:Program} {ops:Array Oper} {Q:Exit→Act→World→Prop} {o:Oper} {a:Act} {w:World} {d t i:Nat} {x lo:Operand} {s:ByteArray} {z:Int} {S:World→Prop} {rl ex:List Nat} [I:UTc P t .string] (F:Fr n m a) (l:Nat) (hl:l≤s.size) (hi:ops[i]? = some o:=by exact rfl) (ht:((JT o && !ex.contains i) && !JM o)=true:=by exact rfl) (ho:o.op=.slice t x (some lo) none none:=by exact rfl) (hx:opd m x=some (.string s):=by exact rfl) (hy:opd m lo=some (iV z):=by exact rfl) (hz:z=((l:Nat):Int):=by exact yBp) (hd:o.dst=some d:=by exact rfl) (hw:J8 ops m o=some true:=by exact rfl) (hp:Nat.blt d n=true:=by exact rfl)
 (k:(s.extract l s.size).size≤s.size→∀ a',Fr n ((d,.string (s.extract l s.size))::m) a'→Ji P ops ex Q S rl a' w):Ji P ops ex Q S (i::rl) a w:=by
 subst hz
 exact J2w F hi ht (fun _=>J2p I.h ho (F.g hx) (F.g hy) rfl hl (Nat.le_refl _) rfl) hw hd hp (k (Jb7 ..))
theorem kIx {P:Program} {ops:Array Oper} {Q:Exit→Act→World→Prop} {o:Oper} {rest:List Oper} {a:Act} {w:World} {d t:Nat} {x y:Operand} {s:ByteArray} {z:Int} [I:UTc P t .string] (F:Fr n m a) (i:Nat) (hi:i < s.size) (ho:o.op=.index t x y:=by exact rfl) (hx:opd m x=some (.string s):=by exact rfl) (hy:opd m y=some (iV z):=by exact rfl) (hz:z=((i:Nat):Int):=by exact yBp) (hd:o.dst=some d:=by exact rfl) (hw:J8 ops m o=some true:=by exact rfl) (hp:Nat.blt d n=true:=by exact rfl)
 (k:∀ a',Fr n ((d,.int .u8 (J5 s i))::m) a'→wpList P ops Q rest a' w):wpList P ops Q (o::rest) a w:=
 J0 (Jf F (Jk F hw) hd (J0Y I.h ho (F.g hx) (F.g hy) hz hi) hp k)
theorem zG {G:Prop} {d:Nat} {a:Act} {p:Prop} [Decidable p] (F:Fr n ((d,.bool (decide p))::m) a) (h1:p→Fr n ((d,.bool true)::m) a→G) (h2:¬ p→Fr n ((d,.bool false)::m) a→G):G:=by
 by_cases h:p
 ·rw [decide_eq_true h] at F;exact h1 h F
 rw [decide_eq_false h] at F;exact h2 h F
theorem zGb {G:Prop} {d:Nat} {a:Act} {b:Bool} (F:Fr n ((d,.bool b)::m) a) (h1:b=true→Fr n ((d,.bool true)::m) a→G) (h2:b=false→Fr n ((d,.bool false)::m) a→G):G:=by
 cases b
 ·exact h2 rfl F
 exact h1 rfl F
end
end Go.Proofs.YtipdbeklopjbmaaGreatDoor
