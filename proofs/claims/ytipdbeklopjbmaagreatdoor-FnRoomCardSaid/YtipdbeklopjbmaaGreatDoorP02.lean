/-
  Texts laid together: Eng5, Eng6, Eng7.
-/
import Derived.Test.YtipdbeklopjbmaaGreatDoorP01
set_option linter.unusedVariables false
set_option linter.unusedSimpArgs false
namespace Go.Proofs.YtipdbeklopjbmaaGreatDoor
open Go.ChangeShapes Go.WideShapes Go.ChangeAt Go.RowKit
structure Sd (LB LS:List Atom) (wS w:World):Prop where
 ok:∀ A ∈ LB,A.ok w
 kp:Kp (fps LS) wS w
theorem Sd.of {LB LS L:List Atom} {wS w:World} (m:Mv LS wS L w) (is:List Nat) (h:sel L is=LB):Sd LB LS wS w:=⟨fun A hA=>m.at'.ok A (J2M (h ▸ hA)),m.kp⟩
theorem Sd.bx {LB LS:List Atom} {wS w:World} (h:Sd LB LS wS w) (i:Nat) {A:Atom} (hi:nth LB i=some A):A.ok w:=h.ok A (Jm hi)
theorem J1U {L:List Atom} {w:World} (A:At w L):Mv L w L w.drew:=
 ⟨⟨fun B hB=>B.st w w.drew (fun _ _=>rfl) (A.ok B hB),A.lt,A.apart⟩,fun _ h=>.inl h,⟨rfl,rfl,rfl,Nat.le_refl _,fun _ _ _=>rfl⟩⟩
section
variable {P:Program} {ops:Array Oper} {Q:Exit→Act→World→Prop} {S:World→Prop} {fuel:Nat} {listed listed':Array Bool} {a:Act} {w:World}
theorem Ji9 {id:Nat} {L:List Atom} (C:Act→World→Prop) (LB:List Atom) (hm:P.follows .mixedOrders=true) (A:At w L) (hl:Array.replicate ops.size false=listed)
 (h:∀ w',Mv L w L w'→wpAnyH P .any ops (Exit.then C fun _ _ _=>False) (Sd LB L w') ops.size listed a w') (is:List Nat) (hB:sel L is=LB) (k:∀ a w,C a w→Q .normal a w):(Code.region id ops true).wp P Q a w:=by
 have m:=J1U A
 have hS:Sd LB L w.drew w.drew:=Sd.of (Mv.refl m.at') is hB
 subst hl
 exact J3J C (wp_region_held_drew hm hS fun _=>h _ m) k
theorem Jha {n i d:Nat} {oi:Oper} {v:Value} (hn:n=fuel+1) (hi:ops[i]? = some oi) (hs:Region.noSelect ops=true) (hf:Region.free .any ops listed i=true) (hr:(Region.ready .any ops listed).contains i=true)
 (hQ:∀ c a w,Q (.panic c) (a.put oi.dst v) w→Q (.panic c) a w) (hS:S w) (hl:listed.setIfInBounds i true=listed') (hw:Region.wanted oi (yielded ops a.tmps)=true) (hd:oi.dst=some d) (hop:∀ w',S w'→(execOp a.eval oi).run P w'=.ok (.value v) w')
 (k:∀ a',a'=a.put (some d) v→wpAnyH P .any ops Q S fuel listed' a' w):wpAnyH P .any ops Q S n listed a w:=by
 subst hn
 subst hl
 refine wpAnyH_take hi hs hf hr hQ (.inl ⟨hw,hop⟩) hS ?_
 rw [hd]
 exact k _ rfl
def D1 (P:Program) (ops:Array Oper) (Q:Exit→Act→World→Prop) (S:World→Prop) (fuel:Nat) (listed:Array Bool) (a:Act) (w:World) (rs:List Nat):Prop:=
 ∀ i ∈ rs,wpOp P ops Q i (fun a' w'=>S w'∧wpAnyH P .any ops Q S fuel (listed.setIfInBounds i true) a' w') a w
theorem J0G {n:Nat} (hn:n=fuel+1) {rs:List Nat} (hr:Region.ready .any ops listed=rs) (hne:rs≠[]) (h:D1 P ops Q S fuel listed a w rs):wpAnyH P .any ops Q S n listed a w:=by
 subst hn
 exact wpAnyH_all hr hne h
theorem J0H:D1 P ops Q S fuel listed a w []:=fun _ h=>by cases h
theorem Jz {i:Nat} {rs:List Nat} {o:Oper} (hi:ops[i]? = some o) (hl:listed.setIfInBounds i true=listed') (h:st1 P ops Q o (fun a' w'=>S w'∧wpAnyH P .any ops Q S fuel listed' a' w') a w) (t:D1 P ops Q S fuel listed a w rs):D1 P ops Q S fuel listed a w (i::rs):=by
 subst hl
 intro j hj
 rcases List.mem_cons.1 hj with rfl|hj
 ·unfold wpOp
  simp only [hi]
  exact h
 exact t j hj
theorem J0W {n i:Nat} {o:Oper} (hn:n=fuel+1) (hr:Region.ready .any ops listed=[i]) (hi:ops[i]? = some o) (hl:listed.setIfInBounds i true=listed') (h:st1 P ops Q o (fun a' w'=>S w'∧wpAnyH P .any ops Q S fuel listed' a' w') a w):wpAnyH P .any ops Q S n listed a w:=
 J0G hn hr (by simp) (Jz hi hl h J0H)
end
section
variable {α:Type} {k:Nat} {enc:α→List Value} {ok:α→Prop}
theorem Rd.elem {H:Nat→Prop} {w:World} {a:Option Addr} {n c:Nat} {l:List α} (h:Rd k enc ok H w (.slice a n c) l) (i:Nat) (hi:i < n):∃ x,nth l i=some x∧ok x:=by
 obtain ⟨_,_,x,_,h1,h2,_⟩:=h.at i hi
 exact ⟨x,h1,h2⟩
theorem Rd.atK {G:Nat→Prop} {w0 w:World} {L:List Atom} {a:Option Addr} {n c:Nat} {l:List α} (hk:0 < k) (h:Rd k enc ok (V G w0 L) w (.slice a n c) l) (i:Nat) (hi:i < n) :
 ∃ b off x,a=some ⟨b,off,none⟩∧nth l i=some x∧ok x∧(enc x).length=k∧∀ wz,Kp (fps L) w wz→∀ j v,(enc x)[j]? = some v→wz.cell? ((⟨b,off+i * k,none⟩:Addr).add j)=some v:=by
 obtain ⟨b,off,x,rfl,h1,h2,h3,h4⟩:=h.at i hi
 refine ⟨b,off,x,rfl,h1,h2,h3,fun wz hz j v hj=>?_⟩
 have hb:=hz.block b (h.1.blk hk zO) (h.2 _ _ _ rfl zO).2
 have:=h4 j v hj
 rw [J0a] at this ⊢
 exact (World.cell?_of_block (w:=w) (a:=⟨b,off+i * k+j,none⟩) hb).trans this
def RdA (k:Nat) (enc:α→List Value) (ok:α→Prop) (H:Nat→Prop) (w:World) (v:Value) (l:List α):Prop:=
 RArg k (Enc enc ok) w v l∧∀ ad n c,v=.slice (some ad) n c→0 < n→H ad.block
theorem RArg.same {w w':World} {v:Value} {l:List α} (h:RArg k (Enc enc ok) w v l) (hb:∀ ad n c,v=.slice (some ad) n c→0 < n→w'.heap[ad.block]? = w.heap[ad.block]?):RArg k (Enc enc ok) w' v l:=by
 obtain ⟨a,cap,rfl,h1,h2,h3,h4⟩:=h
 refine ⟨a,cap,rfl,h1,h2,h3,fun hn=>?_⟩
 obtain ⟨b,off,rfl,hc⟩:=h4 hn
 refine ⟨b,off,rfl,fun i x hx=>?_⟩
 obtain ⟨row,g1,g2,g3⟩:=hc i x hx
 exact ⟨row,g1,g2,fun j u hj=>(World.cell?_of_block (w:=w) (a:=⟨b,off+i * k+j,none⟩) (hb ⟨b,off,none⟩ _ _ rfl hn)).trans (g3 j u hj)⟩
theorem RArg.blk {w:World} {ad:Addr} {n c:Nat} {l:List α} (hk:0 < k) (h:RArg k (Enc enc ok) w (.slice (some ad) n c) l) (hn:0 < n):ad.block < w.heap.size:=by
 obtain ⟨a,cap,e,h1,h2,h3,h4⟩:=h
 cases e
 obtain ⟨b,off,e,hc⟩:=h4 zO
 cases e
 obtain ⟨row,g1,g2,g3⟩:=hc 0 l[0] (by simp [hn])
 have:=g3 0 row[0] (by simp [g1,hk])
 exact World.block_lt_of_cell? w ⟨b,off+0 * k+0,none⟩ this
theorem RdA.mv {G:Nat→Prop} {w0 w w':World} {L L':List Atom} {v:Value} {l:List α} (hk:0 < k) (h:RdA k enc ok (V G w0 L) w v l) (m:Mv L w L' w'):RdA k enc ok (V G w0 L') w' v l:=by
 refine ⟨h.1.same fun ad n c e hn=>?_,fun ad n c e hn=>?_⟩
 ·subst e
  exact m.kp.block _ (h.1.blk hk hn) (h.2 _ _ _ rfl hn).2
 have h1:=h.2 ad n c e hn
 subst e
 have h2:=h.1.blk hk hn
 exact ⟨h1.1,fun h3=>(m.fresh _ h3).elim h1.2 (fun h4=>by omega)⟩
theorem RdA.start {G:Nat→Prop} {w0:World} {L:List Atom} {v:Value} {l:List α} (h:RdA k enc ok G w0 v l) (hL:∀ b,G b→¬ fps L b):RdA k enc ok (V G w0 L) w0 v l:=⟨h.1,fun ad n c e hn=>⟨.inl (h.2 ad n c e hn),hL _ (h.2 ad n c e hn)⟩⟩
theorem RdA.inv {H:Nat→Prop} {w:World} {a:Option Addr} {n c:Nat} {l:List α} (h:RdA k enc ok H w (.slice a n c) l):n=l.length∧n≤c∧c≤9223372036854775807∧(a=none→l=[]):=by
 obtain ⟨a',cap,e,h1,h2,h3,h4⟩:=h.1.inv
 cases e
 exact ⟨rfl,h1,zO,fun e=>(h4 e).1⟩
theorem RdA.at {H:Nat→Prop} {w:World} {a:Option Addr} {n c:Nat} {l:List α} (h:RdA k enc ok H w (.slice a n c) l) (i:Nat) (hi:i < n) :
 ∃ b off x,a=some ⟨b,off,none⟩∧nth l i=some x∧ok x∧(enc x).length=k∧∀ j v,(enc x)[j]? = some v→w.cell? ((⟨b,off+i * k,none⟩:Addr).add j)=some v:=by
 obtain ⟨b,off,x,row,h1,h2,h3,⟨rfl,h4⟩,h5⟩:=h.1.at i hi
 exact ⟨b,off,x,h1,by rw [JO];exact h2,h4,h3,fun j v hj=>by rw [J0a];exact h5 j v hj⟩
theorem RdA.elem {H:Nat→Prop} {w:World} {a:Option Addr} {n c:Nat} {l:List α} (h:RdA k enc ok H w (.slice a n c) l) (i:Nat) (hi:i < n):∃ x,nth l i=some x∧ok x:=by
 obtain ⟨_,_,x,_,h1,h2,_⟩:=h.at i hi
 exact ⟨x,h1,h2⟩
theorem RdA.atK {G:Nat→Prop} {w0 w:World} {L:List Atom} {a:Option Addr} {n c:Nat} {l:List α} (hk:0 < k) (h:RdA k enc ok (V G w0 L) w (.slice a n c) l) (i:Nat) (hi:i < n) :
 ∃ b off x,a=some ⟨b,off,none⟩∧nth l i=some x∧ok x∧(enc x).length=k∧∀ wz,Kp (fps L) w wz→∀ j v,(enc x)[j]? = some v→wz.cell? ((⟨b,off+i * k,none⟩:Addr).add j)=some v:=by
 obtain ⟨b,off,x,rfl,h1,h2,h3,h4⟩:=h.at i hi
 refine ⟨b,off,x,rfl,h1,h2,h3,fun wz hz j v hj=>?_⟩
 have hb:=hz.block b (h.1.blk hk zO) (h.2 _ _ _ rfl zO).2
 have:=h4 j v hj
 rw [J0a] at this ⊢
 exact (World.cell?_of_block (w:=w) (a:=⟨b,off+i * k+j,none⟩) hb).trans this
end
section
variable {P:Program} {o:Oper} {ρ:Operand→Value} {w:World} {x:Operand} {t e k bytes:Nat} {z:Value} {α:Type} {enc:α→List Value} {ok:α→Prop}
theorem JfP {H:Nat→Prop} {a:Option Addr} {n c i j:Nat} {l:List α} {lo hi:Option Operand} (R:Rd k enc ok H w (.slice a n c) l) (E:ElemT P t e z k bytes enc) (ho:o.op=.slice t x lo hi none) (hx:ρ x=.slice a n c)
 (hlo:J1H ρ 0 lo i) (hhi:J1H ρ n hi j) (h1:i≤j) (h2:j≤n) :
 ∃ a' c',(execOp ρ o).run P w=.ok (.value (.slice a' (j - i) c')) w∧Rd k enc ok H w (.slice a' (j - i) c') ((l.take j).drop i):=by
 obtain ⟨g1,g2,g3,g4⟩:=R.inv
 cases a with
 | none=>
  have hl:=g4 rfl
  subst hl
  obtain ⟨a',cap,e1,_,_,_,h4⟩:=R.1.inv
  cases e1
  obtain ⟨_,hc⟩:=h4 rfl
  subst hc
  simp only [List.length_nil] at h2
  have hj:j=0:=by omega
  subst hj
  have hi0:i=0:=by omega
  subst hi0
  obtain ⟨inf,q1,_⟩:=info_parts E.hT.info
  refine ⟨none,0,?_,?_⟩
  ·exact J8V E.ht ⟨inf,q1⟩ ho hx (by cases lo with|none=>trivial|some p=>exact hlo) (by cases hi with|none=>trivial|some p=>exact hhi)
  exact Rd.nil
 | some ad=>
  obtain ⟨b,off,rfl⟩:=R.1.plain
  have hr:=J76 (w:=w) (l:=i) (h:=j) E ho hx hlo hhi h1 (Nat.le_trans h2 g2)
  have ht:=R.1.take j h2
  by_cases hc:c=i
  ·subst hc
   have e1:j=c:=by omega
   subst e1
   have e2:n=j:=by omega
   refine ⟨some ⟨b,off,none⟩,0,?_,?_,fun ad' n' c' e' hn=>?_⟩
   ·rw [hr];simp
   ·have:=ht.dropEnd
    simpa using this
   cases e';omega
  refine ⟨some ⟨b,off+i * k,none⟩,c - i,?_,?_,fun ad' n' c' e' hn=>?_⟩
  ·rw [hr];simp [hc]
  ·exact ht.drop i h1
  cases e'
  exact R.2 ⟨b,off,none⟩ n c rfl zO
theorem JfX {ops:Array Oper} {Q:Exit→Act→World→Prop} {K:Act→World→Prop} {ac:Act} {d:Nat} {H:Nat→Prop} {a:Option Addr} {n c:Nat} {l:List α} {lo hi:Option Operand} (i j:Nat) (R:Rd k enc ok H w (.slice a n c) l) (E:ElemT P t e z k bytes enc)
 (hw:Region.wanted o (yielded ops ac.tmps)=true) (hd:o.dst=some d) (ho:o.op=.slice t x lo hi none) (hx:ac.eval x=.slice a n c) (hlo:J1H ac.eval 0 lo i) (hhi:J1H ac.eval n hi j) (h1:i≤j) (h2:j≤n)
 (kk:∀ a' c' ac',ac'=ac.put (some d) (.slice a' (j - i) c')→Rd k enc ok H w (.slice a' (j - i) c') ((l.take j).drop i)→K ac' w):st1 P ops Q o K ac w:=by
 obtain ⟨a',c',h3,h4⟩:=JfP (ρ:=ac.eval) (i:=i) (j:=j) R E ho hx hlo hhi h1 h2
 exact J7K hw hd h3 fun _ e'=>kk _ _ _ e' h4
theorem J6I {w w':World} {v v':Value} {l l':List α} (hO:Own e k enc ok w' v' l') (hk:KeepBut v.ownBlock.toList w w') (hm:Moved w v v'):Mv [ow e k enc ok v l] w [ow e k enc ok v' l'] w':=by
 refine ⟨At.one hO (fun b hb=>hO.lt b (by have h:v'.ownBlock=some b:=hb;simp [h])),?_,Kp.of_keep hk (fun b hb=>⟨_,List.mem_singleton.2 rfl,show v.ownBlock=some b by simpa using hb⟩)⟩
 rintro b ⟨B,hB,hb⟩
 rcases List.mem_singleton.1 hB with rfl
 have hb':v'.ownBlock=some b:=hb
 rcases hm b (by simp [hb']) with h6|h6
 ·exact .inl ⟨_,List.mem_singleton.2 rfl,show v.ownBlock=some b by simpa using h6⟩
 exact .inr h6
theorem J6o {w w':World} {v':Value} {l':List α} (hO:Own e k enc ok w' v' l') (hf:∀ b ∈ v'.ownBlock.toList,w.heap.size≤b) (hb:Bl w w'):Mv [] w [ow e k enc ok v' l'] w':=
 Bl.mv_new (At.one hO (fun b hb=>hO.lt b (by have h:v'.ownBlock=some b:=hb;simp [h]))) (fun b ⟨B,hB,hb⟩=>by rcases List.mem_singleton.1 hB with rfl;have h:v'.ownBlock=some b:=hb;exact hf b (by simp [h])) hb
end
section
variable {P:Program} {ops:Array Oper} {Q:Exit→Act→World→Prop} {K:Act→World→Prop} {o:Oper} {a:Act} {w:World} {d:Nat}
theorem JgI {f:FuncId} {x:Operand} {xs:Array Operand} {ats:Array TypeId} {fn:Func} {c:Code} {vs us:List Value} (hf:P.funcs[f]? = some fn) (hb:fn.body=some c) (hname:(fn.name == "runtime.NumGoroutine")=false) (hρ:a.eval x=.func (.func f) #[] us.toArray)
 (ho:o.op=.call { callee:=.value x,args:=xs,argTypes:=ats }) (hx:xs.toList.map a.eval=vs):(execOp a.eval o).run P w=.ok (.enter f (vs++us).toArray) w:=by
 have h1:fn.name≠ "runtime.NumGoroutine" := by simpa using hname
 have h2:xs.map a.eval=vs.toArray:=by rw [← hx];apply Array.ext';simp
 simp [execOp,ho,resolve,h2,hρ,Deferred.ofValue,invoke,callFunc,hf,h1,hb]
theorem Jga {f:FuncId} {x:Operand} {xs:Array Operand} {ats:Array TypeId} {vs us:List Value} {R:Ending→World→Prop} (C:CF P f) (hw:Region.wanted o (yielded ops a.tmps)=true) (hd:o.dst=some d)
 (ho:o.op=.call { callee:=.value x,args:=xs,argTypes:=ats }) (hρ:a.eval x=.func (.func f) #[] us.toArray) (hx:xs.toList.map a.eval=vs) (hc:Calls P f (vs++us).toArray w R)
 (k:∀ e w',R e w'→∃ v,e=.returned v∧∀ a',a'=a.put (some d) v→K a' w'):st1 P ops Q o K a w:=by
 obtain ⟨fn,c,h1,h2,h3⟩:=C.ex
 exact Jb4 hw hd (JgI h1 h2 h3 hρ ho hx) hc k
end
theorem Jgc (z:Int):J4g .eql z z=true:=decide_eq_true rfl
theorem At.rdOff {α:Type} {e k:Nat} {enc:α→List Value} {ok:α→Prop} {w:World} {L:List Atom} (h:At w L) (hk:∀ x,(enc x).length=k) (i:Nat) {v:Value} {l:List α} (hL:nth L i=some (ow e k enc ok v l)) (is:List Nat) (hi:is.any (Nat.beq i)=false):Rd k enc ok (fun b=>¬ fps (sel L is) b) w v l:=by
 refine ⟨Own.rd hk (h.ok _ (Jm hL)),fun ad n c e' hn=>?_⟩
 have hb:v.ownBlock=some ad.block:=by subst e';rfl
 rintro ⟨B,hB,hb'⟩
 obtain ⟨j,h3,h4⟩:=J47 hB
 refine h.apartAt hL h4 (fun e=>?_) _ hb hb'
 subst e
 simp at hi
 exact hi _ h3 rfl
theorem At.ownInv {α:Type} {e k:Nat} {enc:α→List Value} {ok:α→Prop} {w:World} {L:List Atom} {a:Option Addr} {n c:Nat} {l:List α} (h:At w L) (hk:∀ x,(enc x).length=k) (i:Nat) (hL:nth L i=some (ow e k enc ok (.slice a n c) l)):n=l.length∧n≤c∧c≤9223372036854775807:=by
 obtain ⟨h1,h2,h3,_⟩:=(h.rd hk i hL).inv
 exact ⟨h1,h2,h3⟩
section
variable {P:Program} {ops:Array Oper} {Q:Exit→Act→World→Prop} {K:Act→World→Prop} {o:Oper} {a:Act} {w:World} {L:List Atom} {d n:Nat} {m:List (Nat × Value)}
theorem Jf {v:Value} (F:Fr n m a) (hw:Region.wanted o (yielded ops a.tmps)=true) (hd:o.dst=some d) (hop:(execOp a.eval o).run P w=.ok (.value v) w) (hp:Nat.blt d n=true)
 (k:∀ a',Fr n ((d,v)::m) a'→K a' w):st1 P ops Q o K a w:=J7K hw hd hop fun a' e=>k a' (F.put e hp)
theorem J7k (F:Fr n m a) (hw:Region.wanted o (yielded ops a.tmps)=false) (hd:o.dst=some d) (hp:Nat.blt d n=true)
 (k:∀ a',Fr n ((d,undef)::m) a'→K a' w):st1 P ops Q o K a w:=JhR hw hd fun a' e=>k a' (F.put e hp)
theorem J2a {t:TypeId} {z:Value} {cs:List Value} (F:Fr n m a) (A:At w L) (Z:ZI P t z) (hw:Region.wanted o (yielded ops a.tmps)=true) (hd:o.dst=some d) (ho:o.op=.alloc t) (hz:z.cells.toList=cs) (hp:Nat.blt d n=true)
 (k:∀ b a' w',Fr n ((d,.pointer (some ⟨b,0,none⟩))::m) a'→Mv L w (bx b cs t::L) w'→K a' w'):st1 P ops Q o K a w:=
 JgN A Z hw hd ho hz fun b a' w' e m'=>k b a' w' (F.put e hp) m'
theorem J7E {t:TypeId} {x:Operand} {v:Value} {cs:List Value} (F:Fr n m a) (A:At w L) (hw:Region.wanted o (yielded ops a.tmps)=true) (hd:o.dst=some d) (ho:o.op=.box t x) (hx:a.eval x=v) (hv:v.cells.toList=cs) (hp:Nat.blt d n=true)
 (k:∀ b a' w',Fr n ((d,.pointer (some ⟨b,0,none⟩))::m) a'→Mv L w (bx b cs t::L) w'→K a' w'):st1 P ops Q o K a w:=
 JiI A hw hd ho hx hv fun b a' w' e m'=>k b a' w' (F.put e hp) m'
theorem J4E {f:FuncId} {xs:Array Operand} {ats:Array TypeId} {vs:List Value} {R:Ending→World→Prop} (F:Fr n m a) (C:CF P f) (hw:Region.wanted o (yielded ops a.tmps)=true) (hd:o.dst=some d)
 (ho:o.op=.call { callee:=.value (.func f),args:=xs,argTypes:=ats }) (hp:Nat.blt d n=true) (hx:xs.toList.map a.eval=vs) (hc:Calls P f vs.toArray w R)
 (k:∀ e w',R e w'→∃ v,e=.returned v∧∀ a',Fr n ((d,v)::m) a'→K a' w'):st1 P ops Q o K a w:=
 Jh5 C hw hd ho hx hc fun e w' hR=>by
  obtain ⟨v,h1,h2⟩:=k e w' hR
  exact ⟨v,h1,fun a' e'=>h2 a' (F.put e' hp)⟩
theorem J4w {f:FuncId} {x:Operand} {xs:Array Operand} {ats:Array TypeId} {vs us:List Value} {R:Ending→World→Prop} (F:Fr n m a) (C:CF P f) (hw:Region.wanted o (yielded ops a.tmps)=true) (hd:o.dst=some d)
 (ho:o.op=.call { callee:=.value x,args:=xs,argTypes:=ats }) (hp:Nat.blt d n=true) (hρ:a.eval x=.func (.func f) #[] us.toArray) (hx:xs.toList.map a.eval=vs) (hc:Calls P f (vs++us).toArray w R)
 (k:∀ e w',R e w'→∃ v,e=.returned v∧∀ a',Fr n ((d,v)::m) a'→K a' w'):st1 P ops Q o K a w:=
 Jga C hw hd ho hρ hx hc fun e w' hR=>by
  obtain ⟨v,h1,h2⟩:=k e w' hR
  exact ⟨v,h1,fun a' e'=>h2 a' (F.put e' hp)⟩
variable {α:Type} {e k bytes:Nat} {z:Value} {enc:α→List Value} {ok:α→Prop} {t:TypeId}
theorem J02 {q:Nat} {ps:Array (Nat × Operand)} {vs:List Value} (F:Fr n m a) (A:At w L) (l:List α) (E:ElemT P t e z k bytes enc) (hw:Region.wanted o (yielded ops a.tmps)=true) (hd:o.dst=some d) (ho:o.op=.buildSlice t q ps) (hn:q=l.length) (hsm:Nat.ble (q * k) 16777216=true) (hp:Nat.blt d n=true)
 (hps:ps.toList.map (fun p=>(p.1,a.eval p.2))=(vs.zipIdx 0).map fun p=>(p.2,p.1)) (hvl:vs.length=l.length) (hvs:vs.map (fun v=>v.cells.toList)=l.map enc) (hok:∀ x ∈ l,ok x)
 (kk:∀ b a' w',Fr n ((d,.slice (some ⟨b,0,none⟩) q q)::m) a'→Mv L w (ow e k enc ok (.slice (some ⟨b,0,none⟩) q q) l::L) w'→K a' w'):st1 P ops Q o K a w:=
 Jfh A l E hw hd ho hn hsm hps hvl (JhP hvs) hok fun b a' w' e' m'=>kk b a' w' (F.put e' hp) m'
theorem Jv {s x:Operand} {v xv:Value} {l news:List α} (F:Fr n m a) (A:At w L) (i:Nat) (E:ElemT P t e z k bytes enc) (hL:nth L i=some (ow e k enc ok v l)) (hsel:JP L.length [i]=true) (hw:Region.wanted o (yielded ops a.tmps)=true) (hd:o.dst=some d)
 (ho:o.op=.call { callee:=.builtin .append,args:=#[s,x],argTypes:=#[t,t] }) (hp:Nat.blt d n=true) (hs:a.eval s=v) (hx:a.eval x=xv) (hnews:RSl k (Enc enc ok) w xv news) (hbytes:(l.length+news.length) * bytes≤140737488355328)
 (kk:∀ b q c a' w',Fr n ((d,.slice b q c)::m) a'→Mv L w ([ow e k enc ok (.slice b q c) (l++news)]++del L [i]) w'→q=(l++news).length→K a' w'):st1 P ops Q o K a w:=
 JiH A i E hL hsel hw hd ho hs hx hnews hbytes fun b q c a' w' e' m' h=>kk b q c a' w' (F.put e' hp) m' h
theorem J5j {H:Nat→Prop} {x:Operand} {b:Option Addr} {q c:Nat} {l:List α} {lo hi:Option Operand} (F:Fr n m a) (i j:Nat) (R:Rd k enc ok H w (.slice b q c) l) (E:ElemT P t e z k bytes enc)
 (hw:Region.wanted o (yielded ops a.tmps)=true) (hd:o.dst=some d) (ho:o.op=.slice t x lo hi none) (hp:Nat.blt d n=true) (hx:a.eval x=.slice b q c) (hlo:J1H a.eval 0 lo i) (hhi:J1H a.eval q hi j) (h1:i≤j) (h2:j≤q)
 (kk:∀ a' c' ac',Fr n ((d,.slice a' (j - i) c')::m) ac'→Rd k enc ok H w (.slice a' (j - i) c') ((l.take j).drop i)→K ac' w):st1 P ops Q o K a w:=
 JfX i j R E hw hd ho hx hlo hhi h1 h2 fun a' c' ac' e' R'=>kk a' c' ac' (F.put e' hp) R'
end
section
variable {P:Program} {ops:Array Oper} {Q:Exit→Act→World→Prop} {S:World→Prop} {fuel:Nat} {listed listed':Array Bool} {a:Act} {w:World} {q:Nat} {m:List (Nat × Value)}
theorem J0o {n i d:Nat} {oi:Oper} {v:Value} (F:Fr q m a) (hn:n=fuel+1) (hi:ops[i]? = some oi) (hs:Region.noSelect ops=true) (hf:Region.free .any ops listed i=true) (hr:(Region.ready .any ops listed).contains i=true)
 (hQ:∀ c a w,Q (.panic c) (a.put oi.dst v) w→Q (.panic c) a w) (hS:S w) (hl:listed.setIfInBounds i true=listed') (hw:Region.wanted oi (yielded ops a.tmps)=true) (hd:oi.dst=some d) (hp:Nat.blt d q=true) (hop:∀ w',S w'→(execOp a.eval oi).run P w'=.ok (.value v) w')
 (k:∀ a',Fr q ((d,v)::m) a'→wpAnyH P .any ops Q S fuel listed' a' w):wpAnyH P .any ops Q S n listed a w:=
 Jha hn hi hs hf hr hQ hS hl hw hd hop fun a' e=>k a' (F.put e hp)
end
theorem At.frame0 {w w':World} {L:List Atom} (h:At w L) (m:Mv [] w [] w'):Mv L w L w':=by
 have:=At.frame (New:=[]) h [] rfl m
 rw [J19] at this
 exact this
section
variable {α:Type} {e k:Nat} {enc:α→List Value} {ok:α→Prop}
theorem J8Y {P X Y R:List Value} (h:X.length=Y.length):Jq (P++(Y++R)) P.length X=P++(X++R):=by
 unfold Jq
 rw [List.take_left,List.append_assoc,h]
 congr 2
 rw [← List.append_assoc,show P.length+Y.length=(P++Y).length by simp,List.drop_left]
theorem J6D {A B X:List Value} {off:Nat} (h:off+X.length≤A.length):Jq (A++B) off X=Jq A off X++B:=by
 unfold Jq
 rw [List.take_append_of_le_length zO,List.drop_append_of_le_length h]
 simp
theorem J4W {A X:List Value} {off:Nat} (h:off+X.length≤A.length):(Jq A off X).length=A.length:=by
 unfold Jq;simp;omega
theorem J9L {l:List α} {j:Nat} {x:α} (hk:∀ x,(enc x).length=k) (hj:j < l.length):J4 enc (l.set j x)=Jq (J4 enc l) (j * k) (enc x):=by
 have h1:l.set j x=l.take j++x::l.drop (j+1):=List.set_eq_take_append_cons_drop .. |>.trans (if_pos hj)
 have h2:l=l.take j++(l[j]::l.drop (j+1)):=by rw [List.getElem_cons_drop];exact (List.take_append_drop j l).symm
 have e1:(J4 enc (l.take j)).length=j * k:=by rw [J0d hk,List.length_take];congr 1;omega
 have h3:J4 enc l=J4 enc (l.take j)++(enc l[j]++J4 enc (l.drop (j+1))):=by
  have:J4 enc (l.take j++(l[j]::l.drop (j+1)))=J4 enc (l.take j)++(enc l[j]++J4 enc (l.drop (j+1))):=by rw [J18];simp only [J4,List.flatMap_cons]
  rw [← h2] at this;exact this
 have h4:J4 enc (x::l.drop (j+1))=enc x++J4 enc (l.drop (j+1)):=by simp [J4]
 rw [h1,J18,h4,h3,← e1]
 exact (J8Y ((hk x).trans (hk _).symm)).symm
theorem Jhw {w:World} {a:Option Addr} {n c:Nat} {l:List α} (hk:∀ x,(enc x).length=k) (h:Own e k enc ok w (.slice a n c) l) (i:Nat) (hi:i < n) :
 ∃ b x,a=some ⟨b,0,none⟩∧nth l i=some x∧ok x∧∀ j v,(enc x)[j]? = some v→w.cell? ((⟨b,0+i * k,none⟩:Addr).add j)=some v:=by
 obtain ⟨cap,_,e1,_⟩:=(h.rd hk).inv
 cases e1
 have hx:l[i]? = some l[i]:=by simp [hi]
 obtain ⟨b,h1,_,h3,_,_⟩:=Own.cellAt hk h i _ hx
 refine ⟨b,l[i],h1,by rw [JO];exact hx,h.2 _ (List.getElem_mem _),fun j v hj=>?_⟩
 rw [J0a,Nat.zero_add]
 exact h3 j v hj
theorem J9S {w:World} {L:List Atom} {a:Option Addr} {b n c:Nat} {l:List α} (A:At w L) (hk:∀ x,(enc x).length=k) (i:Nat) (hL:nth L i=some (ow e k enc ok (.slice a n c) l)) (ha:a=some ⟨b,0,none⟩) (hsel:JP L.length [i]=true) (j:Nat) (hj:j < n) (y:α) (hy:ok y) :
 ∃ cur:List Value,w.heap[b]? = some (.cells cur.toArray e (0,0))∧j * k+k≤cur.length∧Mv L w ([ow e k enc ok (.slice a n c) (l.set j y)]++del L [i]) (w.setRow b (Jq cur (j * k) (enc y)).toArray):=by
 subst ha
 have hO:Own e k enc ok w (.slice (some ⟨b,0,none⟩) n c) l:=A.ok _ (Jm hL)
 obtain ⟨rfl,cur,h1,h2,h3,h4,h5⟩:=hO.row
 have hjk:j * k+k≤l.length * k:=by
  have:(j+1) * k≤l.length * k:=Nat.mul_le_mul_right _ hj
  rw [Nat.add_mul] at this;omega
 have hcap:l.length * k≤cur.length:=by rw [h4];exact Nat.mul_le_mul_right _ h2
 refine ⟨cur,h1,zO,A.frame [i] hsel ?_⟩
 have e1:sel L [i]=[ow e k enc ok (.slice (some ⟨b,0,none⟩) l.length c) l]:=by simp [sel,hL]
 rw [e1]
 have hlt:=(Array.getElem?_eq_some_iff.1 h1).1
 have hs:(w.setRow b (Jq cur (j * k) (enc y)).toArray).heap.size=w.heap.size:=by simp [World.setRow]
 have hlen:(Jq cur (j * k) (enc y)).length=cur.length:=by
  have:=hk y
  simp [Jq];omega
 have htk:(Jq cur (j * k) (enc y)).take (l.length * k)=J4 enc (l.set j y):=by
  rw [J9L hk hj,← h5]
  have e3:(enc y).length=k:=hk y
  have e4:cur=cur.take (l.length * k)++cur.drop (l.length * k):=(List.take_append_drop _ _).symm
  have e5:j * k+(enc y).length≤(cur.take (l.length * k)).length:=by rw [e3,List.length_take];omega
  have e6:Jq cur (j * k) (enc y)=Jq (cur.take (l.length * k)) (j * k) (enc y)++cur.drop (l.length * k):=by
   have:=J6D (B:=cur.drop (l.length * k)) e5
   rw [← e4] at this;exact this
  rw [e6]
  have e7:(Jq (cur.take (l.length * k)) (j * k) (enc y)).length=l.length * k:=by rw [J4W e5,List.length_take];omega
  exact List.take_left' e7
 have hO2:Own e k enc ok (w.setRow b (Jq cur (j * k) (enc y)).toArray) (.slice (some ⟨b,0,none⟩) l.length c) (l.set j y):=
  Own.ofRow hk (fun x hx=>by rcases List.mem_or_eq_of_mem_set hx with h|h;exact hO.2 x h;exact h ▸ hy) (by simp) (setRow_heap w b _ _ e _ h1) h2 h3 (by rw [hlen];exact h4) htk
 refine ⟨At.one hO2 (fun q hq=>by have h:some b=some q:=hq;cases h;rw [hs];exact hlt),fun q ⟨B,hB,hq⟩=>by rcases List.mem_singleton.1 hB with rfl;exact .inl ⟨_,List.mem_singleton.2 rfl,hq⟩,⟨rfl,rfl,rfl,by rw [hs];exact Nat.le_refl _,fun q _ hn=>setRow_other w b q _ (fun e=>hn ⟨_,List.mem_singleton.2 rfl,by subst e;rfl⟩)⟩⟩
variable {P:Program} {ops:Array Oper} {Q:Exit→Act→World→Prop} {K:Act→World→Prop} {o:Oper} {a:Act} {w:World} {L:List Atom}
theorem J9q {t:TypeId} {x z:Operand} {g:Bool} {ad:Option Addr} {b n c:Nat} {l:List α} {v:Value} (A:At w L) (i:Nat) (j:Nat) (y:α) (hk:∀ x,(enc x).length=k) (h1:∀ x,∀ u ∈ enc x,u.oneCell'=true) (TT:TI P t g k) (hL:nth L i=some (ow e k enc ok (.slice ad n c) l)) (ha:ad=some ⟨b,0,none⟩) (hok:JP L.length [i]=true)
 (hw:Region.wanted o (yielded ops a.tmps)=true) (hd:o.dst=none) (ho:o.op=.store t x z) (hx:a.eval x=.pointer (some ⟨b,0+j * k,none⟩)) (hz:a.eval z=v) (hv:v.cells.toList=enc y) (hj:j < n) (hy:ok y)
 (kk:∀ w',Mv L w ([ow e k enc ok (.slice ad n c) (l.set j y)]++del L [i]) w'→K a w'):st1 P ops Q o K a w:=by
 obtain ⟨cur,g1,g2,g3⟩:=J9S A hk i hL ha hok j hj y hy
 refine J4K hw hd ?_ (kk _ g3)
 have hst:=run_storeCells_at P b (j * k) e (enc y) 0 cur.toArray w g1 (by rw [hk y];simpa using g2) (h1 y)
 have hsz:v.cells.size=k:=by rw [← hk y,← hv];simp
 simp only [Nat.add_zero] at hst
 simp only [execOp,ho,hx,hz,Nat.zero_add,Instr.storeAt,Instr.sureAddr,storeVar,hv,Sem.run_bind,Sem.run_pure,Result.andThen_ok,J4q TT,hsz,ne_eq,not_true_eq_false,↓reduceIte,hst]
 rfl
end
section
variable {α:Type} {e k:Nat} {enc:α→List Value} {ok:α→Prop}
theorem JeT {l:List α} (hk:∀ x,(enc x).length=k) {j:Nat} (hj:j≤l.length):J4 enc (l.take j)=(J4 enc l).take (j * k):=by
 have h:J4 enc l=J4 enc (l.take j)++J4 enc (l.drop j):=by rw [← J18,List.take_append_drop]
 rw [h,List.take_left' (by rw [J0d hk,List.length_take,Nat.min_eq_left hj])]
theorem Jfx {l ys:List α} {j:Nat} (hk:∀ x,(enc x).length=k) (hj:j+ys.length≤l.length):J4 enc (l.take j++(ys++l.drop (j+ys.length)))=Jq (J4 enc l) (j * k) (J4 enc ys):=by
 have e1:(J4 enc (l.take j)).length=j * k:=by rw [J0d hk,List.length_take];congr 1;omega
 have h3:J4 enc l=J4 enc (l.take j)++(J4 enc ((l.drop j).take ys.length)++J4 enc (l.drop (j+ys.length))):=by
  rw [← J18,← J18,← List.drop_drop,List.take_append_drop,List.take_append_drop]
 rw [J18,J18,h3,← e1]
 refine (J8Y ?_).symm
 rw [J0d hk,J0d hk,List.length_take,List.length_drop];congr 1;omega
theorem Jf1 {w:World} {L:List Atom} {a:Option Addr} {b n c:Nat} {l:List α} (A:At w L) (hk:∀ x,(enc x).length=k) (i:Nat) (hL:nth L i=some (ow e k enc ok (.slice a n c) l)) (ha:a=some ⟨b,0,none⟩) (hsel:JP L.length [i]=true) (j:Nat) (ys:List α) (hj:j+ys.length≤n) (hy:∀ y ∈ ys,ok y) :
 ∃ cur:List Value,w.heap[b]? = some (.cells cur.toArray e (0,0))∧j * k+(J4 enc ys).length≤cur.length∧Mv L w ([ow e k enc ok (.slice a n c) (l.take j++(ys++l.drop (j+ys.length)))]++del L [i]) (w.setRow b (Jq cur (j * k) (J4 enc ys)).toArray):=by
 subst ha
 have hO:Own e k enc ok w (.slice (some ⟨b,0,none⟩) n c) l:=A.ok _ (Jm hL)
 obtain ⟨rfl,cur,h1,h2,h3,h4,h5⟩:=hO.row
 have hf:(J4 enc ys).length=ys.length * k:=J0d hk ys
 have hjk:j * k+ys.length * k≤l.length * k:=by rw [← Nat.add_mul];exact Nat.mul_le_mul_right _ hj
 have hcap:l.length * k≤cur.length:=by rw [h4];exact Nat.mul_le_mul_right _ h2
 refine ⟨cur,h1,zO,A.frame [i] hsel ?_⟩
 have e1:sel L [i]=[ow e k enc ok (.slice (some ⟨b,0,none⟩) l.length c) l]:=by simp [sel,hL]
 rw [e1]
 have hlt:=(Array.getElem?_eq_some_iff.1 h1).1
 have hs:(w.setRow b (Jq cur (j * k) (J4 enc ys)).toArray).heap.size=w.heap.size:=by simp [World.setRow]
 have hlen:(Jq cur (j * k) (J4 enc ys)).length=cur.length:=J4W zO
 have hll:(l.take j++(ys++l.drop (j+ys.length))).length=l.length:=by simp only [List.length_append,List.length_take,List.length_drop];omega
 have htk:(Jq cur (j * k) (J4 enc ys)).take (l.length * k)=J4 enc (l.take j++(ys++l.drop (j+ys.length))):=by
  rw [Jfx hk hj,← h5]
  have e4:cur=cur.take (l.length * k)++cur.drop (l.length * k):=(List.take_append_drop _ _).symm
  have e5:j * k+(J4 enc ys).length≤(cur.take (l.length * k)).length:=by rw [hf,List.length_take];omega
  have e6:Jq cur (j * k) (J4 enc ys)=Jq (cur.take (l.length * k)) (j * k) (J4 enc ys)++cur.drop (l.length * k):=by
   have:=J6D (B:=cur.drop (l.length * k)) e5
   rw [← e4] at this;exact this
  rw [e6]
  have e7:(Jq (cur.take (l.length * k)) (j * k) (J4 enc ys)).length=l.length * k:=by rw [J4W e5,List.length_take];omega
  exact List.take_left' e7
 have hO2:Own e k enc ok (w.setRow b (Jq cur (j * k) (J4 enc ys)).toArray) (.slice (some ⟨b,0,none⟩) l.length c) (l.take j++(ys++l.drop (j+ys.length))):=
  Own.ofRow hk (fun x hx=>by
   rcases List.mem_append.1 hx with h|h
   ·exact hO.2 x (List.mem_of_mem_take h)
   rcases List.mem_append.1 h with h|h
   ·exact hy x h
   exact hO.2 x (List.mem_of_mem_drop h)) hll.symm (setRow_heap w b _ _ e _ h1) h2 h3 (by rw [hlen];exact h4) htk
 refine ⟨At.one hO2 (fun q hq=>by have h:some b=some q:=hq;cases h;rw [hs];exact hlt),fun q ⟨B,hB,hq⟩=>by rcases List.mem_singleton.1 hB with rfl;exact .inl ⟨_,List.mem_singleton.2 rfl,hq⟩,⟨rfl,rfl,rfl,by rw [hs];exact Nat.le_refl _,fun q _ hn=>setRow_other w b q _ (fun e=>hn ⟨_,List.mem_singleton.2 rfl,by subst e;rfl⟩)⟩⟩
theorem J91 {z:Array Value} {y:α} (hk:∀ x,(enc x).length=k) (hz:z.toList=enc y) (hp:0 < k) (n:Nat):(Builtin.zeroCells z n).toList=J4 enc (List.replicate n y):=by
 have hs:z.size=k:=by rw [← hk y,← hz];simp
 apply List.ext_getElem
 ·rw [J0d hk,List.length_replicate];simp [Builtin.zeroCells,hs]
 intro i h1 h2
 have h3:i < n * k:=by simpa [Builtin.zeroCells,hs] using h1
 have hq:i / k < n:=Nat.div_lt_of_lt_mul (by rw [Nat.mul_comm];exact h3)
 have hr:i % k < k:=Nat.mod_lt _ hp
 have he:(List.replicate n y)[i / k]? = some y:=by simp [hq]
 have h4:=J36 hk (List.replicate n y) (i / k) y he (i % k) hr
 have h5:i / k * k+i % k=i:=by rw [Nat.mul_comm];exact Nat.div_add_mod i k
 rw [h5,List.getElem?_eq_getElem h2,← hz] at h4
 have h6:(Builtin.zeroCells z n).toList[i]=z[i % k]!:=by simp [Builtin.zeroCells,hs]
 rw [h6]
 have h7:z.toList[i % k]? = some z[i % k]!:=by
  rw [Array.getElem?_toList,Array.getElem?_eq_getElem zO]
  simp [getElem!_pos,hs,hr]
 rw [h7] at h4
 exact Option.some.inj h4.symm
theorem At.ownAt {w:World} {L:List Atom} {a:Option Addr} {n c:Nat} {l:List α} (A:At w L) (hk:∀ x,(enc x).length=k) (i:Nat) (hL:nth L i=some (ow e k enc ok (.slice a n c) l)) (j:Nat) (hj:j < n) :
 ∃ b x,a=some ⟨b,0,none⟩∧nth l j=some x∧ok x∧∀ q v,(enc x)[q]? = some v→w.cell? ((⟨b,0+j * k,none⟩:Addr).add q)=some v:=Jhw hk (A.ok _ (Jm hL)) j hj
theorem JgD {w:World} {b:Nat} {x:α} (_hk:∀ x,(enc x).length=k) (h:Own e k enc ok w (.slice (some ⟨b,0,none⟩) 1 1) [x]):w.heap[b]? = some (.cells (enc x).toArray e (0,0))∧ok x:=by
 obtain ⟨_,cur,h1,_,_,h4,h5⟩:=h.row
 refine ⟨?_,h.2 x (List.mem_singleton.2 rfl)⟩
 have:cur=enc x:=by
  rw [List.take_of_length_le zO] at h5
  rw [h5];simp [J4]
 rw [h1,this]
theorem JgC {w:World} {L:List Atom} {a:Option Addr} {n c:Nat} {l:List α} (A:At w L) (i:Nat) (hL:nth L i=some (ow e k enc ok (.slice a n c) l)) (hn:0 < n):∃ b,a=some ⟨b,0,none⟩∧n≤c:=by
 have hO:Own e k enc ok w (.slice a n c) l:=A.ok _ (Jm hL)
 obtain ⟨⟨g1,g2⟩,_⟩:=hO
 rcases g2 with ⟨h,h0⟩|⟨g,cap,cur,h,_,_,hc,_⟩
 ·cases h;omega
 cases h;exact ⟨_,rfl,hc⟩
end
section
variable {P:Program} {ops:Array Oper} {Q:Exit→Act→World→Prop} {K:Act→World→Prop} {o:Oper} {a:Act} {w:World} {L:List Atom} {d n:Nat} {m:List (Nat × Value)}
variable {α:Type} {e k bytes:Nat} {z:Value} {enc:α→List Value} {ok:α→Prop} {t:TypeId}
theorem JfO {x:Operand} {b q c lo:Nat} {ad:Option Addr} {l h:Option Operand} (E:ElemT P t e z k bytes enc) (ho:o.op=.slice t x l h none) (hx:a.eval x=.slice ad q c) (ha:ad=some ⟨b,0,none⟩) (hlo:J1H a.eval 0 l lo) (hhi:J1H a.eval q h q) (h1:lo < q) (h2:q≤c) :
 (execOp a.eval o).run P w=.ok (.value (.slice (some ⟨b,0+lo * k,none⟩) (q - lo) (c - lo))) w:=by
 subst ha
 have:=J76 (w:=w) (l:=lo) (h:=q) E ho hx hlo hhi zO h2
 rw [if_neg zO] at this
 exact this
theorem Jhd {x:Operand} {b:Option Addr} {q c:Nat} {l:List α} {lo hi:Option Operand} (F:Fr n m a) (A:At w L) (i j:Nat) (E:ElemT P t e z k bytes enc) (hL:nth L i=some (ow e k enc ok (.slice b q c) l)) (hsel:JP L.length [i]=true)
 (hw:Region.wanted o (yielded ops a.tmps)=true) (hd:o.dst=some d) (ho:o.op=.slice t x lo hi none) (hp:Nat.blt d n=true) (hx:a.eval x=.slice b q c) (hlo:J1H a.eval 0 lo 0) (hhi:J1H a.eval q hi j) (h2:j≤q)
 (kk:∀ ac',Fr n ((d,.slice b j c)::m) ac'→Mv L w ([ow e k enc ok (.slice b j c) (l.take j)]++del L [i]) w→K ac' w):st1 P ops Q o K a w:=by
 have hO:Own e k enc ok w (.slice b q c) l:=A.ok _ (Jm hL)
 have hrun:(execOp a.eval o).run P w=.ok (.value (.slice b j c)) w∧Own e k enc ok w (.slice b j c) (l.take j):=by
  have hR:=hO.rd E.hk
  cases b with
  | none=>
   obtain ⟨a',cap,e1,_,_,_,h4⟩:=hR.inv
   cases e1
   obtain ⟨hl,hc⟩:=h4 rfl
   subst hl hc
   simp only [List.length_nil] at h2
   obtain rfl:j=0:=by omega
   obtain ⟨inf,q1,_⟩:=info_parts E.hT.info
   exact ⟨J8V E.ht ⟨inf,q1⟩ ho hx (by cases lo with|none=>trivial|some p=>exact hlo) (by cases hi with|none=>trivial|some p=>exact hhi),by simpa using hO⟩
  | some ad=>
   obtain ⟨g,rfl⟩:∃ g,ad=⟨g,0,none⟩:=by
    obtain ⟨⟨_,h⟩,_⟩:=hO
    rcases h with ⟨h,_⟩|⟨g,_,_,h,_⟩
    ·cases h
    cases h;exact ⟨_,rfl⟩
   obtain ⟨rfl,cur,h1,h3,h4,h5,h6⟩:=hO.row
   have hr:=J76 (w:=w) (l:=0) (h:=j) E ho hx hlo hhi (Nat.zero_le _) zO
   refine ⟨?_,Own.ofRow E.hk (fun x hx=>hO.2 x (List.mem_of_mem_take hx)) (by rw [List.length_take];omega) h1 zO h4 h5 ?_⟩
   ·rw [hr];congr 3
    split <;> simp
   rw [JeT E.hk h2,← h6,List.take_take,Nat.min_eq_left (Nat.mul_le_mul_right _ h2)]
 refine J7K hw hd hrun.1 fun _ e'=>kk _ (F.put e' hp) (A.frame [i] hsel ?_)
 have e1:sel L [i]=[ow e k enc ok (.slice b q c) l]:=by simp [sel,hL]
 rw [e1]
 refine J6I hrun.2 (KeepBut.refl _ _) (fun g hg=>.inl ?_)
 cases b with
 | none=>simp [Value.ownBlock] at hg
 | some _=>exact hg
theorem JgO {x:Operand} {b q c c' lo:Nat} {ad:Option Addr} {l:List α} (y:α) (A:At w L) (i:Nat) (E:ElemT P t e z k bytes enc) (hL:nth L i=some (ow e k enc ok (.slice ad q c) l)) (ha:ad=some ⟨b,0,none⟩) (hsel:JP L.length [i]=true)
 (hw:Region.wanted o (yielded ops a.tmps)=true) (hd:o.dst=none) (ho:o.op=.call { callee:=.builtin .clear,args:=#[x],argTypes:=#[t] }) (hx:a.eval x=.slice (some ⟨b,0+lo * k,none⟩) (q - lo) c') (hlo:lo < q) (hz:z.cells.toList=enc y) (hy:ok y)
 (kk:∀ w',Mv L w ([ow e k enc ok (.slice ad q c) (l.take lo++List.replicate (q - lo) y)]++del L [i]) w'→K a w'):st1 P ops Q o K a w:=by
 have hq:q=l.length:=by
  have hO:Own e k enc ok w (.slice ad q c) l:=A.ok _ (Jm hL)
  subst ha
  exact hO.row.1
 obtain ⟨cur,g1,g2,g3⟩:=Jf1 A E.hk i hL ha hsel lo (List.replicate (q - lo) y) (by rw [List.length_replicate];omega) (fun u hu=>by rw [List.eq_of_mem_replicate hu];exact hy)
 have e2:l.drop (lo+(List.replicate (q - lo) y).length)=[]:=List.drop_eq_nil_of_le (by rw [List.length_replicate];omega)
 rw [e2,List.append_nil] at g3
 have hk':=kk _ g3
 have hzf:=J91 E.hk hz E.hT.pos (q - lo)
 have hst:=run_storeCells_at P b (lo * k) e (J4 enc (List.replicate (q - lo) y)) 0 cur.toArray w g1 (by simpa using g2) (J3v E _)
 obtain ⟨p,hp⟩:∃ p,q - lo=p+1:=⟨q - lo - 1,zO⟩
 obtain ⟨inf,q1,q2,q3,q4⟩:=info_parts E.hT.info
 have hzv:(zeroValue e).run P w=.ok z w:=by simp [zeroValue,typeInfo,q1,q2]
 simp only [Nat.add_zero] at hst
 rw [hp] at hx hst hzf hk'
 have hb:∀ ty,(Builtin.clear_ #[t] ty #[.slice (some ⟨b,0+lo * k,none⟩) (p+1) c']).run P w=.ok (.tuple #[]) (w.setRow b (Jq cur (lo * k) (J4 enc (List.replicate (p+1) y))).toArray):=fun ty=>by
  simp [Builtin.clear_,run_underlying E.ht,hzv,hzf,hst,Jq]
 unfold st1
 rw [if_pos hw]
 refine .inl ?_
 unfold Oper.wp
 have he:(execOp a.eval o).run P w=.ok (.value (.tuple #[])) (w.setRow b (Jq cur (lo * k) (J4 enc (List.replicate (p+1) y))).toArray):=by
  have h0:∀ ats ty cs args,builtin .clear ats ty cs args=(do pure (.value (← Builtin.clear_ ats ty args))):=fun _ _ _ _=>rfl
  rw [Nat.zero_add] at hx hb
  simp [execOp,ho,resolve,invoke,hx,h0,hb]
 rw [he,Oper.upon_value,hd]
 exact hk'
end
end Go.Proofs.YtipdbeklopjbmaaGreatDoor
