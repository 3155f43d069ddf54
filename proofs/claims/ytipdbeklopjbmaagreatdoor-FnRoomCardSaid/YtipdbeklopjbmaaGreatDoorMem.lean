/-
  Laws for owned slices of plain elements of k cells: append, copy, make, a store; each says what the owned slice reads as behind it and which block may have turned. No program function is named here.
-/
import Derived.Test.YtipdbeklopjbmaaGreatDoorBase
import Derived.Lib.AppendZeros
import Derived.Lib.AppendZerosOnto
import Derived.Lib.Overlaps
import Derived.Deep.RegionHeld3
import Derived.Deep.RegionLaw
import Derived.Laws.AppendOwnNone
set_option linter.unusedVariables false
set_option linter.unusedSimpArgs false
namespace Go.Proofs.YtipdbeklopjbmaaGreatDoor
open Go.ChangeShapes Go.WideShapes Go.ChangeAt Go.RowKit
theorem Calls.sl {P:Program} {f:FuncId} {args:Array Value} {w:World} {Q:Value→World→Prop} (h:Calls P f args w fun e w'=>∃ v',e=.returned v'∧Q v' w') (hs:∀ v w',Q v w'→∃ a n cap,v=.slice a n cap) :
 Calls P f args w fun e w'=>∃ a n cap,e=.returned (.slice a n cap)∧Q (.slice a n cap) w':=
 h.mono fun e w' ⟨v,he,hq⟩=>by
  obtain ⟨a,n,cap,rfl⟩:=hs v w' hq
  exact ⟨a,n,cap,he,hq⟩
theorem Own.isSl {α:Type} {e k:Nat} {enc:α→List Value} {ok:α→Prop} {w:World} {v:Value} {l:List α} (h:Own e k enc ok w v l):∃ a n cap,v=.slice a n cap:=by
 rcases h.1.2 with ⟨rfl,_⟩|⟨g,cap,cur,rfl,_⟩
 ·exact ⟨_,_,_,rfl⟩
 exact ⟨_,_,_,rfl⟩
structure TInfo (P:Program) (e:TypeId) (z:Value) (k bytes:Nat):Prop where
 info:(P.info? e).map (fun i=>(i.zero,i.size,i.bytes))=some (some z,k,bytes)
 zs:z.cells.size=k
 pos:0 < k
def Moved (w:World) (v v':Value):Prop:=∀ b ∈ v'.ownBlock.toList,b ∈ v.ownBlock.toList∨w.heap.size≤b
theorem Moved.refl (w:World) (v:Value):Moved w v v:=fun _ h=>.inl h
theorem Moved.trans {a b:World} {u v x:Value} (h:Moved a u v) (k:Moved b v x) (hs:a.heap.size≤b.heap.size):Moved a u x:=fun c hc=>(k c hc).elim (h c) (fun h=>.inr zO)
theorem Moved.mono {a b:World} {v x:Value} (h:Moved b v x) (hs:a.heap.size≤b.heap.size):Moved a v x:=fun c hc=>(h c hc).elim .inl (fun h=>.inr zO)
theorem KeepBut.after {S:List Nat} {a b c:World} (k:KeepBut S b c) (h:Bl a b):KeepBut S a c:=(h.keep S).trans k fun _ hx=>.inl hx
theorem Moved.fresh {w:World} {v v':Value} (h:Moved w v v') {n:Nat} (hn:n≤w.heap.size) (hv:∀ b ∈ v.ownBlock.toList,n≤b):∀ b ∈ v'.ownBlock.toList,n≤b:=fun b hb=>(h b hb).elim (hv b) (fun h=>by omega)
section
variable {P:Program} {w:World} {α:Type} {e k bytes:Nat} {z:Value} {enc:α→List Value} {ok:α→Prop}
theorem J6i {v:Value} {n base base':Nat} {xs:List Value} (h:w.ownsRow base e k v n xs) (hb:∀ b ∈ v.ownBlock.toList,base'≤b):w.ownsRow base' e k v n xs:=by
 refine ⟨h.1,?_⟩
 rcases h.2 with hn|⟨g,cap,cur,rfl,_,rest⟩
 ·exact .inl hn
 exact .inr ⟨g,cap,cur,rfl,hb g yBw,rest⟩
theorem JcV (t ty:TypeId) (ht:P.underlying t=some (.slice e)) (hT:TInfo P e z k bytes)
 (v:Value) (n:Nat) (xs:List Value) (hown:w.ownsRow 0 e k v n xs)
 (a:Addr) (m c:Nat) (news:List Value) (hl:news.length=m * k) (hnews:∀ j u,news[j]? = some u→w.cell? (a.add j)=some u) (h1:∀ u ∈ news,u.oneCell'=true)
 (hbytes:(n+m) * bytes≤140737488355328) (hby:0 < bytes) :
 ∃ v' w',(Builtin.append_ #[t,t] ty #[v,.slice (some a) m c]).run P w=.ok v' w'∧w'.ownsRow 0 e k v' (n+m) (xs++news)∧KeepBut v.ownBlock.toList w w'∧Moved w v v'∧(v'=.slice none 0 0 ↔ v=.slice none 0 0∧m=0):=by
 obtain ⟨i,hi,hz0,hz1,hz2⟩:=info_parts hT.info
 have h63:n+m≤maxLen:=by
  have:(n+m) * 1≤(n+m) * bytes:=Nat.mul_le_mul_left _ hby
  unfold maxLen;omega
 have keep:∀ {w':World},w.grownBy w' v.ownBlock→KeepBut v.ownBlock.toList w w':=fun hg=>(KeepBut.refl _ w).grown hg (fun k hk=>.inl (by simp [hk]))
 rcases hown.2 with ⟨rfl,rfl⟩|⟨g,cap,cur,rfl,hb0,hg,hc,hm,hs,htk⟩
 ·have hown':w.ownsRow w.heap.size e k (.slice none 0 0) 0 xs:=J6i hown yBw
  obtain ⟨v',w',hr,h2,h3,h4⟩:=run_append_own (P:=P) w w.heap.size t ty e i z k bytes ht hi hz0 hz1 hz2 hT.zs hT.pos _ 0 xs hown' a m c news hl hnews h1 h63 hbytes (Nat.le_refl _)
  refine ⟨v',w',hr,J6i h2 (by simp),keep h3,fun b hb=>.inr ?_,h4⟩
  exact (h2.lt b (by cases hv:v'.ownBlock <;> simp_all)).1
 by_cases hroom:n+m≤cap
 ·obtain ⟨v',w',hr,h2,h3,h4⟩:=run_append_own (P:=P) w 0 t ty e i z k bytes ht hi hz0 hz1 hz2 hT.zs hT.pos _ n xs hown a m c news hl hnews h1 h63 hbytes (Nat.zero_le _)
  have hfit:n * i.size+news.length≤cur.size:=by rw [hl,hs,hz1,← Nat.add_mul];exact Nat.mul_le_mul_right _ hroom
  have hr2:=run_append_room (P:=P) w t ty e i ht hi g n cap cur hg a m c news (by rw [hl,hz1]) hnews h1 hroom hfit
  rw [hr2] at hr
  cases hr
  exact ⟨_,_,hr2,h2,keep h3,Moved.refl _ _,h4⟩
 have hcells:∀ j u,xs[j]? = some u→w.cell? ((⟨g,0,none⟩:Addr).add j)=some u:=hown.cells (g:=g) rfl
 have hr:=run_append_grow (P:=P) w t ty e i z ht hi hz0 ⟨g,0,none⟩ n cap xs (by rw [hown.1,hz1]) hcells a m c news (by rw [hl,hz1]) hnews zO (by unfold maxLen at h63;omega) (by rw [hz2];exact growslice_fits zO hbytes)
 obtain ⟨v',w',hr',h2,h3,h4⟩:=run_append_own (P:=P) w 0 t ty e i z k bytes ht hi hz0 hz1 hz2 hT.zs hT.pos _ n xs hown a m c news hl hnews h1 h63 hbytes (Nat.zero_le _)
 rw [hr] at hr'
 cases hr'
 exact ⟨_,_,hr,h2,keep h3,fun b hb=>.inr (by simp [Value.ownBlock] at hb;omega),h4⟩
structure ElemT (P:Program) (t e:TypeId) (z:Value) (k bytes:Nat) (enc:α→List Value):Prop where
 ht:P.underlying t=some (.slice e)
 hT:TInfo P e z k bytes
 hk:∀ x,(enc x).length=k
 h1:∀ x,∀ u ∈ enc x,u.oneCell'=true
 by0:0 < bytes
theorem J3v {t:TypeId} (E:ElemT P t e z k bytes enc) (l:List α):∀ u ∈ J4 enc l,u.oneCell'=true:=by
 intro u hu
 simp only [J4,List.mem_flatMap] at hu
 obtain ⟨x,_,hx⟩:=hu
 exact E.h1 x u hx
theorem J0a (b off j:Nat):(Addr.add ⟨b,off,none⟩ j)=⟨b,off+j,none⟩:=by
 unfold Addr.add
 split
 ·rename_i h;simp []
 rfl
theorem RSl.cells {v:Value} {l:List α} (hk:∀ x,(enc x).length=k) (hk0:0 < k) (h:RSl k (Enc enc ok) w v l) :
 (∃ cap,v=.slice none 0 cap∧l=[])∨∃ a cap,v=.slice (some a) l.length cap∧∀ j u,(J4 enc l)[j]? = some u→w.cell? (a.add j)=some u:=by
 obtain ⟨a,cap,rfl,h1,h2,h3,h4⟩:=h.1
 cases a with
 | none=>obtain ⟨rfl,rfl⟩:=h3 rfl;exact .inl ⟨0,rfl,rfl⟩
 | some a=>
  refine .inr ⟨a,cap,rfl,fun j u hj=>?_⟩
  have hlen:=J0d hk l
  have hj':j < l.length * k:=by rw [← hlen];exact (List.getElem?_eq_some_iff.1 hj).1
  have hl:0 < l.length:=by
   rcases Nat.eq_zero_or_pos l.length with h|h
   ·rw [h] at hj';omega
   exact h
  obtain ⟨b,off,e,hc⟩:=h4 hl
  cases e
  have hi:j / k < l.length:=by rw [Nat.div_lt_iff_lt_mul hk0];exact hj'
  have hx:l[j / k]? = some l[j / k]:=by simp [hi]
  obtain ⟨row,g1,⟨rfl,g2⟩,g3⟩:=hc (j / k) _ hx
  have:=J36 hk l (j / k) _ hx (j % k) (Nat.mod_lt _ hk0)
  rw [Nat.mul_comm,Nat.div_add_mod,hj] at this
  have:=g3 (j % k) u this.symm
  rw [J0a]
  rw [Nat.add_assoc,Nat.mul_comm (j / k) k,Nat.div_add_mod] at this
  exact this
theorem RSl.allOk {v:Value} {l:List α} (h:RSl k (Enc enc ok) w v l):∀ x ∈ l,ok x:=by
 intro x hx
 obtain ⟨a,cap,rfl,h1,h2,h3,h4⟩:=h.1
 obtain ⟨i,hi,rfl⟩:=List.mem_iff_getElem.1 hx
 obtain ⟨b,off,rfl,hc⟩:=h4 zO
 obtain ⟨row,_,⟨_,h⟩,_⟩:=hc i l[i] (by simp [hi])
 exact h
theorem JaB {t:TypeId} (E:ElemT P t e z k bytes enc) (ty:TypeId) (v xv:Value) (l news:List α) (hown:Own e k enc ok w v l) (hx:RSl k (Enc enc ok) w xv news) (hbytes:(l.length+news.length) * bytes≤140737488355328) :
 ∃ v' w',(Builtin.append_ #[t,t] ty #[v,xv]).run P w=.ok v' w'∧Own e k enc ok w' v' (l++news)∧KeepBut v.ownBlock.toList w w'∧Moved w v v'∧(v'=.slice none 0 0→v=.slice none 0 0∧news=[]):=by
 have hok:∀ x ∈ l++news,ok x:=fun x hx'=>(List.mem_append.1 hx').elim (hown.2 x) (hx.allOk x)
 rcases hx.cells E.hk E.hT.pos with ⟨cap,rfl,rfl⟩|⟨a,cap,rfl,hc⟩
 ·obtain ⟨i,hi,hz0,hz1,hz2⟩:=info_parts E.hT.info
  refine ⟨v,w,?_,by simpa using hown,KeepBut.refl _ _,Moved.refl _ _,fun h=>⟨h,rfl⟩⟩
  have hcap:cap=0:=by
   obtain ⟨a',cap',e,_,_,h3,_⟩:=hx.1
   cases e
   exact (h3 rfl).2
  subst hcap
  exact run_append_owned_none (P:=P) (w:=w) 0 t ty e i k E.ht hi v l.length (J4 enc l) hown.1
 obtain ⟨v',w',hr,h2,h3,h4,h5⟩:=JcV (P:=P) t ty E.ht E.hT v l.length (J4 enc l) hown.1 a news.length cap (J4 enc news) (J0d E.hk news) hc (J3v E news) hbytes E.by0
 refine ⟨v',w',hr,⟨?_,hok⟩,h3,h4,fun h=>?_⟩
 ·rw [List.length_append,J18];exact h2
 obtain ⟨g1,g2⟩:=h5.1 h
 exact ⟨g1,List.eq_nil_of_length_eq_zero g2⟩
theorem Ji7 {t:TypeId} (E:ElemT P t e z k bytes enc) {o:Oper} {a:Act} {K:Act→World→Prop} {Q:Exit→Act→World→Prop} (s x:Operand)
 (ho:o.op=.call { callee:=.builtin .append,args:=#[s,x],argTypes:=#[t,t] }) (v xv:Value) (l news:List α) (hs:a.eval s=v) (hx:a.eval x=xv)
 (hown:Own e k enc ok w v l) (hnews:RSl k (Enc enc ok) w xv news) (hbytes:(l.length+news.length) * bytes≤140737488355328)
 (h:∀ v' w',Own e k enc ok w' v' (l++news)→KeepBut v.ownBlock.toList w w'→Moved w v v'→(v'=.slice none 0 0→v=.slice none 0 0∧news=[])→K (a.put o.dst v') w'):o.wp P a w K Q:=by
 obtain ⟨v',w',hr,h2,h3,h4,h5⟩:=JaB (P:=P) E o.type v xv l news hown hnews hbytes
 unfold Oper.wp execOp
 simp only [ho,resolve,invoke,builtin,Sem.run_bind,Sem.run_pure,Result.andThen_ok,List.map_toArray,List.map_cons,List.map_nil,hs,hx,hr]
 exact h v' w' h2 h3 h4 h5
theorem J3S {t:TypeId} (E:ElemT P t e z k bytes enc) {ops:Array Oper} {rest:List Oper} {o:Oper} {a:Act} {Q:Exit→Act→World→Prop} (hgd:o.guard=none) (s x:Operand)
 (ho:o.op=.call { callee:=.builtin .append,args:=#[s,x],argTypes:=#[t,t] }) (v xv:Value) (l news:List α) (hs:a.eval s=v) (hx:a.eval x=xv)
 (hown:Own e k enc ok w v l) (hnews:RSl k (Enc enc ok) w xv news) (hbytes:(l.length+news.length) * bytes≤140737488355328)
 (h:∀ v' w',Own e k enc ok w' v' (l++news)→KeepBut v.ownBlock.toList w w'→Moved w v v'→(v'=.slice none 0 0→v=.slice none 0 0∧news=[])→wpList P ops Q rest (a.put o.dst v') w'):wpList P ops Q (o::rest) a w:=
 wpList_plain hgd fun _ hK=>Ji7 E s x ho v xv l news hs hx hown hnews hbytes fun v' w' h2 h3 h4 h5=>hK _ _ (h v' w' h2 h3 h4 h5)
theorem Jf3 (w:World) (e k:TypeId) (enc:α→List Value) (ok:α→Prop):Own e k enc ok (w.alloc (.cells #[] e)) (.slice (some ⟨w.heap.size,0,none⟩) 0 0) []:=
 ⟨World.ownsRow_made (base:=0) w #[] 0 (Nat.zero_le _) (by unfold maxLen;omega) (by simp),by simp⟩
theorem J75 (w:World) (e k:TypeId) (enc:α→List Value) (ok:α→Prop):Own e k enc ok w (.slice none 0 0) []:=⟨World.ownsRow_nil _ _ _ _,by simp⟩
theorem Jff (w:World) (x:α) (cs:Array Value) (hcs:cs.toList=enc x) (hl:(enc x).length=k) (hok:ok x):RSl k (Enc enc ok) (w.alloc (.cells cs e)) (.slice (some ⟨w.heap.size,0,none⟩) 1 1) [x]:=by
 refine RSl.mk w.heap.size 0 1 rfl (Nat.le_refl _) (by unfold maxLen;omega) fun i y hy=>?_
 cases i with
 | succ i=>simp at hy
 | zero=>
  simp at hy;subst hy
  refine ⟨enc x,hl,⟨rfl,hok⟩,fun j u hj=>?_⟩
  simp only [Nat.zero_mul,Nat.zero_add]
  rw [World.cell?_alloc_new,← hj,← hcs];simp
theorem Own.cellAt {a:Option Addr} {n cap:Nat} {l:List α} (hk:∀ x,(enc x).length=k) (h:Own e k enc ok w (.slice a n cap) l) (i:Nat) (x:α) (hx:l[i]? = some x) :
 ∃ b,a=some ⟨b,0,none⟩∧n=l.length∧(∀ j u,(enc x)[j]? = some u→w.cell? ⟨b,i * k+j,none⟩=some u)∧(∀ o,w.frozen? ⟨b,o,none⟩=false)∧b < w.heap.size:=by
 have hrd:=h.rd hk
 obtain ⟨⟨g1,g2⟩,g3⟩:=h
 have hi:i < l.length:=(List.getElem?_eq_some_iff.1 hx).1
 rcases g2 with ⟨h,h0⟩|⟨g,cap',cur,h,hb0,hg,hc,hm,hs,ht⟩
 ·omega
 cases h
 obtain ⟨a',c',e,_,_,_,h4⟩:=hrd.1
 cases e
 obtain ⟨b,off,e,hc⟩:=h4 zO
 cases e
 obtain ⟨row,_,⟨rfl,_⟩,r3⟩:=hc i x hx
 refine ⟨g,rfl,rfl,fun j u hj=>by simpa using r3 j u hj,fun o=>by simp only [World.frozen?,hg];simp,(Array.getElem?_eq_some_iff.1 hg).1⟩
end
def spl (L:List Value) (o:Nat) (cs:List Value):List Value:=L.take o++(cs++L.drop (o+cs.length))
theorem J3R (L:List Value) (o:Nat) (cs:List Value) (h:o+cs.length≤L.length):(spl L o cs).length=L.length:=by simp [spl];omega
section
variable {P:Program} {w:World}
theorem Jet (dT sT ty elem k:Nat) (hu:P.underlying dT=some (.slice elem)) (hsz:(P.info? elem).map (·.size)=some k) (g o dLen dCap:Nat) (a:Addr) (sLen sCap:Nat) (cur:List Value) (t:TypeId)
 (hg:w.heap[g]? = some (.cells cur.toArray t (0,0))) (q:Nat) (hq:q=Nat.min sLen dLen) (cs:List Value) (hn:cs.length=q * k)
 (hsrc:∀ j v,cs[j]? = some v→w.cell? (a.add j)=some v) (hfit:o+cs.length≤cur.length) (h1:∀ v ∈ cs,v.oneCell'=true) :
 (Builtin.copy_ #[dT,sT] ty #[.slice (some ⟨g,o,none⟩) dLen dCap,.slice (some a) sLen sCap]).run P w=.ok (goInt q) (w.setRow g (spl cur o cs).toArray):=by
 have hst:=run_storeCells_at P g o t cs 0 cur.toArray w hg (by simpa using hfit) h1
 cases hq':P.info? elem with
 | none=>simp [hq'] at hsz
 | some i=>
  have hi:i.size=k:=by simpa [hq'] using hsz
  have hl:=run_firstCells_some (P:=P) w k q a sLen sCap cs hn hsrc
  simp only [Nat.add_zero,List.append_assoc] at hst
  simp [Builtin.copy_,run_underlying hu,Builtin.lenOf,sizeOf,typeInfo,hq',hi,← hq,hl,hst,spl]
theorem J9y {o:Oper} {a:Act} {K:Act→World→Prop} {Q:Exit→Act→World→Prop} (d s:Operand) (dT sT:TypeId)
 (ho:o.op=.call { callee:=.builtin .copy,args:=#[d,s],argTypes:=#[dT,sT] }) (elem k:Nat) (hu:P.underlying dT=some (.slice elem)) (hsz:(P.info? elem).map (·.size)=some k)
 (g of dLen dCap:Nat) (ad:Addr) (sLen sCap:Nat) (hd:a.eval d=.slice (some ⟨g,of,none⟩) dLen dCap) (hs:a.eval s=.slice (some ad) sLen sCap)
 (cur:List Value) (t:TypeId) (hg:w.heap[g]? = some (.cells cur.toArray t (0,0))) (q:Nat) (hq:q=Nat.min sLen dLen) (cs:List Value) (hn:cs.length=q * k)
 (hsrc:∀ j v,cs[j]? = some v→w.cell? (ad.add j)=some v) (hfit:of+cs.length≤cur.length) (h1:∀ v ∈ cs,v.oneCell'=true)
 (h:∀ w',Hid (w'.heap[g]? = some (.cells (spl cur of cs).toArray t (0,0)))→KeepBut [g] w w'→K (a.put o.dst (goInt q)) w'):o.wp P a w K Q:=by
 have hr:=Jet (P:=P) (w:=w) dT sT o.type elem k hu hsz g of dLen dCap ad sLen sCap cur t hg q hq cs hn hsrc hfit h1
 unfold Oper.wp execOp
 simp only [ho,resolve,invoke,builtin,Sem.run_bind,Sem.run_pure,Result.andThen_ok,List.map_toArray,List.map_cons,List.map_nil,hd,hs,hr]
 exact h _ (setRow_heap w g _ _ t _ hg) ⟨rfl,rfl,rfl,by simp [World.setRow],fun k _ hk=>setRow_other w g k _ (by simpa using hk)⟩
theorem J4Z {ops:Array Oper} {rest:List Oper} {o:Oper} {a:Act} {Q:Exit→Act→World→Prop} (hgd:o.guard=none) (d s:Operand) (dT sT:TypeId)
 (ho:o.op=.call { callee:=.builtin .copy,args:=#[d,s],argTypes:=#[dT,sT] }) (elem k:Nat) (hu:P.underlying dT=some (.slice elem)) (hsz:(P.info? elem).map (·.size)=some k)
 (g of dLen dCap:Nat) (ad:Addr) (sLen sCap:Nat) (hd:a.eval d=.slice (some ⟨g,of,none⟩) dLen dCap) (hs:a.eval s=.slice (some ad) sLen sCap)
 (cur:List Value) (t:TypeId) (hg:w.heap[g]? = some (.cells cur.toArray t (0,0))) (q:Nat) (hq:q=Nat.min sLen dLen) (cs:List Value) (hn:cs.length=q * k)
 (hsrc:∀ j v,cs[j]? = some v→w.cell? (ad.add j)=some v) (hfit:of+cs.length≤cur.length) (h1:∀ v ∈ cs,v.oneCell'=true)
 (h:∀ w',Hid (w'.heap[g]? = some (.cells (spl cur of cs).toArray t (0,0)))→KeepBut [g] w w'→wpList P ops Q rest (a.put o.dst (goInt q)) w'):wpList P ops Q (o::rest) a w:=
 wpList_plain hgd fun _ hK=>J9y d s dT sT ho elem k hu hsz g of dLen dCap ad sLen sCap hd hs cur t hg q hq cs hn hsrc hfit h1 fun w' h2 h3=>hK _ _ (h w' h2 h3)
theorem J57 {ops:Array Oper} {o:Oper} {a:Act} {K:Act→World→Prop} {Q:Exit→Act→World→Prop} {X:Prop} (hgd:o.guard=none) (d s:Operand) (dT sT:TypeId)
 (ho:o.op=.call { callee:=.builtin .copy,args:=#[d,s],argTypes:=#[dT,sT] }) (elem k:Nat) (hu:P.underlying dT=some (.slice elem)) (hsz:(P.info? elem).map (·.size)=some k)
 (g of dLen dCap:Nat) (ad:Addr) (sLen sCap:Nat) (hd:a.eval d=.slice (some ⟨g,of,none⟩) dLen dCap) (hs:a.eval s=.slice (some ad) sLen sCap)
 (cur:List Value) (t:TypeId) (hg:w.heap[g]? = some (.cells cur.toArray t (0,0))) (q:Nat) (hq:q=Nat.min sLen dLen) (cs:List Value) (hn:cs.length=q * k)
 (hsrc:∀ j v,cs[j]? = some v→w.cell? (ad.add j)=some v) (hfit:of+cs.length≤cur.length) (h1:∀ v ∈ cs,v.oneCell'=true)
 (h:∀ w',Hid (w'.heap[g]? = some (.cells (spl cur of cs).toArray t (0,0)))→KeepBut [g] w w'→K (a.put o.dst (goInt q)) w') :
 if Region.wanted o (yielded ops a.tmps)=true then Oper.wp P o a w K Q else X:=by
 have hw:Region.wanted o (yielded ops a.tmps)=true:=by simp [Region.wanted,hgd]
 rw [if_pos hw]
 exact J9y d s dT sT ho elem k hu hsz g of dLen dCap ad sLen sCap hd hs cur t hg q hq cs hn hsrc hfit h1 h
end
theorem Own.row {α:Type} {e k:Nat} {enc:α→List Value} {ok:α→Prop} {w:World} {g n cap:Nat} {l:List α} (h:Own e k enc ok w (.slice (some ⟨g,0,none⟩) n cap) l) :
 n=l.length∧∃ cur:List Value,w.heap[g]? = some (.cells cur.toArray e (0,0))∧n≤cap∧cap≤maxLen∧cur.length=cap * k∧cur.take (n * k)=J4 enc l:=by
 obtain ⟨⟨g1,g2⟩,g3⟩:=h
 rcases g2 with ⟨h,_⟩|⟨g',cap',cur,h,hb0,hg,hc,hm,hs,ht⟩
 ·cases h
 cases h
 exact ⟨rfl,cur.toList,by simpa using hg,hc,hm,by simpa using hs,ht⟩
theorem Own.ofRow {α:Type} {e k:Nat} {enc:α→List Value} {ok:α→Prop} {w:World} {g n cap:Nat} {l:List α} {cur:List Value} (hk:∀ x,(enc x).length=k) (hok:∀ x ∈ l,ok x) (hl:n=l.length) (hg:w.heap[g]? = some (.cells cur.toArray e (0,0)))
 (hc:n≤cap) (hm:cap≤maxLen) (hs:cur.length=cap * k) (ht:cur.take (n * k)=J4 enc l):Own e k enc ok w (.slice (some ⟨g,0,none⟩) n cap) l:=by
 subst hl
 exact ⟨⟨J0d hk l,.inr ⟨g,cap,cur.toArray,rfl,Nat.zero_le _,hg,hc,hm,by simpa using hs,by simpa using ht⟩⟩,hok⟩
theorem J85 {P:Program} {w:World} {α:Type} {e k bytes:Nat} {z:Value} {enc:α→List Value} {t tn:TypeId} (E:ElemT P t e z k bytes enc) (htn:P.underlying tn=some (.int .i64)) {ops:Array Oper} {rest:List Oper} {o:Oper} {a:Act} {Q:Exit→Act→World→Prop} (hgd:o.guard=none) (s x:Operand)
 (ho:o.op=.call { callee:=.builtin .append,args:=#[s,x],argTypes:=#[t,tn] }) (ad:Addr) (sLen sCap n:Nat) (X:Int) (hX:X=n) (hs:a.eval s=.slice (some ad) sLen sCap) (hx:a.eval x=.int .i64 X)
 (olds:List Value) (hol:olds.length=sLen * k) (hold:∀ j v,olds[j]? = some v→w.cell? (ad.add j)=some v) (hn:0 < n) (hg:sCap < sLen+n) (hbytes:(sLen+n) * bytes≤140737488355328)
 (h:∀ (G:Nat) (Z:List Value) (w':World),sLen+n≤G→G≤maxLen→Z.length=(G - sLen) * k→Hid (w'.heap[w.heap.size]? = some (.cells (olds++Z).toArray e (0,0)))→Bl w w' →
  wpList P ops Q rest (a.put o.dst (.slice (some ⟨w.heap.size,0,none⟩) (sLen+n) G)) w'):wpList P ops Q (o::rest) a w:=by
 obtain ⟨i,hi,hz0,hz1,hz2⟩:=info_parts E.hT.info
 have h63:sLen+n≤maxLen:=by
  have:(sLen+n) * 1≤(sLen+n) * bytes:=Nat.mul_le_mul_left _ E.by0
  unfold maxLen;omega
 have hb2:n * bytes≤(sLen+n) * bytes:=Nat.mul_le_mul_right _ zO
 have hr:=Lib.run_append_grow_zeros w t tn o.type e i z .i64 .i64 E.ht htn hi hz0 (some ad) sLen sCap olds (by rw [hz1];exact run_firstCells_some w.drew k sLen ad sLen sCap olds hol hold) n hn (by rw [hz1];exact E.hT.pos) hg (by unfold maxLen at h63;omega) (by rw [hz2];omega) (by rw [hz2];exact growslice_fits zO hbytes)
 have hG:=grownCap_ge w (sLen+n) sCap e
 have hGm:=grownCap_le_maxLen w (sLen+n) sCap e h63
 subst hX
 refine Lib.wpList_append_run (P:=P) w hgd s x t tn ho _ _ hs hx _ _ hr ?_
 have hzl:∀ q,(Builtin.zeroCells z.cells q).size=q * k:=fun q=>by rw [size_zeroCells,E.hT.zs]
 refine h (grownCap w (sLen+n) sCap e) (Builtin.zeroCells z.cells n++Builtin.zeroCells z.cells (grownCap w (sLen+n) sCap e - (sLen+n))).toList _ hG hGm ?_ ?_ (((Bl.refl w).drew).alloc _)
 ·rw [Array.length_toList,Array.size_append,hzl,hzl,← Nat.add_mul]
  congr 1;omega
 have:=heap_alloc_new w.drew (.cells (olds.toArray++Builtin.zeroCells z.cells n++Builtin.zeroCells z.cells (grownCap w (sLen+n) sCap e - (sLen+n))) e)
 have e1:(olds++(Builtin.zeroCells z.cells n++Builtin.zeroCells z.cells (grownCap w (sLen+n) sCap e - (sLen+n))).toList).toArray=olds.toArray++Builtin.zeroCells z.cells n++Builtin.zeroCells z.cells (grownCap w (sLen+n) sCap e - (sLen+n)):=by simp
 rw [e1]
 exact this
theorem RSl.take {α:Type} {k:Nat} {R:World→List Value→α→Prop} {w:World} {a:Option Addr} {n cap:Nat} {l:List α} (h:RSl k R w (.slice a n cap) l) (i:Nat) (hi:i≤n):RSl k R w (.slice a i cap) (l.take i):=by
 refine ⟨?_,fun ad n' c' e=>h.2 ad n c' (by cases e;rfl)⟩
 obtain ⟨a',cap',e,h1,h2,h3,h4⟩:=h.1
 cases e
 have hl:(l.take i).length=i:=by simp;omega
 refine ⟨a,cap,by rw [hl],zO,h2,fun h=>?_,fun hn=>?_⟩
 ·obtain ⟨rfl,hc⟩:=h3 h;exact ⟨by simp,hc⟩
 obtain ⟨b,off,rfl,hc⟩:=h4 zO
 refine ⟨b,off,rfl,fun j x hx=>?_⟩
 rw [List.getElem?_take] at hx
 split at hx
 ·exact hc j x hx
 cases hx
theorem RSl.drop {α:Type} {k:Nat} {R:World→List Value→α→Prop} {w:World} {b off n cap:Nat} {l:List α} (h:RSl k R w (.slice (some ⟨b,off,none⟩) n cap) l) (i:Nat) (hi:i≤n):RSl k R w (.slice (some ⟨b,off+i * k,none⟩) (n - i) (cap - i)) (l.drop i):=by
 obtain ⟨a',cap',e,h1,h2,h3,h4⟩:=h.1
 cases e
 have hl:(l.drop i).length=l.length - i:=by simp
 refine RSl.mk b (off+i * k) (cap - i) (by rw [hl]) zO zO fun j x hx=>?_
 have hpos:0 < l.length:=by
  rw [List.getElem?_drop] at hx
  have:=(List.getElem?_eq_some_iff.1 hx).1
  omega
 obtain ⟨b',off',e,hc⟩:=h4 hpos
 cases e
 rw [List.getElem?_drop] at hx
 obtain ⟨row,g1,g2,g3⟩:=hc (i+j) x hx
 refine ⟨row,g1,g2,fun q u hq=>?_⟩
 have:=g3 q u hq
 rw [Nat.add_mul] at this
 rw [← this]
 congr 2;omega
theorem RSl.dropEnd {α:Type} {k:Nat} {R:World→List Value→α→Prop} {w:World} {b off n:Nat} {l:List α} (h:RSl k R w (.slice (some ⟨b,off,none⟩) n n) l):RSl k R w (.slice (some ⟨b,off,none⟩) 0 0) (l.drop n):=by
 obtain ⟨a'',cap',e,h1,h2,h3,h4⟩:=h.1
 cases e
 rw [List.drop_eq_nil_of_le (Nat.le_refl _)]
 exact RSl.mk b off 0 rfl (Nat.le_refl _) (by unfold maxLen;omega) fun i x hx=>by simp at hx
end Go.Proofs.YtipdbeklopjbmaaGreatDoor
