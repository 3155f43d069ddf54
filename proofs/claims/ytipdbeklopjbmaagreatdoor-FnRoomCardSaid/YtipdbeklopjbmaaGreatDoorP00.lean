/-
  Texts laid together: Eng, Strs.
-/
import Derived.Test.YtipdbeklopjbmaaGreatDoorMem
import Derived.Deep.LoopGhost
import Derived.OrdersHeld
import Derived.Laws.CopyRow
set_option linter.unusedVariables false
set_option linter.unusedSimpArgs false
namespace Go.Proofs.YtipdbeklopjbmaaGreatDoor
open Go.ChangeShapes Go.WideShapes Go.ChangeAt Go.RowKit Go.Proofs.Tryz
def nth {α:Type} : List α→Nat→Option α
 | [],_=>none
 | x::_,0=>some x
 | _::l,i+1=>nth l i
theorem JO {α:Type} (l:List α) (i:Nat):nth l i=l[i]?:=by
 induction l generalizing i with
 | nil=>rfl
 | cons x l ih=>cases i <;> simp [nth,ih]
theorem Jm {α:Type} {l:List α} {i:Nat} {x:α} (h:nth l i=some x):x ∈ l:=by
 rw [JO] at h;exact List.mem_of_getElem? h
def sel {α:Type} (l:List α):List Nat→List α
 | []=>[]
 | i::is=>match nth l i with
  | some x=>x::sel l is
  | none=>sel l is
theorem J2M {α:Type} {l:List α} {x:α} : ∀ {is:List Nat},x ∈ sel l is→x ∈ l
 | [],h=>by cases h
 | i::is,h=>by
  unfold sel at h
  cases hn:nth l i with
  | none=>rw [hn] at h;exact J2M h
  | some y=>
   rw [hn] at h
   rcases List.mem_cons.1 h with rfl|h
   ·exact Jm hn
   exact J2M h
def look:List (Nat × Value)→Nat→Option Value
 | [],_=>none
 | (t,v)::l,i=>match Nat.beq t i with
  | true=>some v
  | false=>look l i
structure Fr (n:Nat) (m:List (Nat × Value)) (a:Act):Prop where
 size:a.tmps.size=n
 defers:a.defers=[]
 get:∀ t v,look m t=some v→a.tmps[t]? = some v
section
variable {n:Nat} {m:List (Nat × Value)} {a:Act}
theorem Fr.ev (h:Fr n m a) (t:Nat) {v:Value} (hm:look m t=some v):a.eval (.tmp t)=v:=by
 have:=h.get t v hm
 simp [Act.eval,this]
theorem Fr.put (h:Fr n m a) {d:Nat} {v:Value} {a':Act} (e:a'=a.put (some d) v) (hd:Nat.blt d n=true):Fr n ((d,v)::m) a':=by
 subst e
 have hdn:d < n:=by simpa [Nat.blt_eq] using hd
 refine ⟨by simp [Act.put,h.size],by simp [Act.put,h.defers],fun t u hu=>?_⟩
 unfold look at hu
 cases hb:Nat.beq d t with
 | true=>
  rw [hb] at hu
  have e:d=t:=by simpa using hb
  cases hu;subst e
  simp [Act.put,h.size,hdn]
 | false=>
  rw [hb] at hu
  have hne:d≠t:=fun e=>by subst e;simp at hb
  simp only [Act.put]
  rw [Array.getElem?_setIfInBounds_ne hne]
  exact h.get t u hu
theorem Fr.cut (h:Fr n m a) {m':List (Nat × Value)} (e:m'.map (fun p=>look m p.1)=m'.map (fun p=>some p.2)):Fr n m' a:=by
 refine ⟨h.size,h.defers,fun t v hv=>h.get t v ?_⟩
 induction m' with
 | nil=>cases hv
 | cons p m' ih=>
  simp only [List.map_cons,List.cons.injEq] at e
  obtain ⟨u,x⟩:=p
  unfold look at hv
  cases hb:Nat.beq u t with
  | true=>
   rw [hb] at hv
   have e':u=t:=by simpa using hb
   cases hv;subst e'
   exact e.1
  | false=>
   rw [hb] at hv
   exact ih e.2 hv
def J3C:Nat→List Value→List (Nat × Value)
 | _,[]=>[]
 | k,v::l=>(k,v)::J3C (k+1) l
theorem J8G:∀ (l:List Value) (k t:Nat) (v:Value),look (J3C k l) t=some v→k≤t∧l[t - k]? = some v
 | [],_,_,_,h=>by cases h
 | x::l,k,t,v,h=>by
  unfold J3C look at h
  cases hb:Nat.beq k t with
  | true=>
   rw [hb] at h
   have e:k=t:=by simpa using hb
   cases h;subst e;simp
  | false=>
   rw [hb] at h
   obtain ⟨h1,h2⟩:=J8G l (k+1) t v h
   refine ⟨zO,?_⟩
   rw [show t - k=(t - (k+1))+1 by omega]
   simpa using h2
theorem Fr.start (l:List Value) (n:Nat) (hl:l.length≤n):Fr n (J3C 0 l) { tmps:=l.toArray++Array.replicate (n - l.toArray.size) undef,defers:=[] }:=by
 refine ⟨by simp;omega,rfl,fun t v h=>?_⟩
 obtain ⟨_,h2⟩:=J8G l 0 t v h
 have:t < l.length:=(List.getElem?_eq_some_iff.1 h2).1
 rw [Array.getElem?_append_left (by simpa using this)]
 simpa using h2
end
theorem J8A {P:Program} {f:FuncId} {fn:Func} {c:Code} {args:List Value} {w:World} {R:Ending→World→Prop} (n:Nat)
 (hf:P.funcs[f]? = some fn) (hb:fn.body=some c) (hn:fn.ntmps=n) (hl:args.length≤n)
 (h:∀ a,Fr n (J3C 0 args) a→c.wp P (bodyPost P fn R) a w):Calls P f args.toArray w R:=by
 refine calls_of_wp hf hb ?_
 rw [hn]
 exact h _ (Fr.start args n hl)
structure Kp (S:Nat→Prop) (w w':World):Prop where
 os:w'.os=w.os
 tape:w'.tape=w.tape
 output:w'.output=w.output
 size:w.heap.size≤w'.heap.size
 block:∀ k,k < w.heap.size→¬ S k→w'.heap[k]? = w.heap[k]?
theorem Kp.refl (S:Nat→Prop) (w:World):Kp S w w:=⟨rfl,rfl,rfl,Nat.le_refl _,fun _ _ _=>rfl⟩
theorem Kp.of_bl {S:Nat→Prop} {w w':World} (h:Bl w w'):Kp S w w':=⟨h.os,h.tape,h.output,h.size,fun k hk _=>h.block k hk⟩
theorem Kp.of_keep {S:Nat→Prop} {T:List Nat} {w w':World} (h:KeepBut T w w') (hT:∀ b ∈ T,S b):Kp S w w':=⟨h.os,h.tape,h.output,h.size,fun k hk hn=>h.block k hk (fun e=>hn (hT k e))⟩
theorem Kp.bl {S:Nat→Prop} {w w':World} (h:Kp S w w') (hS:∀ b,b < w.heap.size→¬ S b):Bl w w':=⟨h.os,h.tape,h.output,h.size,fun k hk=>h.block k hk (hS k hk)⟩
structure Atom where
 fp:Nat→Prop
 ok:World→Prop
 st:∀ w w',(∀ b,fp b→w'.heap[b]? = w.heap[b]?)→ok w→ok w'
def bx (b:Nat) (cs:List Value) (T:TypeId):Atom where
 fp:=fun c=>c=b
 ok:=fun w=>w.heap[b]? = some (.cells cs.toArray T (0,0))
 st:=fun _ _ h k=>(h b rfl).trans k
theorem Own.same {α:Type} {e k:Nat} {enc:α→List Value} {ok:α→Prop} {w w':World} {v:Value} {l:List α} (h:Own e k enc ok w v l) (hb:∀ b,v.ownBlock=some b→w'.heap[b]? = w.heap[b]?):Own e k enc ok w' v l:=by
 refine ⟨⟨h.1.1,?_⟩,h.2⟩
 rcases h.1.2 with hn|⟨g,cap,cur,rfl,hb0,hgg,rest⟩
 ·exact .inl hn
 exact .inr ⟨g,cap,cur,rfl,hb0,(hb g rfl).trans hgg,rest⟩
def ow {α:Type} (e k:Nat) (enc:α→List Value) (ok:α→Prop) (v:Value) (l:List α):Atom where
 fp:=fun c=>v.ownBlock=some c
 ok:=fun w=>Own e k enc ok w v l
 st:=fun _ _ h k=>k.same h
def fps (L:List Atom) (b:Nat):Prop:=∃ A ∈ L,A.fp b
theorem JF (b:Nat):¬ fps [] b:=fun ⟨_,h,_⟩=>by cases h
theorem J0T {A:Atom} {L:List Atom} {b:Nat} : fps (A::L) b ↔ A.fp b∨fps L b:=by simp [fps]
theorem J21 {L M:List Atom} {b:Nat} : fps (L++M) b ↔ fps L b∨fps M b:=by
 simp only [fps,List.mem_append]
 constructor
 ·rintro ⟨A,h|h,hb⟩
  ·exact .inl ⟨A,h,hb⟩
  exact .inr ⟨A,h,hb⟩
 rintro (⟨A,h,hb⟩|⟨A,h,hb⟩)
 ·exact ⟨A,.inl h,hb⟩
 exact ⟨A,.inr h,hb⟩
theorem J2K {L M:List Atom} (h:∀ A ∈ L,A ∈ M) {b:Nat} (hb:fps L b):fps M b:=by
 obtain ⟨A,h1,h2⟩:=hb
 exact ⟨A,h A h1,h2⟩
structure At (w:World) (L:List Atom):Prop where
 ok:∀ A ∈ L,A.ok w
 lt:∀ b,fps L b→b < w.heap.size
 apart:L.Pairwise fun A B=>∀ b,A.fp b→¬ B.fp b
structure Mv (L:List Atom) (w:World) (L':List Atom) (w':World):Prop where
 at':At w' L'
 fresh:∀ b,fps L' b→fps L b∨w.heap.size≤b
 kp:Kp (fps L) w w'
theorem At.nil (w:World):At w []:=⟨fun _ h=>(by cases h),fun _ h=>(JF _ h).elim,List.Pairwise.nil⟩
theorem Mv.refl {w:World} {L:List Atom} (h:At w L):Mv L w L w:=⟨h,fun _ h=>.inl h,Kp.refl _ _⟩
theorem Mv.trans {L L' L'':List Atom} {w w' w'':World} (h:Mv L w L' w') (k:Mv L' w' L'' w''):Mv L w L'' w'':=by
 refine ⟨k.at',fun b hb=>?_,⟨k.kp.os.trans h.kp.os,k.kp.tape.trans h.kp.tape,k.kp.output.trans h.kp.output,Nat.le_trans h.kp.size k.kp.size,fun b hb hn=>?_⟩⟩
 ·rcases k.fresh b hb with h1|h1
  ·exact h.fresh b h1
  exact .inr (Nat.le_trans h.kp.size h1)
 rw [k.kp.block b (Nat.lt_of_lt_of_le hb h.kp.size) (fun h1=>(h.fresh b h1).elim hn (fun h2=>by omega)),h.kp.block b hb hn]
theorem Mv.bl {L:List Atom} {w w':World} (h:Mv [] w L w'):Bl w w':=h.kp.bl fun _ _ h=>JF _ h
theorem Mv.of_bl {w w':World} (h:Bl w w'):Mv [] w [] w':=⟨At.nil _,fun _ h=>.inl h,Kp.of_bl h⟩
def del {α:Type} (l:List α) (is:List Nat):List α:=go l is 0
where
 go:List α→List Nat→Nat→List α
  | [],_,_=>[]
  | x::l,is,k=>if is.any (Nat.beq k) then go l is (k+1) else x::go l is (k+1)
theorem J6v {α:Type} : ∀ (l:List α) (is:List Nat) (k:Nat),(del.go l is k).Sublist l
 | [],_,_=>by simp [del.go]
 | x::l,is,k=>by
  unfold del.go
  split
  ·exact (J6v l is (k+1)).cons x
  exact (J6v l is (k+1)).cons_cons x
theorem J34 {α:Type} (l:List α) (is:List Nat):(del l is).Sublist l:=J6v l is 0
def JP (n:Nat):List Nat→Bool
 | []=>true
 | i::is=>Nat.blt i n && !is.any (Nat.beq i) && JP n is
theorem J4H {α:Type} {l:List α} {i:Nat} {x:α} (h:nth l i=some x):i < l.length:=by
 rw [JO] at h;exact (List.getElem?_eq_some_iff.1 h).1
theorem J3Q {α:Type} : ∀ {l:List α} {is:List Nat} {k:Nat} {x:α},x ∈ del.go l is k→∃ j,nth l j=some x∧k+j ∉ is
 | [],_,_,_,h=>by simp [del.go] at h
 | y::l,is,k,x,h=>by
  unfold del.go at h
  split at h
  ·obtain ⟨j,h1,h2⟩:=J3Q h
   exact ⟨j+1,h1,by rw [show k+(j+1)=k+1+j by omega];exact h2⟩
  rename_i hk
  rcases List.mem_cons.1 h with rfl|h
  ·exact ⟨0,rfl,fun hm=>hk (List.any_eq_true.2 ⟨k,by simpa using hm,by simp⟩)⟩
  obtain ⟨j,h1,h2⟩:=J3Q h
  exact ⟨j+1,h1,by rw [show k+(j+1)=k+1+j by omega];exact h2⟩
theorem J47 {α:Type} {l:List α} {x:α} : ∀ {is:List Nat},x ∈ sel l is→∃ i ∈ is,nth l i=some x
 | [],h=>by cases h
 | i::is,h=>by
  unfold sel at h
  cases hn:nth l i with
  | none=>rw [hn] at h;obtain ⟨j,h1,h2⟩:=J47 h;exact ⟨j,by simp [h1],h2⟩
  | some y=>
   rw [hn] at h
   rcases List.mem_cons.1 h with rfl|h
   ·exact ⟨i,by simp,hn⟩
   obtain ⟨j,h1,h2⟩:=J47 h;exact ⟨j,by simp [h1],h2⟩
theorem At.apartAt {w:World} {L:List Atom} (h:At w L) {i j:Nat} {A B:Atom} (hi:nth L i=some A) (hj:nth L j=some B) (hne:i≠j) (b:Nat) (ha:A.fp b):¬ B.fp b:=by
 rw [JO] at hi hj
 obtain ⟨h1,rfl⟩:=List.getElem?_eq_some_iff.1 hi
 obtain ⟨h2,rfl⟩:=List.getElem?_eq_some_iff.1 hj
 rcases Nat.lt_or_gt_of_ne hne with hlt|hlt
 ·exact List.pairwise_iff_getElem.1 h.apart i j h1 h2 hlt b ha
 exact fun hb=>List.pairwise_iff_getElem.1 h.apart j i h2 h1 hlt b hb ha
theorem At.pick {w:World} {L:List Atom} (h:At w L):∀ {is:List Nat},JP L.length is=true→At w (sel L is)
 | is,hok=>by
  refine ⟨fun A hA=>h.ok A (J2M hA),fun b hb=>h.lt b (J2K (fun A hA=>J2M hA) hb),?_⟩
  induction is with
  | nil=>exact .nil
  | cons i is ih=>
   simp only [JP,Bool.and_eq_true] at hok
   unfold sel
   cases hn:nth L i with
   | none=>exact ih hok.2
   | some A=>
    refine .cons (fun B hB b ha=>?_) (ih hok.2)
    obtain ⟨j,hj,hB⟩:=J47 hB
    refine h.apartAt hn hB (fun e=>?_) b ha
    subst e
    simp at hok
    exact hok.1.2 _ hj rfl
theorem At.frame {w w':World} {L New:List Atom} (h:At w L) (is:List Nat) (_hok:JP L.length is=true) (hm:Mv (sel L is) w New w'):Mv L w (New++del L is) w':=by
 have hsub:∀ b,fps (sel L is) b→fps L b:=fun b hb=>J2K (fun A hA=>J2M hA) hb
 have hdel:∀ b,fps (del L is) b→fps L b:=fun b hb=>J2K (fun A hA=>(J34 L is).subset hA) hb
 have hdis:∀ A ∈ del L is,∀ b,A.fp b→¬ fps (sel L is) b:=by
  rintro A hA b hb ⟨B,hB,hb'⟩
  obtain ⟨j,h1,h2⟩:=J3Q hA
  obtain ⟨i,h3,h4⟩:=J47 hB
  exact h.apartAt h1 h4 (fun e=>h2 (by rw [e];simpa using h3)) b hb hb'
 have hold:∀ A ∈ del L is,∀ b,A.fp b→w'.heap[b]? = w.heap[b]?:=fun A hA b hb=>
  hm.kp.block b (h.lt b (hdel b ⟨A,hA,hb⟩)) (hdis A hA b hb)
 refine ⟨⟨fun A hA=>?_,fun b hb=>?_,?_⟩,fun b hb=>?_,⟨hm.kp.os,hm.kp.tape,hm.kp.output,hm.kp.size,fun b h1 h2=>hm.kp.block b h1 (fun h3=>h2 (hsub b h3))⟩⟩
 ·rcases List.mem_append.1 hA with hA|hA
  ·exact hm.at'.ok A hA
  exact A.st w w' (hold A hA) (h.ok A ((J34 L is).subset hA))
 ·rcases J21.1 hb with hb|hb
  ·exact hm.at'.lt b hb
  exact Nat.lt_of_lt_of_le (h.lt b (hdel b hb)) hm.kp.size
 ·refine List.pairwise_append.2 ⟨hm.at'.apart,h.apart.sublist (J34 L is),fun A hA B hB b ha hb=>?_⟩
  rcases hm.fresh b ⟨A,hA,ha⟩ with h1|h1
  ·exact hdis B hB b hb h1
  have:=h.lt b (hdel b ⟨B,hB,hb⟩);omega
 rcases J21.1 hb with hb|hb
 ·exact (hm.fresh b hb).imp (hsub b) id
 exact .inl (hdel b hb)
theorem Mv.pick {L L':List Atom} {w w':World} (h:Mv L w L' w') (is:List Nat) (hok:JP L'.length is=true):Mv L w (sel L' is) w':=
 ⟨h.at'.pick hok,fun b hb=>h.fresh b (J2K (fun _A hA=>J2M hA) hb),h.kp⟩
theorem Bl.mv_new {w w':World} {L:List Atom} (h:At w' L) (hf:∀ b,fps L b→w.heap.size≤b) (hb:Bl w w'):Mv [] w L w':=⟨h,fun b hb=>.inr (hf b hb),Kp.of_bl hb⟩
theorem At.one {w:World} {A:Atom} (h:A.ok w) (hl:∀ b,A.fp b→b < w.heap.size):At w [A]:=
 ⟨fun B hB=>by rcases List.mem_singleton.1 hB with rfl;exact h,fun b ⟨B,hB,hb⟩=>by rcases List.mem_singleton.1 hB with rfl;exact hl b hb,by simp⟩
theorem J9R (w:World) (cs:List Value) (T:TypeId):Mv [] w [bx w.heap.size cs T] (w.alloc (.cells cs.toArray T)):=
 Bl.mv_new (At.one (heap_alloc_new _ _) (fun b hb=>by have:b=w.heap.size:=hb;subst this;simp)) (fun b ⟨B,hB,hb⟩=>by rcases List.mem_singleton.1 hB with rfl;have:b=w.heap.size:=hb;omega) ((Bl.refl w).alloc _)
theorem Jf2 {w:World} {b:Nat} {cs cs':List Value} {T:TypeId} (h:w.heap[b]? = some (.cells cs.toArray T (0,0))):Mv [bx b cs T] w [bx b cs' T] (w.setRow b cs'.toArray):=by
 have hlt:=(Array.getElem?_eq_some_iff.1 h).1
 have hs:(w.setRow b cs'.toArray).heap.size=w.heap.size:=by simp [World.setRow]
 refine ⟨At.one ((setRow_heap w b _ _ T _ h)) (fun c hc=>by have:c=b:=hc;subst this;rw [hs];exact hlt),fun c hc=>.inl (J0T.2 (.inl ((J0T.1 hc).elim (fun h=>h) (fun h=>(JF _ h).elim)))),⟨rfl,rfl,rfl,by rw [hs];exact Nat.le_refl _,fun k _ hk=>setRow_other w b k _ (fun e=>hk ⟨_,List.mem_singleton.2 rfl,e⟩)⟩⟩
def st1 (P:Program) (ops:Array Oper) (Q:Exit→Act→World→Prop) (o:Oper) (K:Act→World→Prop) (a:Act) (w:World):Prop:=
 if Region.wanted o (yielded ops a.tmps) then o.wp P a w K Q∨(o.asks P a w∧LetsOut Q) else K (a.put o.dst undef) w
section
variable {P:Program} {ops:Array Oper} {Q:Exit→Act→World→Prop} {K:Act→World→Prop} {o:Oper} {a:Act} {w:World}
theorem J7K {d:Nat} {v:Value} (hw:Region.wanted o (yielded ops a.tmps)=true) (hd:o.dst=some d) (hop:(execOp a.eval o).run P w=.ok (.value v) w)
 (k:∀ a',a'=a.put (some d) v→K a' w):st1 P ops Q o K a w:=by
 unfold st1
 rw [if_pos hw]
 refine .inl ?_
 unfold Oper.wp
 rw [hop,Oper.upon_value,hd]
 exact k _ rfl
theorem J1s {d:Nat} {v:Value} {w':World} (hw:Region.wanted o (yielded ops a.tmps)=true) (hd:o.dst=some d) (hop:(execOp a.eval o).run P w=.ok (.value v) w')
 (k:∀ a',a'=a.put (some d) v→K a' w'):st1 P ops Q o K a w:=by
 unfold st1
 rw [if_pos hw]
 refine .inl ?_
 unfold Oper.wp
 rw [hop,Oper.upon_value,hd]
 exact k _ rfl
theorem JhR {d:Nat} (hw:Region.wanted o (yielded ops a.tmps)=false) (hd:o.dst=some d) (k:∀ a',a'=a.put (some d) undef→K a' w):st1 P ops Q o K a w:=by
 unfold st1
 rw [if_neg (by simp [hw]),hd]
 exact k _ rfl
theorem J4K {w':World} (hw:Region.wanted o (yielded ops a.tmps)=true) (hd:o.dst=none) (hop:(execOp a.eval o).run P w=.ok .skip w') (k:K a w'):st1 P ops Q o K a w:=by
 unfold st1
 rw [if_pos hw]
 refine .inl ?_
 unfold Oper.wp
 rw [hop,Oper.upon_skip,hd]
 exact k
theorem Jb4 {d:Nat} {f:FuncId} {vs:Array Value} {R:Ending→World→Prop} (hw:Region.wanted o (yielded ops a.tmps)=true) (hd:o.dst=some d) (hop:(execOp a.eval o).run P w=.ok (.enter f vs) w) (hc:Calls P f vs w R)
 (k:∀ e w',R e w'→∃ v,e=.returned v∧∀ a',a'=a.put (some d) v→K a' w'):st1 P ops Q o K a w:=by
 unfold st1
 rw [if_pos hw]
 refine .inl ?_
 unfold Oper.wp
 rw [hop,Oper.upon_enter]
 refine hc.mono fun e w' hR=>?_
 obtain ⟨v,rfl,h⟩:=k e w' hR
 rw [hd]
 exact h _ rfl
theorem J7J (h:Q .normal a w):wpList P ops Q [] a w:=h
theorem J0 {rest:List Oper} (h:st1 P ops Q o (wpList P ops Q rest) a w):wpList P ops Q (o::rest) a w:=h
theorem J3z {n:Nat} {m:List (Nat × Value)} (hF:Fr n m a) {j t:Nat} {want b:Bool} (hg:o.guard=some (j,want)) (hj:(ops[j]?).bind (·.dst)=some t) (hm:look m t=some (.bool b)) {r:Bool} (hr:(b == want)=r) :
 Region.wanted o (yielded ops a.tmps)=r:=by
 subst hr
 have:=hF.get t _ hm
 simp [Region.wanted,hg,yielded,hj,this]
theorem Jg5 {n:Nat} {m:List (Nat × Value)} (hF:Fr n m a) {j t:Nat} {want:Bool} (hg:o.guard=some (j,want)) (hj:(ops[j]?).bind (·.dst)=some t) (hm:look m t=some undef) :
 Region.wanted o (yielded ops a.tmps)=false:=by
 have:=hF.get t _ hm
 simp [Region.wanted,hg,yielded,hj,this,undef]
end
section
variable {P:Program} {o:Oper} {ρ:Operand→Value} {w:World}
theorem J5B {x:Operand} {v:Value} (ho:o.op=.move x) (hx:ρ x=v):(execOp ρ o).run P w=.ok (.value v) w:=by simp [execOp,ho,hx]
theorem J9X {x:Operand} {v:Value} (ho:o.op=.assign x) (hx:ρ x=v):(execOp ρ o).run P w=.ok (.value v) w:=by simp [execOp,ho,hx]
theorem J7t {c x y:Operand} {b:Bool} {v:Value} (ho:o.op=.pick c x y) (hc:ρ c=.bool b) (hv:(if b then ρ x else ρ y)=v):(execOp ρ o).run P w=.ok (.value v) w:=by
 subst hv
 cases b <;> simp [execOp,ho,hc,asBool]
theorem J0s {x:Operand} {ad:Addr} (ho:o.op=.nilCheck x) (hx:ρ x=.pointer (some ad)):(execOp ρ o).run P w=.ok (.value (.pointer (some ad))) w:=by simp [execOp,ho,hx]
theorem J9n {x:Operand} {i:Nat} {vs:Array Value} {v:Value} (ho:o.op=.extract x i) (hx:ρ x=.tuple vs) (hv:vs[i]? = some v):(execOp ρ o).run P w=.ok (.value v) w:=by
 simp [execOp,ho,hx,Instr.extract,hv]
theorem J0q {t:TypeId} {x:Operand} {b:Bool} (ho:o.op=.unOp .not t x) (hx:ρ x=.bool b):(execOp ρ o).run P w=.ok (.value (.bool (!b))) w:=by
 simp [execOp,ho,hx,Op.unary]
structure FI (P:Program) (s:TypeId) (i off:Nat):Prop where
 ex:∃ fs f,P.underlying s=some (.struct fs)∧fs[i]? = some f∧f.offset=off∧∃ inf,P.info? f.type=some inf∧inf.size≠0
theorem J13 {s:TypeId} {x:Operand} {i off b c c':Nat} (F:FI P s i off) (ho:o.op=.fieldAddr s x i) (hx:ρ x=.pointer (some ⟨b,c,none⟩)) (hc:c+off=c') :
 (execOp ρ o).run P w=.ok (.value (.pointer (some ⟨b,c',none⟩))) w:=by
 obtain ⟨fs,f,h1,h2,h3,inf,h4,h5⟩:=F.ex
 simp [execOp,ho,hx,Instr.fieldAt,run_underlying h1,h2,Instr.sureAddr,fieldPlace,sizeOf,typeInfo,h4,h5,h3,J0a,hc]
def J7n:TypeDesc→Bool
 | .struct _ | .array _ _=>true
 | _=>false
structure TI (P:Program) (t:TypeId) (agg:Bool) (k:Nat):Prop where
 und:∃ d,P.underlying t=some d∧J7n d=agg
 size:∃ inf,P.info? t=some inf∧inf.size=k
def J1O:Bool→List Value→Value
 | true,l=>.agg l.toArray
 | false,[v]=>v
 | false,_=>undef
theorem Jeu {t:TypeId} {g:Bool} {k:Nat} (T:TI P t g k):(isAgg t).run P w=.ok g w:=by
 obtain ⟨d,h1,h2⟩:=T.und
 unfold isAgg
 rw [Sem.run_bind,run_underlying h1]
 cases d <;> simp_all [J7n]
theorem J4q {t:TypeId} {g:Bool} {k:Nat} (T:TI P t g k):(sizeOf t).run P w=.ok k w:=by
 obtain ⟨inf,h1,h2⟩:=T.size
 simp [sizeOf,typeInfo,h1,h2]
theorem J8u {t:TypeId} {g:Bool} {k:Nat} (T:TI P t g k) (ad:Addr) (cs:List Value) (hk:cs.length=k) (hg:g=false→cs.length=1) (h:∀ j v,cs[j]? = some v→w.cell? (ad.add j)=some v) :
 (loadVar t ad).run P w=.ok (J1O g cs) w:=by
 unfold loadVar
 rw [Sem.run_bind,Jeu T]
 cases g with
 | true=>
  subst hk
  simp [J4q T,run_loadCells_list w ad cs h,J1O]
 | false=>
  match cs,hg rfl with
  | [v],_=>
   have:=h 0 v rfl
   have e:ad.add 0=ad:=rfl
   rw [e] at this
   simp [load,this,J1O,Sem.run]
theorem JD {t:TypeId} {x:Operand} {g:Bool} {k:Nat} {ad:Addr} {cs:List Value} (T:TI P t g k) (ho:o.op=.load t x) (hx:ρ x=.pointer (some ad)) (hk:cs.length=k) (hg:g=false→cs.length=1)
 (h:∀ j v,cs[j]? = some v→w.cell? (ad.add j)=some v):(execOp ρ o).run P w=.ok (.value (J1O g cs)) w:=by
 have:=J8u (w:=w) T ad cs hk hg h
 simp [execOp,ho,hx,Instr.loadAt,Instr.sureAddr,this]
theorem J9G {b:Nat} {cs:List Value} {T:TypeId} (h:(bx b cs T).ok w) (off:Nat) (vs:List Value) (hv:(cs.drop off).take vs.length=vs) :
 ∀ j v,vs[j]? = some v→w.cell? ((⟨b,off,none⟩:Addr).add j)=some v:=by
 intro j v hj
 have hb:w.heap[b]? = some (.cells cs.toArray T (0,0)):=h
 rw [J0a]
 rw [← hv,List.getElem?_take] at hj
 split at hj
 ·rw [List.getElem?_drop] at hj
  simpa [World.cell?,hb] using hj
 cases hj
theorem At.cells {L:List Atom} (h:At w L) (i:Nat) {b:Nat} {cs:List Value} {T:TypeId} (hL:nth L i=some (bx b cs T)) (off:Nat) (vs:List Value) (hv:(cs.drop off).take vs.length=vs) :
 ∀ j v,vs[j]? = some v→w.cell? ((⟨b,off,none⟩:Addr).add j)=some v:=J9G (h.ok _ (Jm hL)) off vs hv
theorem J3B {t:TypeId} {x:Operand} {g:Bool} {k:Nat} {b off:Nat} {cs vs:List Value} {T:TypeId} {v:Value} (h:(bx b cs T).ok w) (TT:TI P t g k) (ho:o.op=.load t x) (hx:ρ x=.pointer (some ⟨b,off,none⟩))
 (hv:(cs.drop off).take k=vs) (hk:vs.length=k) (hg:g=false→k=1) (e:J1O g vs=v):(execOp ρ o).run P w=.ok (.value v) w:=by
 subst e
 exact JD TT ho hx hk (fun e=>hk.trans (hg e)) (J9G h off vs (by rw [hk];exact hv))
theorem JZ {t:TypeId} {x:Operand} {g:Bool} {k:Nat} {L:List Atom} (A:At w L) (i:Nat) {b off:Nat} {cs vs:List Value} {T:TypeId} {v:Value} (TT:TI P t g k) (hL:nth L i=some (bx b cs T)) (ho:o.op=.load t x) (hx:ρ x=.pointer (some ⟨b,off,none⟩))
 (hv:(cs.drop off).take k=vs) (hk:vs.length=k) (hg:g=false→k=1) (e:J1O g vs=v):(execOp ρ o).run P w=.ok (.value v) w:=by
 subst e
 exact JD TT ho hx hk (fun e=>hk.trans (hg e)) (A.cells i hL off vs (by rw [hk];exact hv))
def Jq (cs:List Value) (off:Nat) (vs:List Value):List Value:=cs.take off++vs++cs.drop (off+vs.length)
theorem JfQ {t:TypeId} {x y:Operand} {g:Bool} {k:Nat} {L:List Atom} (A:At w L) (i:Nat) {b off:Nat} {cs vs cs':List Value} {T:TypeId} {v:Value} (TT:TI P t g k) (hL:nth L i=some (bx b cs T)) (ho:o.op=.store t x y) (hx:ρ x=.pointer (some ⟨b,off,none⟩)) (hy:ρ y=v)
 (hv:v.cells.toList=vs) (hk:vs.length=k) (hfit:Nat.ble (off+vs.length) cs.length=true) (h1:vs.all (·.oneCell')=true) (e:Jq cs off vs=cs') :
 (execOp ρ o).run P w=.ok .skip (w.setRow b cs'.toArray):=by
 have hb:w.heap[b]? = some (.cells cs.toArray T (0,0)):=A.ok _ (Jm hL)
 have hst:=run_storeCells_at P b off T vs 0 cs.toArray w hb (by simpa [Nat.ble_eq] using hfit) (by simpa using h1)
 have hsz:v.cells.size=k:=by rw [← hk,← hv];simp
 simp only [Nat.add_zero] at hst
 unfold Jq at e
 rw [e] at hst
 simp only [execOp,ho,hx,hy,Instr.storeAt,Instr.sureAddr,storeVar,hv,Sem.run_bind,Sem.run_pure,Result.andThen_ok,J4q TT,hsz,ne_eq,not_true_eq_false,↓reduceIte,hst]
theorem JfF {L:List Atom} (A:At w L) (i:Nat) {b:Nat} {cs cs':List Value} {T:TypeId} (hL:nth L i=some (bx b cs T)) (hok:JP L.length [i]=true):Mv L w ([bx b cs' T]++del L [i]) (w.setRow b cs'.toArray):=
 A.frame [i] hok (by
  have:sel L [i]=[bx b cs T]:=by simp [sel,hL]
  rw [this]
  exact Jf2 (A.ok _ (Jm hL)))
structure ZI (P:Program) (t:TypeId) (z:Value):Prop where
 ex:∃ inf,P.info? t=some inf∧inf.zero=some z
theorem Jfg {t:TypeId} {z:Value} (Z:ZI P t z):(zeroValue t).run P w=.ok z w:=by
 obtain ⟨inf,h1,h2⟩:=Z.ex
 simp [zeroValue,typeInfo,h1,h2]
theorem J8X (t:TypeId) (v:Value) (cs:List Value) (hv:v.cells.toList=cs):(newVar t v).run P w=.ok ⟨w.heap.size,0,none⟩ (w.alloc (.cells cs.toArray t)):=by
 subst hv
 rfl
theorem JgF {t:TypeId} {z:Value} {cs:List Value} (Z:ZI P t z) (ho:o.op=.alloc t) (hz:z.cells.toList=cs):(execOp ρ o).run P w=.ok (.value (.pointer (some ⟨w.heap.size,0,none⟩))) (w.alloc (.cells cs.toArray t)):=by
 simp [execOp,ho,Instr.alloc,Jfg Z,J8X t z cs hz]
theorem JiD {t:TypeId} {x:Operand} {v:Value} {cs:List Value} (ho:o.op=.box t x) (hx:ρ x=v) (hv:v.cells.toList=cs):(execOp ρ o).run P w=.ok (.value (.pointer (some ⟨w.heap.size,0,none⟩))) (w.alloc (.cells cs.toArray t)):=by
 simp [execOp,ho,hx,Instr.box,J8X t v cs hv]
theorem mv_new {L:List Atom} (A:At w L) (cs:List Value) (T:TypeId):Mv L w (bx w.heap.size cs T::L) (w.alloc (.cells cs.toArray T)):=by
 have:=At.frame (New:=[bx w.heap.size cs T]) A [] rfl (J9R w cs T)
 have hd:del L []=L:=by
  unfold del
  have:∀ (l:List Atom) k,del.go l [] k=l:=by
   intro l
   induction l with
   | nil=>intro k;rfl
   | cons x l ih=>intro k;simp [del.go,ih]
  exact this L 0
 rw [hd] at this
 exact this
theorem JhE {f:FuncId} {xs:Array Operand} {ats:Array TypeId} {fn:Func} {c:Code} {vs:List Value} (hf:P.funcs[f]? = some fn) (hb:fn.body=some c) (hname:(fn.name == "runtime.NumGoroutine")=false) (hρ:ρ (.func f)=.func (.func f) #[] #[])
 (ho:o.op=.call { callee:=.value (.func f),args:=xs,argTypes:=ats }) (hx:xs.toList.map ρ=vs):(execOp ρ o).run P w=.ok (.enter f vs.toArray) w:=by
 have h1:fn.name≠ "runtime.NumGoroutine" := by simpa using hname
 have h2:xs.map ρ=vs.toArray:=by rw [← hx];apply Array.ext';simp
 simp [execOp,ho,resolve,h2,hρ,Deferred.ofValue,invoke,callFunc,hf,h1,hb]
end
section
variable {P:Program} {Q:Exit→Act→World→Prop} {a:Act} {w:World} {K:Act→World→Prop}
theorem J3A (h:K a w):Exit.then K Q .normal a w:=h
theorem J6r {i:Nat} (h:Q (.exit i) a w):Exit.then K Q (.exit i) a w:=h
theorem J6E (h:Q .ret a w):Exit.then K Q .ret a w:=h
theorem J67 {i:Nat} (h:Q .normal a w):Exit.inBlock i Q .normal a w:=h
theorem J6q {i:Nat} (h:Q .ret a w):Exit.inBlock i Q .ret a w:=h
theorem J6k {i:Nat} (h:Q .normal a w):Exit.inBlock i Q (.exit i) a w:=by simp only [Exit.inBlock,if_true];exact h
theorem J5D {γ:Type} {c:Code} (I:γ→Act→World→Prop) (μ:γ→Nat) (g0:γ) (h0:I g0 a w)
 (round:∀ g a w,I g a w→c.wp P (Exit.then (fun a' w'=>∃ g',μ g' < μ g∧I g' a' w') Q) a w):(Code.loop c).wp P Q a w:=by
 refine wp_loop_ghost (fun n a w=>∃ g,μ g=n∧I g a w) (μ g0) ⟨g0,rfl,h0⟩ ?_
 rintro n a w ⟨g,rfl,hI⟩
 refine wp_mono (round g a w hI) ?_
 intro e a' w' hq
 cases e with
 | normal=>obtain ⟨g',h1,h2⟩:=hq;exact ⟨_,h1,g',rfl,h2⟩
 | _=>exact hq
theorem J3J {c:Code} (C:Act→World→Prop) (h:c.wp P (Exit.then C fun _ _ _=>False) a w) (k:∀ a w,C a w→Q .normal a w):c.wp P Q a w:=
 wp_mono h fun e a w hq=>by
  cases e with
  | normal=>exact k a w hq
  | _=>exact hq.elim
theorem Jg {fn:Func} {R:Ending→World→Prop} {v:Value} {n:Nat} {m:List (Nat × Value)} (hF:Fr n m a) (hr:(results fn a.tmps).run P w=.ok v w) (hR:R (.returned v) w):bodyPost P fn R .ret a w:=⟨hF.defers,v,hr,hR⟩
theorem J2Z {fn:Func} {R:Ending→World→Prop} {v:Value} {n:Nat} {m:List (Nat × Value)} (hF:Fr n m a) (hr:(results fn a.tmps).run P w=.ok v w) (hR:R (.returned v) w):bodyPost P fn R .normal a w:=⟨hF.defers,v,hr,hR⟩
end
section
variable {P:Program} {a:Act} {w:World}
inductive ResIs (P:Program) (a:Act) (w:World):ResultVar→Value→Prop
 | tmp {t:Nat} {v:Value} (h:a.eval (.tmp t)=v):ResIs P a w (.tmp t) v
 | cell {t:Nat} {T:TypeId} {v:Value} {ad:Addr} (h:a.eval (.tmp t)=.pointer (some ad)) (hl:(loadVar T ad).run P w=.ok v w):ResIs P a w (.cell t T) v
def J5C (a:Act):ResultVar→Sem Value
 | .tmp t=>pure (a.tmps.getD t undef)
 | .cell c t=>do loadVar t (← asAddr (a.tmps.getD c undef))
theorem ResIs.run {r:ResultVar} {v:Value} (h:ResIs P a w r v):(J5C a r).run P w=.ok v w:=by
 cases h with
 | tmp h=>simp [Act.eval] at h;simp [J5C,h]
 | cell h hl=>simp [Act.eval] at h;simp [J5C,h,asAddr,hl]
theorem J6B (fn:Func):results fn a.tmps=(do
 let vs ← fn.results.mapM (J5C a)
 pure (if h:vs.size=1 then vs[0] else .tuple vs)):=by
 unfold results
 congr 1
theorem J9p {fn:Func} {r:ResultVar} {v:Value} (hr:fn.results=#[r]) (h:ResIs P a w r v):(results fn a.tmps).run P w=.ok v w:=by
 have:=h.run
 rw [J6B,hr]
 simp [this]
theorem JU {fn:Func} {r s:ResultVar} {v u:Value} (hr:fn.results=#[r,s]) (h:ResIs P a w r v) (k:ResIs P a w s u):(results fn a.tmps).run P w=.ok (.tuple #[v,u]) w:=by
 have h1:=h.run
 have h2:=k.run
 rw [J6B,hr]
 simp [h1,h2]
theorem JQ {fn:Func} {r s t:ResultVar} {v u x:Value} (hr:fn.results=#[r,s,t]) (h:ResIs P a w r v) (k:ResIs P a w s u) (l:ResIs P a w t x):(results fn a.tmps).run P w=.ok (.tuple #[v,u,x]) w:=by
 have h1:=h.run
 have h2:=k.run
 have h3:=l.run
 rw [J6B,hr]
 simp [h1,h2,h3]
theorem J31 {fn:Func} (hr:fn.results=#[]):(results fn a.tmps).run P w=.ok (.tuple #[]) w:=by simp [results,hr]
end
def V (G:Nat→Prop) (w0:World) (L:List Atom) (b:Nat):Prop:=(G b∨w0.heap.size≤b)∧¬ fps L b
section
variable {α:Type} {k:Nat} {enc:α→List Value} {ok:α→Prop}
def Rd (k:Nat) (enc:α→List Value) (ok:α→Prop) (H:Nat→Prop) (w:World) (v:Value) (l:List α):Prop:=
 RSl k (Enc enc ok) w v l∧∀ ad n c,v=.slice (some ad) n c→0 < n→H ad.block
theorem RSl.same {w w':World} {v:Value} {l:List α} (h:RSl k (Enc enc ok) w v l) (hb:∀ ad n c,v=.slice (some ad) n c→0 < n→w'.heap[ad.block]? = w.heap[ad.block]?):RSl k (Enc enc ok) w' v l:=by
 obtain ⟨⟨a,cap,rfl,h1,h2,h3,h4⟩,h5⟩:=h
 refine ⟨⟨a,cap,rfl,h1,h2,h3,fun hn=>?_⟩,h5⟩
 obtain ⟨b,off,rfl,hc⟩:=h4 hn
 refine ⟨b,off,rfl,fun i x hx=>?_⟩
 obtain ⟨row,g1,g2,g3⟩:=hc i x hx
 exact ⟨row,g1,g2,fun j u hj=>(World.cell?_of_block (w:=w) (a:=⟨b,off+i * k+j,none⟩) (hb ⟨b,off,none⟩ _ _ rfl hn)).trans (g3 j u hj)⟩
theorem RSl.blk {w:World} {ad:Addr} {n c:Nat} {l:List α} (hk:0 < k) (h:RSl k (Enc enc ok) w (.slice (some ad) n c) l) (hn:0 < n):ad.block < w.heap.size:=by
 obtain ⟨⟨a,cap,e,h1,h2,h3,h4⟩,h5⟩:=h
 cases e
 obtain ⟨b,off,e,hc⟩:=h4 zO
 cases e
 obtain ⟨row,g1,g2,g3⟩:=hc 0 l[0] (by simp [hn])
 have:=g3 0 row[0] (by simp [g1,hk])
 exact World.block_lt_of_cell? w ⟨b,off+0 * k+0,none⟩ this
theorem Rd.mv {G:Nat→Prop} {w0 w w':World} {L L':List Atom} {v:Value} {l:List α} (hk:0 < k) (h:Rd k enc ok (V G w0 L) w v l) (m:Mv L w L' w'):Rd k enc ok (V G w0 L') w' v l:=by
 refine ⟨h.1.same fun ad n c e hn=>?_,fun ad n c e hn=>?_⟩
 ·subst e
  exact m.kp.block _ (h.1.blk hk hn) (h.2 _ _ _ rfl hn).2
 have h1:=h.2 ad n c e hn
 subst e
 have h2:=h.1.blk hk hn
 exact ⟨h1.1,fun h3=>(m.fresh _ h3).elim h1.2 (fun h4=>by omega)⟩
theorem Rd.mq {k:Nat} {enc:α→List Value} {G:Nat→Prop} {w0 w w':World} {L L':List Atom} {v:Value} {l:List α} (h:Rd (k+1) enc ok (V G w0 L) w v l) (m:Mv L w L' w'):Rd (k+1) enc ok (V G w0 L') w' v l:=Rd.mv (Nat.succ_pos _) h m
theorem Rd.mono {H H':Nat→Prop} {w:World} {v:Value} {l:List α} (h:Rd k enc ok H w v l) (hH:∀ b,H b→H' b):Rd k enc ok H' w v l:=⟨h.1,fun ad n c e hn=>hH _ (h.2 ad n c e hn)⟩
theorem Rd.top {H:Nat→Prop} {w:World} {v:Value} {l:List α} (h:Rd k enc ok H w v l):Rd k enc ok (fun _=>True) w v l:=h.mono fun _ _=>trivial
def Fsh (H:Nat→Prop) (w:World) (b:Nat):Prop:=H b∨w.heap.size≤b
theorem Rd.got {G:Nat→Prop} {w0 w w':World} {L L':List Atom} {v:Value} {l:List α} (hw:w0.heap.size≤w.heap.size) (h:Rd k enc ok (Fsh (V G w0 L) w) w' v l) (m:Mv L w L' w') (hL:∀ b,w.heap.size≤b→¬ fps L' b):Rd k enc ok (V G w0 L') w' v l:=by
 refine ⟨h.1,fun ad n c e hn=>?_⟩
 rcases h.2 ad n c e hn with h1|h1
 ·refine ⟨h1.1,fun h3=>(m.fresh _ h3).elim h1.2 fun h4=>?_⟩
  exact hL _ h4 h3
 exact ⟨.inr (Nat.le_trans hw h1),hL _ h1⟩
theorem Rd.start {G:Nat→Prop} {w0:World} {L:List Atom} {v:Value} {l:List α} (h:Rd k enc ok G w0 v l) (hL:∀ b,G b→¬ fps L b):Rd k enc ok (V G w0 L) w0 v l:=⟨h.1,fun ad n c e hn=>⟨.inl (h.2 ad n c e hn),hL _ (h.2 ad n c e hn)⟩⟩
theorem Rd.give {G:Nat→Prop} {w0 w:World} {L:List Atom} {v:Value} {l:List α} (h:Rd k enc ok (V G w0 L) w v l):Rd k enc ok (Fsh G w0) w v l:=h.mono fun _ hb=>hb.1
theorem Rd.inv {H:Nat→Prop} {w:World} {a:Option Addr} {n c:Nat} {l:List α} (h:Rd k enc ok H w (.slice a n c) l):n=l.length∧n≤c∧c≤9223372036854775807∧(a=none→l=[]):=by
 obtain ⟨a',cap,e,h1,h2,h3,h4⟩:=h.1.inv
 cases e
 exact ⟨rfl,h1,zO,fun e=>(h4 e).1⟩
theorem Rd.nil {H:Nat→Prop} {w:World} : Rd k enc ok H w (.slice none 0 0) ([]:List α):=⟨RSl.nil _ _ _,fun _ _ _ e=>by cases e⟩
theorem Rd.at {H:Nat→Prop} {w:World} {a:Option Addr} {n c:Nat} {l:List α} (h:Rd k enc ok H w (.slice a n c) l) (i:Nat) (hi:i < n) :
 ∃ b off x,a=some ⟨b,off,none⟩∧nth l i=some x∧ok x∧(enc x).length=k∧∀ j v,(enc x)[j]? = some v→w.cell? ((⟨b,off+i * k,none⟩:Addr).add j)=some v:=by
 obtain ⟨b,off,x,row,h1,h2,h3,⟨rfl,h4⟩,h5⟩:=h.1.at i hi
 exact ⟨b,off,x,h1,by rw [JO];exact h2,h4,h3,fun j v hj=>by rw [J0a];exact h5 j v hj⟩
end
theorem At.rd {α:Type} {e k:Nat} {enc:α→List Value} {ok:α→Prop} {w:World} {L:List Atom} (h:At w L) (hk:∀ x,(enc x).length=k) (i:Nat) {v:Value} {l:List α} (hL:nth L i=some (ow e k enc ok v l)):Rd k enc ok (fun _=>True) w v l:=
 ⟨Own.rd hk (h.ok _ (Jm hL)),fun _ _ _ _ _=>trivial⟩
theorem At.freeze {α:Type} {e k:Nat} {enc:α→List Value} {ok:α→Prop} {G:Nat→Prop} {w0 w:World} {L L0:List Atom} (m:Mv L0 w0 L w) (hk:∀ x,(enc x).length=k) (i:Nat) {v:Value} {l:List α} (hL:nth L i=some (ow e k enc ok v l)) (hf:∀ b,v.ownBlock=some b→w0.heap.size≤b) :
 Rd k enc ok (V G w0 (del L [i])) w v l:=by
 have hO:Own e k enc ok w v l:=m.at'.ok _ (Jm hL)
 refine ⟨Own.rd hk hO,fun ad n c e' hn=>?_⟩
 have hb:v.ownBlock=some ad.block:=by subst e';rfl
 refine ⟨.inr (hf _ hb),?_⟩
 rintro ⟨B,hB,hb'⟩
 obtain ⟨j,h1,h2⟩:=J3Q hB
 exact m.at'.apartAt hL h1 (fun e=>h2 (by simp [e])) _ hb hb'
theorem At.drop {w:World} {L:List Atom} (h:At w L) (i:Nat):Mv L w (del L [i]) w:=
 ⟨⟨fun A hA=>h.ok A ((J34 L [i]).subset hA),fun b hb=>h.lt b (J2K (fun _A hA=>(J34 L [i]).subset hA) hb),h.apart.sublist (J34 L [i])⟩,fun _b hb=>.inl (J2K (fun _A hA=>(J34 L [i]).subset hA) hb),Kp.refl _ _⟩
abbrev bE_:ByteArray:=⟨#[]⟩
abbrev bT_:ByteArray:=⟨#[42]⟩
def J3 (s:ByteArray):List Value:=[.string s]
def okS (s:ByteArray):Prop:=s.size≤9223372036854775807
set_option maxHeartbeats 1000000
theorem strT:ElemT prog 44 9 (.string ⟨#[]⟩) 1 16 J3 where
 ht:=underlying44
 hT:=⟨by kernel_rfl,rfl,zO⟩
 hk:=fun _=>rfl
 h1:=fun x u hu=>by simp [J3] at hu;subst hu;rfl
 by0:=by omega
abbrev RStrs (w:World) (v:Value) (l:List ByteArray):Prop:=RSl 1 (Enc J3 okS) w v l
abbrev OStrs (w:World) (v:Value) (l:List ByteArray):Prop:=Own 9 1 J3 okS w v l
theorem OStrs.rd {w:World} {v:Value} {l:List ByteArray} (h:OStrs w v l):RStrs w v l:=Own.rd strT.hk h
theorem RStrs.at {w:World} {a:Option Addr} {n cap:Nat} {l:List ByteArray} (h:RStrs w (.slice a n cap) l) (i:Nat) (hi:i < n) :
 ∃ b off s,a=some ⟨b,off,none⟩∧l[i]? = some s∧s.size≤9223372036854775807∧w.cell? ⟨b,off+i,none⟩=some (.string s):=by
 obtain ⟨b,off,s,row,h1,h2,h3,⟨rfl,h4⟩,h5⟩:=RSl.at h i hi
 exact ⟨b,off,s,h1,h2,h4,by simpa using h5 0 (.string s) rfl⟩
theorem RStrs.below {w w':World} {v:Value} {l:List ByteArray} (h:RStrs w v l) (hb:Bl w w'):RStrs w' v l:=RSl.below (Enc.stable _ _) h hb
end Go.Proofs.YtipdbeklopjbmaaGreatDoor
