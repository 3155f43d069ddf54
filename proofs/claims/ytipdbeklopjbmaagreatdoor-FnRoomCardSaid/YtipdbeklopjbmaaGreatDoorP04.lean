/-
  Texts laid together: Eng17, Eng18, Eng10, Touch, Touch2, Cells, Nest, Eng14.
-/
import Derived.Test.YtipdbeklopjbmaaGreatDoorP03
set_option linter.unusedVariables false
set_option linter.unusedSimpArgs false
namespace Go.Proofs.YtipdbeklopjbmaaGreatDoor
open Go.ChangeShapes Go.WideShapes Go.ChangeAt Go.RowKit Go.Proofs.Tryz
def J4J (m:List (Nat × Value)) (o:Oper):Option Value:=
 match o.op with
 | .move x=>opd m x
 | .assign x=>opd m x
 | .extract x i=>match opd m x with
  | some (.tuple vs)=>nth vs.toList i
  | _=>none
 | .pick c x y=>match opd m c with
  | some (.bool true)=>opd m x
  | some (.bool false)=>opd m y
  | _=>none
 | .unOp .not _ x=>match opd m x with
  | some (.bool b)=>some (.bool (!b))
  | _=>none
 | .binOp op _ x y _=>match J7H op,opd m x,opd m y with
  | true,some (.int .i64 i),some (.int .i64 j)=>some (.bool (J4g op i j))
  | true,some (.int .u8 i),some (.int .u8 j)=>some (.bool (J4g op i j))
  | true,some (.string i),some (.string j)=>some (.bool (J7P op i j))
  | _,_,_=>none
 | _=>none
section
variable {P:Program} {ops:Array Oper} {Q:Exit→Act→World→Prop} {o:Oper} {rest:List Oper} {a:Act} {w:World} {d n:Nat} {m:List (Nat × Value)} {v:Value} {x y:Operand} {K:Act→World→Prop}
theorem J9l (F:Fr n m a) (h:J4J m o=some v) (w:World):(execOp a.eval o).run P w=.ok (.value v) w:=by
 unfold J4J at h
 split at h
 ·rename_i ho;exact J5B ho (F.g h)
 ·rename_i ho;exact J9X ho (F.g h)
 ·rename_i x i ho
  split at h
  ·rename_i vs hx;exact J9n ho (F.g hx) (by rw [JO] at h;simpa using h)
  cases h
 ·rename_i c x y ho
  split at h
  ·rename_i hc;exact J7t (b:=true) ho (F.g hc) (F.g h)
  ·rename_i hc;exact J7t (b:=false) ho (F.g hc) (F.g h)
  cases h
 ·rename_i t x ho
  split at h
  ·rename_i b hx;cases h;exact J0q ho (F.g hx)
  cases h
 ·rename_i op t x y u ho
  split at h
  ·rename_i h1 h2 h3;cases h;exact J3H (J5k h1) ho (F.g h2) (F.g h3) rfl
  ·rename_i h1 h2 h3;cases h;exact J3H (J5k h1) ho (F.g h2) (F.g h3) rfl
  ·rename_i h1 h2 h3;cases h;exact J0O (J5k h1) ho (F.g h2) (F.g h3) rfl
  cases h
 cases h
theorem m_pl (F:Fr n m a) (h:J4J m o=some v) (hw:J8 ops m o=some true) (hd:o.dst=some d) (hp:Nat.blt d n=true) (k:∀ a',Fr n ((d,v)::m) a'→wpList P ops Q rest a' w):wpList P ops Q (o::rest) a w:=
 J0 (Jf F (Jk F hw) hd (J9l F h w) hp k)
def J2t (P:Program) (ops:Array Oper) (Q:Exit→Act→World→Prop) (nd:Nat→Bool) (S:World→Prop):Nat→Array Bool→Act→World→Prop
 | 0,listed,a,w=>Region.ready .any ops listed=[]∧Q .normal a w
 | fuel+1,listed,a,w=>(Region.ready .any ops listed=[]→Q .normal a w) ∧
  ∀ i ∈ Region.ready .any ops listed,wpOp P ops Q i (fun a' w'=>(nd i=true→S w→S w')∧J2t P ops Q nd S fuel (listed.setIfInBounds i true) a' w') a w
variable {S T:World→Prop} {nd:Nat→Bool} {ex:List Nat}
theorem J6J:∀ (fuel:Nat) (listed:Array Bool) (a:Act) (w:World),J2t P ops Q nd S fuel listed a w→wpAny P .any ops Q fuel listed a w
 | 0,_,_,_,h=>h
 | fuel+1,_,_,_,h=>⟨h.1,fun i hi=>wpOp_mono (fun a' w' h'=>J6J fuel _ a' w' h'.2) (h.2 i hi)⟩
theorem J53 {i:Nat} {oi:Oper} {v:Value} (hi:ops[i]? = some oi) (hsel:∀ (j:Nat) (o:Oper) cs b,ops[j]? = some o→o.op≠.select cs b)
 (hQ:∀ c a w,Q (.panic c) (a.put oi.dst v) w→Q (.panic c) a w)
 (hT:∀ j oj,ops[j]? = some oj→(∀ e ∈ oj.after,Region.binds .any e=true→e.on≠i)→∀ w w',(nd j=true→S w→S w')→T w→T w') :
 ∀ (fuel:Nat) (listed:Array Bool) (a:Act) (w:World),
  (∀ j oj,ops[j]? = some oj→j≠i→listed.getD j true=false→(∀ e ∈ oj.after,Region.binds .any e=true→e.on≠i)→oi.apart ops oj=true) →
  i ∈ Region.ready .any ops listed→YieldsIf P ops T oi v a→T w →
  J2t P ops Q nd S fuel (listed.setIfInBounds i true) (a.put oi.dst v) w→J2t P ops Q nd S (fuel+1) listed a w:=by
 intro fuel
 induction fuel with
 | zero=>
  intro listed a w _ hr hy hS H
  refine ⟨fun h=>(by rw [h] at hr;cases hr),fun j hj=>?_⟩
  by_cases hji:j=i
  ·subst hji;exact hy.wpOp hi hS ⟨fun _ h=>h,H⟩
  have:=ready_mono hj hji
  rw [H.1] at this
  cases this
 | succ fuel ih=>
  intro listed a w hfree hr hy hS H
  refine ⟨fun h=>(by rw [h] at hr;cases hr),fun j hj=>?_⟩
  by_cases hji:j=i
  ·subst hji;exact hy.wpOp hi hS ⟨fun _ h=>h,H⟩
  have h1:=H.2 j (ready_mono hj hji)
  obtain ⟨hjun,oj,hoj,hall⟩:=mem_ready.1 hj
  have hnot:∀ e ∈ oj.after,Region.binds .any e=true→e.on≠i:=fun e he hb heq=>by
   have h1:=hall e he hb
   have h0:=(mem_ready.1 hr).1
   rw [heq] at h1
   rcases Nat.lt_or_ge i listed.size with h'|h'
   ·simp [h'] at h0 h1;rw [h0] at h1;cases h1
   simp [Array.getElem?_eq_none h'] at h1
  have h2:=wpOp_putIf hoj (hfree j oj hoj hji hjun hnot) (fun cs b=>hsel i oi cs b hi) (fun cs b=>hsel j oj cs b hoj) hQ hy h1
  have hfree':∀ k ok,ops[k]? = some ok→k≠i→(listed.setIfInBounds j true).getD k true=false →
   (∀ e ∈ ok.after,Region.binds .any e=true→e.on≠i)→oi.apart ops ok=true:=fun k ok hk hki hun hno=>by
   refine hfree k ok hk hki ?_ hno
   by_cases hjk:j=k
   ·subst hjk;exact hjun
   rw [getD_set_ne true hjk] at hun;exact hun
  refine wpOp_mono (fun a' w' h3=>⟨h3.2.1,ih (listed.setIfInBounds j true) a' w' hfree' (ready_mono hr (Ne.symm hji)) h3.1 (hT j oj hoj hnot w w' h3.2.1 hS) ?_⟩) h2
  rw [Array.setIfInBounds_comm _ _ hji]
  exact h3.2.2
def JM (o:Oper):Bool:=match o.op with
 | .load _ _=>true
 | _=>false
def JT (o:Oper):Bool:=match o.op with
 | .move _ | .assign _ | .pick _ _ _ | .extract _ _ | .binOp _ _ _ _ _ | .unOp _ _ _ | .load _ _ | .fieldAddr _ _ _ | .indexAddr _ _ _ | .index _ _ _ | .slice _ _ _ _ _ | .nilCheck _=>true
 | .call c=>match c.callee with
  | .builtin .len=>true
  | .builtin .min=>true
  | _=>false
 | _=>false
def J5x (o:Oper) (i:Nat):Bool:=o.after.any fun e=>Region.binds .any e && e.on == i
def J0E (ops:Array Oper) (ex:List Nat) (j:Nat):Bool:=match ops[j]? with
 | some oj=>(List.range ops.size).any fun i=>(match ops[i]? with
  | some oi=>JM oi && !ex.contains i
  | none=>false) && !J5x oj i
 | none=>false
theorem Jau {ex:List Nat} {i j:Nat} {oi oj:Oper} (hi:ops[i]? = some oi) (hl:JM oi=true) (hx:ex.contains i=false) (hj:ops[j]? = some oj) (he:∀ e ∈ oj.after,Region.binds .any e=true→e.on≠i):J0E ops ex j=true:=by
 unfold J0E
 rw [hj]
 refine List.any_eq_true.2 ⟨i,List.mem_range.2 (Array.getElem?_eq_some_iff.1 hi).1,?_⟩
 rw [hi]
 have:J5x oj i=false:=by
  cases h:J5x oj i
  ·rfl
  obtain ⟨e,h1,h2⟩:=Array.any_eq_true'.1 h
  simp only [Bool.and_eq_true,beq_iff_eq] at h2
  exact absurd h2.2 (he e h1 h2.1)
 show ((JM oi && !ex.contains i) && !J5x oj i)=true
 rw [this,hl,hx];rfl
def J38 (ops:Array Oper) (ex:List Nat):List Nat→Array Bool→Bool
 | [],listed=>(Region.ready .any ops listed).isEmpty
 | i::r,listed=>(match ops[i]? with
  | none=>false
  | some o=>if (JT o && !ex.contains i)=true then (Region.ready .any ops listed).contains i && Region.free .any ops listed i else Region.ready .any ops listed == [i]) && J38 ops ex r (listed.setIfInBounds i true)
def Ji (P:Program) (ops:Array Oper) (ex:List Nat) (Q:Exit→Act→World→Prop) (S:World→Prop):List Nat→Act→World→Prop
 | [],a,w=>Q .normal a w
 | i::r,a,w=>∃ o,ops[i]? = some o∧if (JT o && !ex.contains i)=true then
  ∃ v,(if JM o=true then S w∧YieldsIf P ops S o v a else YieldsIf P ops (fun _=>True) o v a)∧Ji P ops ex Q S r (a.put o.dst v) w
  else st1 P ops Q o (fun a' w'=>(J0E ops ex i=true→S w→S w')∧Ji P ops ex Q S r a' w') a w
theorem J5l (hs:Region.noSelect ops=true) (hQ:∀ c a w,¬ Q (.panic c) a w):∀ (order:List Nat) (listed:Array Bool) (a:Act) (w:World),J38 ops ex order listed=true→Ji P ops ex Q S order a w→J2t P ops Q (J0E ops ex) S order.length listed a w
 | [],listed,a,w,hc,h=>⟨List.isEmpty_iff.1 hc,h⟩
 | i::r,listed,a,w,hc,h=>by
  unfold J38 at hc
  rw [Bool.and_eq_true] at hc
  obtain ⟨hc1,hc2⟩:=hc
  unfold Ji at h
  obtain ⟨o,ho,h⟩:=h
  rw [ho] at hc1
  simp only at hc1
  by_cases ht:(JT o && !ex.contains i)=true
  ·rw [if_pos ht,Bool.and_eq_true] at hc1
   rw [if_pos ht] at h
   obtain ⟨v,hy,h⟩:=h
   have hn:=J5l hs hQ r _ _ w hc2 h
   by_cases hl:JM o=true
   ·rw [if_pos hl] at hy
    exact J53 (T:=S) ho (Region.noSelect_spec hs) (fun c a w q=>absurd q (hQ c _ w)) (fun j oj hj he w w' hp hS=>hp (Jau ho hl (by simp only [Bool.and_eq_true,Bool.not_eq_true'] at ht;exact ht.2) hj he) hS) _ _ _ _ (Region.free_spec ho hc1.2) (by simpa using hc1.1) hy.2 hy.1 hn
   rw [if_neg hl] at hy
   exact J53 (T:=fun _=>True) ho (Region.noSelect_spec hs) (fun c a w q=>absurd q (hQ c _ w)) (fun _ _ _ _ _ _ _ _=>trivial) _ _ _ _ (Region.free_spec ho hc1.2) (by simpa using hc1.1) hy trivial hn
  rw [if_neg ht] at hc1 h
  have hr:Region.ready .any ops listed=[i]:=by simpa using hc1
  refine ⟨fun h0=>(by rw [hr] at h0;cases h0),fun j hj=>?_⟩
  rw [hr] at hj
  obtain rfl:=List.mem_singleton.1 hj
  unfold wpOp
  rw [ho]
  exact wpOp_mono' (fun a' w' h'=>⟨h'.1,J5l hs hQ r _ a' w' hc2 h'.2⟩) h
where
 wpOp_mono' {o:Oper} {K K':Act→World→Prop} {a:Act} {w:World} (h:∀ a w,K a w→K' a w) (hh:st1 P ops Q o K a w):st1 P ops Q o K' a w:=by
  unfold st1 at *
  split
  ·rename_i hw;rw [if_pos hw] at hh;exact hh.imp (Oper.wp_mono h) id
  rename_i hw;rw [if_neg hw] at hh;exact h _ _ hh
theorem J7W {id:Nat} (ex order:List Nat) (S:World→Prop) (hm:P.follows .mixedOrders=true) (hc:(order.length == ops.size && Region.noSelect ops && J38 ops ex order (Array.replicate ops.size false))=true)
 (h:Ji P ops ex (Exit.then (fun a w=>Q .normal a w) fun _ _ _=>False) S order a w.drew):(Code.region id ops true).wp P Q a w:=by
 rw [Bool.and_eq_true,Bool.and_eq_true] at hc
 have hl:order.length=ops.size:=by simpa using hc.1.1
 refine J3J (fun a w=>Q .normal a w) (wp_region_any hm (J6J _ _ _ _ (nd:=J0E ops ex) (S:=S) ?_)) fun _ _ h=>h
 have:=J5l hc.1.2 (fun _ _ _ h=>h) order _ _ _ hc.2 h
 rw [hl] at this
 exact this
theorem Jbn (h:Q .normal a w):Ji P ops ex (Exit.then (fun a w=>Q .normal a w) fun _ _ _=>False) S [] a w:=h
variable {r:List Nat} {i:Nat}
theorem JbS (F:Fr n m a) (hi:ops[i]? = some o) (ht:((JT o && !ex.contains i) && !JM o)=true) (h:J4J m o=some v) (hw:J8 ops m o=some true) (hd:o.dst=some d) (hp:Nat.blt d n=true) (k:∀ a',Fr n ((d,v)::m) a'→Ji P ops ex Q S r a' w):Ji P ops ex Q S (i::r) a w:=by
 rw [Bool.and_eq_true] at ht
 have hl:JM o=false:=by simpa using ht.2
 refine ⟨o,hi,?_⟩
 rw [if_pos ht.1]
 refine ⟨v,by rw [if_neg (by rw [hl];decide)];exact .inl ⟨Jk F hw,fun w _=>J9l F h w⟩,?_⟩
 rw [hd]
 exact k _ (F.put rfl hp)
theorem J2w (F:Fr n m a) (hi:ops[i]? = some o) (ht:((JT o && !ex.contains i) && !JM o)=true) (h:∀ w,(execOp a.eval o).run P w=.ok (.value v) w) (hw:J8 ops m o=some true) (hd:o.dst=some d) (hp:Nat.blt d n=true) (k:∀ a',Fr n ((d,v)::m) a'→Ji P ops ex Q S r a' w):Ji P ops ex Q S (i::r) a w:=by
 rw [Bool.and_eq_true] at ht
 have hl:JM o=false:=by simpa using ht.2
 refine ⟨o,hi,?_⟩
 rw [if_pos ht.1]
 refine ⟨v,by rw [if_neg (by rw [hl];decide)];exact .inl ⟨Jk F hw,fun w _=>h w⟩,?_⟩
 rw [hd]
 exact k _ (F.put rfl hp)
theorem JbT (F:Fr n m a) (hi:ops[i]? = some o) (ht:((JT o && !ex.contains i) && !JM o)=true) (hw:J8 ops m o=some false) (hd:o.dst=some d) (hp:Nat.blt d n=true) (k:∀ a',Fr n ((d,undef)::m) a'→Ji P ops ex Q S r a' w):Ji P ops ex Q S (i::r) a w:=by
 rw [Bool.and_eq_true] at ht
 have hl:JM o=false:=by simpa using ht.2
 refine ⟨o,hi,?_⟩
 rw [if_pos ht.1]
 refine ⟨undef,by rw [if_neg (by rw [hl];decide)];exact .inr ⟨Jk F hw,rfl⟩,?_⟩
 rw [hd]
 exact k _ (F.put rfl hp)
theorem J2 (hi:ops[i]? = some o) (ht:(JT o && !ex.contains i)=false) (h:st1 P ops Q o (fun a' w'=>(J0E ops ex i=true→S w→S w')∧Ji P ops ex Q S r a' w') a w):Ji P ops ex Q S (i::r) a w:=⟨o,hi,by rw [if_neg (by rw [ht];decide)];exact h⟩
abbrev Hld:Type:=Nat × List Value × TypeId
def HdS (l:List Hld) (w:World):Prop:=∀ p ∈ l,w.heap[p.1]? = some (.cells p.2.1.toArray p.2.2 (0,0))
theorem HdS.bl {l:List Hld} {w w':World} (h:HdS l w) (hb:Bl w w'):HdS l w':=fun p hp=>(hb.block p.1 (Array.getElem?_eq_some_iff.1 (h p hp)).1).trans (h p hp)
theorem HdS.nil {w:World} : HdS [] w:=fun _ h=>by cases h
theorem HdS.cons {l:List Hld} {w:World} {L:List Atom} {b:Nat} {cs:List Value} {T:TypeId} (A:At w L) (j:Nat) (hL:nth L j=some (bx b cs T)) (h:HdS l w):HdS ((b,cs,T)::l) w:=fun p hp=>by
 rcases List.mem_cons.1 hp with rfl|hp
 ·exact A.ok _ (Jm hL)
 exact h p hp
theorem Jn {L:List Atom} {t:TypeId} {g:Bool} {k b off:Nat} {cs vs:List Value} {T:TypeId} [I:TIc P t g k] (F:Fr n m a) (A:At w L) (q:Nat) (ho:o.op=.load t x) (hw:J8 ops m o=some true) (hx:opd m x=some (.pointer (some ⟨b,off,none⟩))) (hq:nth L q=some (bx b cs T))
 (hv:(cs.drop off).take k=vs) (hk:vs.length=k) (hg:(g || k == 1)=true) (hd:o.dst=some d) (hp:Nat.blt d n=true) (kk:∀ a',Fr n ((d,J1O g vs)::m) a'→wpList P ops Q rest a' w):wpList P ops Q (o::rest) a w:=
 J0 (Jf F (Jk F hw) hd (JZ A q I.h hq ho (F.g hx) hv hk (fun e=>by subst e;simpa using hg) rfl) hp kk)
end
inductive OT where
 | l (is:List Nat)
 | b2 (is:List Nat) (i:Nat) (x:OT) (j:Nat) (y:OT)
 | b3 (is:List Nat) (i:Nat) (x:OT) (j:Nat) (y:OT) (k:Nat) (z:OT)
def OT.size:OT→Nat
 | .l is=>is.length
 | .b2 is _ x _ _=>is.length+(x.size+1)
 | .b3 is _ x _ _ _ _=>is.length+(x.size+1)
abbrev QF (C:Act→World→Prop):Exit→Act→World→Prop:=Exit.then C fun _ _ _=>False
section
variable {P:Program} {ops:Array Oper} {S:World→Prop} {ex:List Nat} {o:Oper} {a:Act} {w:World} {C C' C1:Act→World→Prop} {K K':Act→World→Prop} {nd:Nat→Bool}
theorem JaH (h:∀ a w,K a w→K' a w) (hh:st1 P ops (QF C) o K a w):st1 P ops (QF C') o K' a w:=by
 unfold st1 at *
 split
 ·rename_i hw
  rw [if_pos hw] at hh
  rcases hh with hh|hh
  ·refine .inl ?_
   unfold Oper.wp at *
   generalize (execOp a.eval o).run P w=r at *
   unfold Oper.upon at *
   split <;> simp only at hh ⊢
   ·exact h _ _ hh
   ·exact h _ _ hh
   ·exact h _ _ hh
   ·refine hh.mono fun e w'=>?_
    cases e
    ·exact h _ _
    ·exact id
    rintro ⟨_,_,hf⟩;exact hf.elim
   ·exact Rows.mono hh fun _ _ hk=>h _ _ hk
   exact hh
  obtain ⟨_,⟨_,_,hf⟩⟩:=hh;exact hf.elim
 rename_i hw
 rw [if_neg hw] at hh
 exact h _ _ hh
def J3g (is:List Nat) (listed:Array Bool):Array Bool:=is.foldl (fun l i=>l.setIfInBounds i true) listed
def J4M (ops:Array Oper) (ex:List Nat):List Nat→Array Bool→Bool
 | [],_=>true
 | i::r,listed=>(match ops[i]? with
  | none=>false
  | some o=>if (JT o && !ex.contains i)=true then (Region.ready .any ops listed).contains i && Region.free .any ops listed i else Region.ready .any ops listed == [i]) && J4M ops ex r (listed.setIfInBounds i true)
theorem J5m {n:Nat} (hs:Region.noSelect ops=true):∀ (is:List Nat) (listed:Array Bool) (a:Act) (w:World),J4M ops ex is listed=true→Ji P ops ex (QF C') S is a w →
 (∀ a w,C' a w→J2t P ops (QF C) (J0E ops ex) S n (J3g is listed) a w)→J2t P ops (QF C) (J0E ops ex) S (is.length+n) listed a w
 | [],listed,a,w,_,h,hE=>by
  rw [List.length_nil,Nat.zero_add];exact hE a w h
 | i::r,listed,a,w,hc,h,hE=>by
  unfold J4M at hc
  rw [Bool.and_eq_true] at hc
  obtain ⟨hc1,hc2⟩:=hc
  unfold Ji at h
  obtain ⟨o,ho,h⟩:=h
  rw [ho] at hc1
  simp only at hc1
  rw [List.length_cons,show r.length+1+n=(r.length+n)+1 by omega]
  by_cases ht:(JT o && !ex.contains i)=true
  ·rw [if_pos ht,Bool.and_eq_true] at hc1
   rw [if_pos ht] at h
   obtain ⟨v,hy,h⟩:=h
   have hn:=J5m hs r _ _ w hc2 h hE
   by_cases hl:JM o=true
   ·rw [if_pos hl] at hy
    exact J53 (T:=S) ho (Region.noSelect_spec hs) (fun c a w q=>q) (fun j oj hj he w w' hp hS=>hp (Jau ho hl (by simp only [Bool.and_eq_true,Bool.not_eq_true'] at ht;exact ht.2) hj he) hS) _ _ _ _ (Region.free_spec ho hc1.2) (by simpa using hc1.1) hy.2 hy.1 hn
   rw [if_neg hl] at hy
   exact J53 (T:=fun _=>True) ho (Region.noSelect_spec hs) (fun c a w q=>q) (fun _ _ _ _ _ _ _ _=>trivial) _ _ _ _ (Region.free_spec ho hc1.2) (by simpa using hc1.1) hy trivial hn
  rw [if_neg ht] at hc1 h
  have hr:Region.ready .any ops listed=[i]:=by simpa using hc1
  refine ⟨fun h0=>(by rw [hr] at h0;cases h0),fun j hj=>?_⟩
  rw [hr] at hj
  obtain rfl:=List.mem_singleton.1 hj
  unfold wpOp
  rw [ho]
  exact JaH (fun a' w' h'=>⟨h'.1,J5m hs r _ a' w' hc2 h'.2 hE⟩) h
def J1X (ops:Array Oper) (ex:List Nat):OT→Array Bool→Bool
 | .l is,L=>J38 ops ex is L
 | .b2 is i x j y,L=>J4M ops ex is L && ((Region.ready .any ops (J3g is L) == [i,j]) && (Nat.beq x.size y.size && (J1X ops ex x ((J3g is L).setIfInBounds i true) && J1X ops ex y ((J3g is L).setIfInBounds j true))))
 | .b3 is i x j y k z,L=>J4M ops ex is L && ((Region.ready .any ops (J3g is L) == [i,j,k]) && (Nat.beq x.size y.size && (Nat.beq x.size z.size && (J1X ops ex x ((J3g is L).setIfInBounds i true) && (J1X ops ex y ((J3g is L).setIfInBounds j true) && J1X ops ex z ((J3g is L).setIfInBounds k true))))))
def stp (P:Program) (ops:Array Oper) (ex:List Nat) (C:Act→World→Prop) (S:World→Prop) (i:Nat) (K:Act→World→Prop) (a:Act) (w:World):Prop:=
 ∃ o,ops[i]? = some o∧st1 P ops (QF C) o (fun a' w'=>(J0E ops ex i=true→S w→S w')∧K a' w') a w
def J01 (P:Program) (ops:Array Oper) (ex:List Nat) (C:Act→World→Prop) (S:World→Prop):OT→Act→World→Prop
 | .l is=>Ji P ops ex (QF C) S is
 | .b2 is i x j y=>Ji P ops ex (QF fun a w=>stp P ops ex C S i (J01 P ops ex C S x) a w∧stp P ops ex C S j (J01 P ops ex C S y) a w) S is
 | .b3 is i x j y k z=>Ji P ops ex (QF fun a w=>stp P ops ex C S i (J01 P ops ex C S x) a w∧stp P ops ex C S j (J01 P ops ex C S y) a w∧stp P ops ex C S k (J01 P ops ex C S z) a w) S is
theorem J4B {n i:Nat} {L:Array Bool} (h:stp P ops ex C S i K a w) (hk:∀ a w,K a w→J2t P ops (QF C) (J0E ops ex) S n (L.setIfInBounds i true) a w) :
 wpOp P ops (QF C) i (fun a' w'=>(J0E ops ex i=true→S w→S w')∧J2t P ops (QF C) (J0E ops ex) S n (L.setIfInBounds i true) a' w') a w:=by
 obtain ⟨o,ho,h⟩:=h
 unfold wpOp
 rw [ho]
 exact JaH (fun a' w' h'=>⟨h'.1,hk a' w' h'.2⟩) h
theorem J41 (hs:Region.noSelect ops=true):∀ (x:OT) (listed:Array Bool) (a:Act) (w:World),J1X ops ex x listed=true→J01 P ops ex C S x a w→J2t P ops (QF C) (J0E ops ex) S x.size listed a w
 | .l is,listed,a,w,hc,h=>J5l hs (fun _ _ _ h=>h) is listed a w hc h
 | .b2 is i x j y,listed,a,w,hc,h=>by
  unfold J1X at hc
  simp only [Bool.and_eq_true,beq_iff_eq,Nat.beq_eq] at hc
  obtain ⟨h1,h2,h3,h4,h5⟩:=hc
  refine J5m hs is listed a w h1 h fun a w hk=>?_
  refine ⟨fun h0=>(by rw [h2] at h0;cases h0),fun q hq=>?_⟩
  rw [h2] at hq
  simp only [List.mem_cons,List.not_mem_nil,or_false] at hq
  rcases hq with rfl|rfl
  ·exact J4B hk.1 fun a w hx=>J41 hs x _ a w h4 hx
  exact J4B hk.2 fun a w hx=>h3 ▸ J41 hs y _ a w h5 hx
 | .b3 is i x j y k z,listed,a,w,hc,h=>by
  unfold J1X at hc
  simp only [Bool.and_eq_true,beq_iff_eq,Nat.beq_eq] at hc
  obtain ⟨h1,h2,h3,h4,h5,h6,h7⟩:=hc
  refine J5m hs is listed a w h1 h fun a w hk=>?_
  refine ⟨fun h0=>(by rw [h2] at h0;cases h0),fun q hq=>?_⟩
  rw [h2] at hq
  simp only [List.mem_cons,List.not_mem_nil,or_false] at hq
  rcases hq with rfl|rfl|rfl
  ·exact J4B hk.1 fun a w hx=>J41 hs x _ a w h5 hx
  ·exact J4B hk.2.1 fun a w hx=>h3 ▸ J41 hs y _ a w h6 hx
  exact J4B hk.2.2 fun a w hx=>h4 ▸ J41 hs z _ a w h7 hx
theorem J60 {id:Nat} {Q:Exit→Act→World→Prop} (order:OT) (hm:P.follows .mixedOrders=true) (hc:(Nat.beq order.size ops.size && Region.noSelect ops && J1X ops ex order (Array.replicate ops.size false))=true)
 (h:J01 P ops ex (fun a w=>Q .normal a w) S order a w.drew):(Code.region id ops true).wp P Q a w:=by
 rw [Bool.and_eq_true,Bool.and_eq_true] at hc
 have hl:order.size=ops.size:=Nat.eq_of_beq_eq_true hc.1.1
 refine J3J (fun a w=>Q .normal a w) (wp_region_any hm (J6J _ _ _ _ (nd:=J0E ops ex) (S:=S) ?_)) fun _ _ h=>h
 have:=J41 hc.1.2 order _ _ _ hc.2 h
 rw [hl] at this
 exact this
theorem J03 {i j:Nat} {x y:OT} (h1:stp P ops ex C S i (J01 P ops ex C S x) a w) (h2:stp P ops ex C S j (J01 P ops ex C S y) a w):Ji P ops ex (QF fun a w=>stp P ops ex C S i (J01 P ops ex C S x) a w∧stp P ops ex C S j (J01 P ops ex C S y) a w) S [] a w:=⟨h1,h2⟩
theorem J4R {i j k:Nat} {x y z:OT} (h1:stp P ops ex C S i (J01 P ops ex C S x) a w) (h2:stp P ops ex C S j (J01 P ops ex C S y) a w) (h3:stp P ops ex C S k (J01 P ops ex C S z) a w):Ji P ops ex (QF fun a w=>stp P ops ex C S i (J01 P ops ex C S x) a w∧stp P ops ex C S j (J01 P ops ex C S y) a w∧stp P ops ex C S k (J01 P ops ex C S z) a w) S [] a w:=⟨h1,h2,h3⟩
theorem Jh {i:Nat} (ho:ops[i]? = some o) (h:st1 P ops (QF C) o (fun a' w'=>(J0E ops ex i=true→S w→S w')∧K a' w') a w):stp P ops ex C S i K a w:=⟨o,ho,h⟩
theorem oH {i:Nat} {w':World} {R:Act→Prop} (hS:S w') (k:∀ a',R a'→K a' w'):∀ a',R a'→(J0E ops ex i=true→S w→S w')∧K a' w':=fun a' h'=>⟨fun _ _=>hS,k a' h'⟩
theorem oF {i:Nat} {w':World} {R:Act→Prop} (k:∀ a',R a'→K a' w') (h:J0E ops ex i=false:=by kernel_rfl):∀ a',R a'→(J0E ops ex i=true→S w→S w')∧K a' w':=fun a' h'=>⟨fun e=>(by rw [h] at e;cases e),k a' h'⟩
theorem enL {is:List Nat} (h:Ji P ops ex (QF C) S is a w):J01 P ops ex C S (.l is) a w:=h
theorem en2 {is:List Nat} {i j:Nat} {x y:OT} (h:Ji P ops ex (QF fun a w=>stp P ops ex C S i (J01 P ops ex C S x) a w∧stp P ops ex C S j (J01 P ops ex C S y) a w) S is a w):J01 P ops ex C S (.b2 is i x j y) a w:=h
theorem en3 {is:List Nat} {i j q:Nat} {x y z:OT} (h:Ji P ops ex (QF fun a w=>stp P ops ex C S i (J01 P ops ex C S x) a w∧stp P ops ex C S j (J01 P ops ex C S y) a w∧stp P ops ex C S q (J01 P ops ex C S z) a w) S is a w):J01 P ops ex C S (.b3 is i x j y q z) a w:=h
theorem oL {is:List Nat} {R:Act→Prop} (k:∀ a',R a'→Ji P ops ex (QF C) S is a' w):∀ a',R a'→J01 P ops ex C S (.l is) a' w:=k
theorem o2 {is:List Nat} {i j:Nat} {x y:OT} {R:Act→Prop} (k:∀ a',R a'→Ji P ops ex (QF fun a w=>stp P ops ex C S i (J01 P ops ex C S x) a w∧stp P ops ex C S j (J01 P ops ex C S y) a w) S is a' w):∀ a',R a'→J01 P ops ex C S (.b2 is i x j y) a' w:=k
theorem o3 {is:List Nat} {i j q:Nat} {x y z:OT} {R:Act→Prop} (k:∀ a',R a'→Ji P ops ex (QF fun a w=>stp P ops ex C S i (J01 P ops ex C S x) a w∧stp P ops ex C S j (J01 P ops ex C S y) a w∧stp P ops ex C S q (J01 P ops ex C S z) a w) S is a' w):∀ a',R a'→J01 P ops ex C S (.b3 is i x j y q z) a' w:=k
end
section
variable {P:Program} {ops:Array Oper} {S:World→Prop} {ex:List Nat} {o:Oper} {a:Act} {w:World} {Q:Exit→Act→World→Prop} {r:List Nat} {n i d:Nat} {m:List (Nat × Value)} {v:Value}
theorem J1K {id:Nat} {L:List Atom} (ex order:List Nat) (A:At w L) (is:List Nat) (hc:(order.length == ops.size && Region.noSelect ops && J38 ops ex order (Array.replicate ops.size false))=true)
 (h:∀ w',Mv L w L w'→Sd (sel L is) L w' w'→Ji P ops ex (Exit.then (fun a w=>Q .normal a w) fun _ _ _=>False) (Sd (sel L is) L w') order a w') (hm:P.follows .mixedOrders=true:=by exact mixed):(Code.region id ops true).wp P Q a w:=
 J7W ex order (Sd (sel L is) L w.drew) hm hc (h _ (J1U A) (Sd.of (Mv.refl (J1U A).at') is rfl))
theorem J2Q {id:Nat} {L:List Atom} (C:List Atom→Act→World→Prop) (ex:List Nat) (order:OT) (A:At w L) (is:List Nat) (hc:(Nat.beq order.size ops.size && Region.noSelect ops && J1X ops ex order (Array.replicate ops.size false))=true)
 (h:∀ w',Mv L w L w'→Sd (sel L is) L w' w'→J01 P ops ex (C L) (Sd (sel L is) L w') order a w') (k:∀ a w,C L a w→Q .normal a w) (hm:P.follows .mixedOrders=true:=by exact mixed):(Code.region id ops true).wp P Q a w:=
 J3J (C L) (J60 (Q:=QF (C L)) order hm hc (h _ (J1U A) (Sd.of (Mv.refl (J1U A).at') is rfl))) k
theorem nS {B:Prop} {w':World} {nd:Bool} (h:S w') (k:S w'→B):(nd=true→S w→S w')∧B:=⟨fun _ _=>h,k h⟩
theorem nS0 {B:Prop} {nd:Bool} (k:B):(nd=true→S w→S w)∧B:=⟨fun _ h=>h,k⟩
theorem Jr (F:Fr n m a) (hi:ops[i]? = some o) (ht:((JT o && !ex.contains i) && !JM o)=true) (h:∀ w,(execOp a.eval o).run P w=.ok (.value v) w) (k:∀ a',Fr n ((d,v)::m) a'→Ji P ops ex Q S r a' w) (hw:J8 ops m o=some true:=by exact rfl) (hd:o.dst=some d:=by exact rfl) (hp:Nat.blt d n=true:=by exact rfl):Ji P ops ex Q S (i::r) a w:=
 J2w F hi ht h hw hd hp k
theorem J3e (F:Fr n m a) (hS:S w) (hi:ops[i]? = some o) (ht:((JT o && !ex.contains i) && JM o)=true) (h:∀ w,S w→(execOp a.eval o).run P w=.ok (.value v) w) (k:∀ a',Fr n ((d,v)::m) a'→Ji P ops ex Q S r a' w) (hw:J8 ops m o=some true:=by exact rfl) (hd:o.dst=some d:=by exact rfl) (hp:Nat.blt d n=true:=by exact rfl):Ji P ops ex Q S (i::r) a w:=by
 rw [Bool.and_eq_true] at ht
 refine ⟨o,hi,?_⟩
 rw [if_pos ht.1]
 refine ⟨v,by rw [if_pos ht.2];exact ⟨hS,.inl ⟨Jk F hw,h⟩⟩,?_⟩
 rw [hd]
 exact k _ (F.put rfl hp)
def JiB (o:Oper):Bool:=match o.op with
 | .binOp _ _ _ _ _=>false
 | .unOp _ _ _=>false
 | _=>true
theorem n_po (F:Fr n m a) (hi:ops[i]? = some o) (hb:JiB o=true) (ht:((JT o && !ex.contains i) && !JM o)=true) (h:J4J m o=some v) (hw:J8 ops m o=some true) (hd:o.dst=some d) (hp:Nat.blt d n=true) (k:∀ a',Fr n ((d,v)::m) a'→Ji P ops ex Q S r a' w):Ji P ops ex Q S (i::r) a w:=JbS F hi ht h hw hd hp k
theorem n_fb {fi s off b c c':Nat} {x:Operand} [I:FIc P s fi off] (F:Fr n m a) (hi:ops[i]? = some o) (ht:((JT o && !ex.contains i) && !JM o)=true) (ho:o.op=.fieldAddr s x fi) (hw:J8 ops m o=some true) (hx:opd m x=some (.pointer (some ⟨b,c,none⟩))) (hc:c+off=c') (hd:o.dst=some d) (hp:Nat.blt d n=true)
 (k:∀ a',Fr n ((d,.pointer (some ⟨b,c',none⟩))::m) a'→Ji P ops ex Q S r a' w):Ji P ops ex Q S (i::r) a w:=
 J2w F hi ht (fun _=>J13 I.h ho (F.g hx) hc) hw hd hp k
theorem J5V {LB LS:List Atom} {wS:World} {x:Operand} {t:TypeId} {g:Bool} {b off:Nat} {cs:List Value} {T:TypeId} [I:TIc P t g 1] (F:Fr n m a) (hS:Sd LB LS wS w) (q:Nat) (hi:ops[i]? = some o) (ht:((JT o && !ex.contains i) && JM o)=true) (ho:o.op=.load t x) (hg:g=false) (hw:J8 ops m o=some true) (hx:opd m x=some (.pointer (some ⟨b,off,none⟩))) (hq:nth LB q=some (bx b cs T))
 (hv:nth cs off=some v) (hd:o.dst=some d) (hp:Nat.blt d n=true) (kk:∀ a',Fr n ((d,v)::m) a'→Ji P ops ex Q (Sd LB LS wS) r a' w):Ji P ops ex Q (Sd LB LS wS) (i::r) a w:=by
 subst hg
 have e:(cs.drop off).take 1=[v]:=by
  have h1:cs[off]? = some v:=by rw [← JO];exact hv
  obtain ⟨h2,h3⟩:=List.getElem?_eq_some_iff.1 h1
  rw [List.drop_eq_getElem_cons h2,h3];rfl
 exact J3e F hS hi ht (fun _ hz=>J3B (hz.bx q hq) I.h ho (F.g hx) e rfl (fun _=>rfl) rfl) kk hw hd hp
theorem J5W {LB LS:List Atom} {wS:World} {x:Operand} {t:TypeId} {k b:Nat} {cs:List Value} {T:TypeId} [I:TIc P t true k] (F:Fr n m a) (hS:Sd LB LS wS w) (q:Nat) (hi:ops[i]? = some o) (ht:((JT o && !ex.contains i) && JM o)=true) (ho:o.op=.load t x) (hw:J8 ops m o=some true) (hx:opd m x=some (.pointer (some ⟨b,0,none⟩))) (hq:nth LB q=some (bx b cs T))
 (hv:cs.length=k) (hd:o.dst=some d) (hp:Nat.blt d n=true) (kk:∀ a',Fr n ((d,.agg cs.toArray)::m) a'→Ji P ops ex Q (Sd LB LS wS) r a' w):Ji P ops ex Q (Sd LB LS wS) (i::r) a w:=
 J3e F hS hi ht (fun _ hz=>J3B (vs:=cs) (hz.bx q hq) I.h ho (F.g hx) (by rw [← hv];simp) hv (fun h=>nomatch h) rfl) kk hw hd hp
end
theorem zg {G:Prop} {n:Nat} {m:List (Nat × Value)} {w:World} {K:Act→World→Prop} (k:∀ a,Fr n m a→K a w)
 (h:(∀ a,Fr n m a→K a w)→G:=by
  intro kZ
  repeat (first
   | refine n_po F rfl rfl rfl rfl rfl rfl rfl fun _ F=>?_
   | refine JbT F rfl rfl rfl rfl rfl fun _ F=>?_
   | refine n_fb F rfl rfl rfl rfl rfl rfl rfl rfl fun _ F=>?_
   | refine J5V F hS 0 rfl rfl rfl rfl rfl rfl rfl rfl rfl rfl fun _ F=>?_
   | refine J5W F hS 0 rfl rfl rfl rfl rfl rfl rfl rfl rfl fun _ F=>?_
   | refine J5V F hS 1 rfl rfl rfl rfl rfl rfl rfl rfl rfl rfl fun _ F=>?_
   | refine J5W F hS 1 rfl rfl rfl rfl rfl rfl rfl rfl rfl fun _ F=>?_
   | refine J5V F hS 2 rfl rfl rfl rfl rfl rfl rfl rfl rfl rfl fun _ F=>?_
   | refine J5W F hS 2 rfl rfl rfl rfl rfl rfl rfl rfl rfl fun _ F=>?_
   | refine J5V F hS 3 rfl rfl rfl rfl rfl rfl rfl rfl rfl rfl fun _ F=>?_
   | refine J5W F hS 3 rfl rfl rfl rfl rfl rfl rfl rfl rfl fun _ F=>?_
   | with_reducible refine Jbn ?_
   | with_reducible refine wp_seq ?_
   | with_reducible refine wp_region_lit ?_
   | with_reducible refine J7J ?_
   | with_reducible refine J3A ?_
   | with_reducible refine wp_skip ?_
   | with_reducible refine wp_block ?_
   | with_reducible refine wp_ret ?_
   | with_reducible refine wp_exit ?_
   | with_reducible refine J6E ?_
   | with_reducible refine J6r ?_
   | with_reducible refine J67 ?_
   | with_reducible refine J6q ?_
   | with_reducible refine J6k ?_
   | refine x_block_on rfl ?_
   | refine JbM F rfl rfl rfl rfl rfl fun _ F=>?_
   | refine JbK F rfl rfl rfl rfl rfl fun _ F=>?_
   | refine J7U F rfl rfl rfl fun _ F=>?_
   | refine JbN F rfl rfl rfl rfl rfl rfl fun _ F=>?_
   | refine JbL F rfl rfl rfl rfl rfl rfl fun _ F=>?_
   | refine J7R F rfl rfl rfl rfl rfl rfl fun _ F=>?_
   | refine J7S F rfl rfl rfl rfl rfl fun _ F=>?_
   | refine J7T F rfl rfl rfl rfl rfl fun _ F=>?_
   | refine J7N F rfl ?_
   | refine J7M F rfl ?_)
  exact kZ _ F):G:=h k
section
variable {α:Type} {k:Nat} {enc:α→List Value} {ok:α→Prop} {H:Nat→Prop} {w0 w w':World} {L0 L L' New:List Atom} {v:Value} {l:List α}
theorem Rd.gotR (A:At w L) (S:Mv L w L' w') (is:List Nat) (m:Mv L0 w0 L w) (h:Rd k enc ok (V (HP (V (HP H L0) w0 L) (sel L is)) w New) w' v l) (e:New++del L is=L':=by exact rfl):Rd k enc ok (V (HP H L0) w0 L') w' v l:=by
 subst e
 exact Rd.gotP A m.kp.size (J23 m) h
end
structure Inn where
 atom:Atom
 rd:(Nat→Prop)→World→Prop
 ra:(Nat→Prop)→World→Prop
 off:∀ {S:Nat→Prop} {w:World},atom.ok w→(∀ b,atom.fp b→S b)→rd S w
 rdM:∀ {H H':Nat→Prop} {w:World},rd H w→(∀ b,H b→H' b)→rd H' w
 raM:∀ {H H':Nat→Prop} {w:World},ra H w→(∀ b,H b→H' b)→ra H' w
 rdV:∀ {G:Nat→Prop} {w0 w w':World} {L L':List Atom},rd (V G w0 L) w→Mv L w L' w'→rd (V G w0 L') w'
 raV:∀ {G:Nat→Prop} {w0 w w':World} {L L':List Atom},ra (V G w0 L) w→Mv L w L' w'→ra (V G w0 L') w'
section
variable {α:Type} {inns:α→List Inn} {D:List α}
variable {G H H':Nat→Prop} {w0 w w':World} {L L':List Atom}
theorem Mv.same (h:At w L') (hf:∀ b,fps L' b→fps L b):Mv L w L' w:=⟨h,fun b hb=>.inl (hf b hb),Kp.refl _ _⟩
theorem J1b {A:Atom} {b:Nat} : fps [A] b ↔ A.fp b:=by simp [fps]
theorem J77 {β:Type} {l:List β} {i:Nat} {x:β} (h:nth l i=some x):sel l [i]=[x]:=by unfold sel;rw [h];rfl
end
set_option maxHeartbeats 1000000
set_option maxRecDepth 100000
def JI (l:List ByteArray) (x:ByteArray):List ByteArray:=if l[l.findIdx (geS x)]? = some x then l else JL l (l.findIdx (geS x)) x
theorem J6g {α:Type} (l:List α) (i:Nat) (x:α) (h:i≤l.length):(JL l i x).length=l.length+1:=by simp [JL];omega
theorem J3q (l:List ByteArray) (x:ByteArray):(JI l x).length≤l.length+1:=by
 unfold JI
 split
 ·omega
 rw [J6g _ _ _ List.findIdx_le_length];omega
theorem J8l {a:Option Addr} {n cap:Nat} : (Value.slice a n cap).ownBlock.toList=(a.map (·.block)).toList:=by cases a <;> rfl
theorem JeE (v:Value) (s:ByteArray) (w:World) (l:List ByteArray) (hO:OStrs w v l) (hs:okS s) (hl:l.length≤549755813888) :
 Calls prog 359 #[v,.string s] w fun e w'=>∃ v',e=.returned v'∧OStrs w' v' (JI l s)∧KeepBut v.ownBlock.toList w w'∧Moved w v v':=by
 have hr:=hO.rd
 obtain ⟨a,cap,rfl,hle,hl63,-,hn⟩:=hr.inv
 have hw1:Bl w (w.alloc (.cells #[.string s] 9)):=(Bl.refl w).alloc _
 have hc:(w.alloc (.cells #[.string s] 9)).cell? ⟨w.heap.size,0,none⟩=some (.string s):=by simp
 have hr1:=hr.below hw1
 have hO1:=hO.below hw1
 have hcl:∀ W,Bl (w.alloc (.cells #[.string s] 9)) W→W.cell? ⟨w.heap.size,0,none⟩=some (.string s):=fun W hb=>hb.cellOf hc
 by_cases hfi:l.findIdx (geS s) < l.length
 ·have hidx:JW (geS s) l=(l.findIdx (geS s):Int):=by unfold JW;rw [if_pos hfi]
  obtain ⟨x,hx⟩:∃ x,l[l.findIdx (geS s)]? = some x:=⟨_,List.getElem?_eq_getElem hfi⟩
  have hput:JI l s=if x=s then l else JL l (l.findIdx (geS s)) s:=by
   unfold JI
   rw [hx]
   by_cases h:x=s <;> simp [h]
  have hlt:=hO.lt
  rw [J8l] at hlt
  generalize l.findIdx (geS s)=i at hfi hidx hx hput
  obtain ⟨b,rfl,-,-,-,hbw⟩:=Own.cellAt strT.hk hO i x hx
  have hcell:∀ W,Bl (w.alloc (.cells #[.string s] 9)) W→W.cell? ⟨b,i,none⟩=some (.string x):=fun W hb=>by
   obtain ⟨b',e,-,h,-⟩:=Own.cellAt strT.hk (hO1.below hb) i x hx
   cases e
   simpa using h 0 (.string x) rfl
  obtain ⟨len,hlen⟩:∃ len,l.length=len:=⟨_,rfl⟩
  rw [hlen] at hle hl63 hl hr1 hO1 hO hr hfi ⊢
  have hii:(i:Int) < (len:Int):=by omega
  by_cases hxe:x=s
  ·rw [if_pos hxe] at hput
   have heq:(x.toList == s.toList)=true:=by rw [J5c];simp [hxe]
   have Hidx:=Lib.hid hidx;have Hput:=Lib.hid hput;have Hlen:=Lib.hid hlen;have HO1:=Lib.hid hO1;have Hr1:=Lib.hid hr1;have Hcl:=Lib.hid hcl;have Hc:=Lib.hid hc;have Hlt:=Lib.hid hlt;have Hcell:=Lib.hid hcell;have Hw1:=Lib.hid hw1
   clear hidx hput hlen hO1 hr1 hcl hc hO hr hn hlt hcell hx hxe hw1
   go_enter func359,ntmps359
   go_wp2_with (go_at_call 374;refine (J6e _ _ l s w.heap.size Hr1.out Hc.out).mono ?_;rintro e w1 ⟨rfl,hb1⟩;rw [Hidx.out];have hc1:=Hcl.out w1 hb1;have hc2:=Hcell.out w1 hb1;have HB1:=Lib.hid hb1;clear hb1)
   go_quiet (fail)
   go_wp2
   go_ret
   refine ⟨_,rfl,?_,?_,Moved.refl _ _⟩
   ·rw [Hput.out];exact (HO1.out.below HB1.out).below ((Bl.refl _).drewN _)
   exact ((Hw1.out.trans HB1.out).drewN _).keep _
  rw [if_neg hxe] at hput
  have heq:(x.toList == s.toList)=false:=by rw [J5c];simp [hxe]
  have Hidx:=Lib.hid hidx;have Hput:=Lib.hid hput;have Hlen:=Lib.hid hlen;have HO1:=Lib.hid hO1;have Hr1:=Lib.hid hr1;have Hcl:=Lib.hid hcl;have Hc:=Lib.hid hc;have Hlt:=Lib.hid hlt;have Hcell:=Lib.hid hcell;have Hw1:=Lib.hid hw1;have Hbw:=Lib.hid hbw
  clear hidx hput hlen hO1 hr1 hcl hc hO hr hn hlt hcell hx hxe hw1 hbw
  go_enter func359,ntmps359
  go_wp2_with (go_at_call 374;refine (J6e _ _ l s w.heap.size Hr1.out Hc.out).mono ?_;rintro e w1 ⟨rfl,hb1⟩;rw [Hidx.out];have hc1:=Hcl.out w1 hb1;have hc2:=Hcell.out w1 hb1;have HB1:=Lib.hid hb1;clear hb1)
  go_quiet (fail)
  go_wp2_with (go_at_call 376;refine (JdA _ i s w1.heap.size _ l ((HO1.out.below HB1.out).below (((Bl.refl _).alloc _).drewN _)) (by have:=Hlen.out;omega) (by have:=Hlen.out;omega) hs (by exact heap_alloc_new w1 (.cells #[.string s] 9)) (by have h1:=Hbw.out;have h2:=(Hw1.out.trans HB1.out).size;simp [Value.ownBlock];omega)).mono ?_;rintro e w2 ⟨v',rfl,hO2,hkb,hmv⟩)
  go_ret
  refine ⟨_,rfl,?_,?_,?_⟩
  ·rw [Hput.out];exact hO2
  ·exact hkb.after (((Hw1.out.trans HB1.out).alloc _).drewN _)
  exact hmv.mono (((Hw1.out.trans HB1.out).alloc _).drewN _).size
 have hidx:JW (geS s) l=-1:=by unfold JW;rw [if_neg hfi]
 have hput:JI l s=l++[s]:=by
  have e:l.findIdx (geS s)=l.length:=Nat.le_antisymm List.findIdx_le_length zO
  unfold JI
  rw [e,if_neg (by simp)]
  simp [JL]
 have hlt:=hO.lt
 rw [J8l] at hlt
 obtain ⟨len,hlen⟩:∃ len,l.length=len:=⟨_,rfl⟩
 rw [hlen] at hle hl63 hl hr1 hO1 hO hr ⊢
 have Hidx:=Lib.hid hidx;have Hput:=Lib.hid hput;have Hlen:=Lib.hid hlen;have HO1:=Lib.hid hO1;have Hr1:=Lib.hid hr1;have Hcl:=Lib.hid hcl;have Hc:=Lib.hid hc;have Hlt:=Lib.hid hlt
 clear hidx hput hlen hO1 hr1 hcl hc hO hr hn hlt
 go_enter func359,ntmps359
 go_wp2_with (first|(go_at_call 374;refine (J6e _ _ l s w.heap.size Hr1.out Hc.out).mono ?_;rintro e w1 ⟨rfl,hb1⟩;rw [Hidx.out];have hc1:=Hcl.out w1 hb1;have HB1:=Lib.hid hb1;clear hb1)|(at_builtin;refine J3S strT rfl (.tmp 11) (.tmp 13) rfl (.slice a len cap) (.slice (some ⟨w1.heap.size,0,none⟩) 1 1) l [s] rfl rfl ((HO1.out.below HB1.out).below ((Bl.refl _).alloc _)) (Jff _ s _ rfl rfl hs) (by have:=Hlen.out;simp <;> omega) ?_;intro v' w2 hO2 hkb hmv hnl))
 go_ret
 refine ⟨_,rfl,?_,?_,?_⟩
 ·rw [Hput.out];exact hO2
 ·exact hkb.after ((hw1.trans HB1.out).alloc _)
 exact hmv.mono ((hw1.trans HB1.out).alloc _).size
theorem JeF (v:Value) (s:ByteArray) (w:World) (l:List ByteArray) (hO:OStrs w v l) (hs:okS s) (hl:l.length≤549755813888) :
 Calls prog 359 #[v,.string s] w fun e w'=>∃ a n cap,e=.returned (.slice a n cap)∧OStrs w' (.slice a n cap) (JI l s)∧KeepBut v.ownBlock.toList w w'∧Moved w v (.slice a n cap):=
 Calls.sl (JeE v s w l hO hs hl) fun _ _ h=>h.1.isSl
theorem Jaw (l:List ByteArray) (x:ByteArray) (k:Nat) (hk:k≤l.length) (hlt:∀ q,q < k→∀ y,l[q]? = some y→geS x y=false) (hend:∀ y,l[k]? = some y→geS x y=true):l.findIdx (geS x)=k:=by
 rcases Nat.lt_or_ge k l.length with h|h
 ·exact J8h _ _ k l[k] (by simp [h]) (hend _ (by simp [h])) hlt
 obtain rfl:k=l.length:=by omega
 rw [List.findIdx_eq_length]
 intro y hy
 obtain ⟨i,hi,rfl⟩:=List.mem_iff_getElem.1 hy
 simpa using hlt i hi _ (by simp [hi])
set_option maxHeartbeats 1000000
set_option maxRecDepth 100000
structure TouchD where
 reads:List ByteArray
 writes:List ByteArray
deriving DecidableEq
def J0p (l:List ByteArray) (m:List ByteArray):List ByteArray:=m.foldl JI l
def J4N (a b:TouchD):TouchD:=⟨J0p a.reads b.reads,J0p a.writes b.writes⟩
set_option maxHeartbeats 1000000
set_option maxRecDepth 100000
def J0w (n:Int):List Value:=[.int .i64 n]
def okI (n:Int):Prop:=J1 n
structure CallD where
 kind:Int
 name:ByteArray
 to_:ByteArray
 a:Int
 b:Int
 text:ByteArray
def J16 (c:CallD):List Value:=[.int .i64 c.kind,.string c.name,.string c.to_,.int .i64 c.a,.int .i64 c.b,.string c.text]
def okK (c:CallD):Prop:=J1 c.kind∧okS c.name∧okS c.to_∧J1 c.a∧J1 c.b∧okS c.text
structure AnsD where
 code:Int
 n:Int
 text:ByteArray
def J0x (c:AnsD):List Value:=[.int .i64 c.code,.int .i64 c.n,.string c.text]
def okR (c:AnsD):Prop:=J1 c.code∧J1 c.n∧okS c.text
structure StepD where
 proc:Int
 call:CallD
def J1p (c:StepD):List Value:=[.int .i64 c.proc,.int .i64 c.call.kind,.string c.call.name,.string c.call.to_,.int .i64 c.call.a,.int .i64 c.call.b,.string c.call.text]
def J1f (c:StepD):Prop:=J1 c.proc∧J1 c.call.kind∧okS c.call.name∧okS c.call.to_∧J1 c.call.a∧J1 c.call.b∧okS c.call.text
structure TxD where
 id:Int
 age:Int
 proc:Int
 began:Int
 calls:List CallD
 answers:List AnsD
 touch:TouchD
 marks:List Int
 state:Int
structure TxH where
 d:TxD
 a0:Option Addr
 n0:Nat
 c0:Nat
 a1:Option Addr
 n1:Nat
 c1:Nat
 a2:Option Addr
 n2:Nat
 c2:Nat
 a3:Option Addr
 n3:Nat
 c3:Nat
 a4:Option Addr
 n4:Nat
 c4:Nat
def J1h (x:TxH):List Value:=[.int .i64 x.d.id,.int .i64 x.d.age,.int .i64 x.d.proc,.int .i64 x.d.began,.slice x.a0 x.n0 x.c0,.slice x.a1 x.n1 x.c1,.slice x.a2 x.n2 x.c2,.slice x.a3 x.n3 x.c3,.slice x.a4 x.n4 x.c4,.int .i64 x.d.state]
def J17 (x:TxH):Prop:=J1 x.d.id∧J1 x.d.age∧J1 x.d.proc∧J1 x.d.began∧J1 x.d.state
structure CsH where
 d:List CellD
 a0:Option Addr
 n0:Nat
 c0:Nat
end Go.Proofs.YtipdbeklopjbmaaGreatDoor
