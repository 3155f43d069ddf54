/-
  Texts laid together: ME, MK, Iter.
-/
import Derived.Maps.RangeWalk
import Derived.StringKeys
import Derived.Maps.OwnSet
import Derived.Sort.KeysCollected
import Derived.Test.YtipdbeklopjbmaaGreatDoorP20
import Derived.Shelf.SlIter.Nil
import Derived.Shelf.SortM.Plain
import Derived.Shelf.SortM.SortNone
import Derived.Ground.GgzProg
import Derived.Ground.SlgmProg
import Derived.Test.YtipdbeklopjbmaaGreatDoorChecked
import Derived.KernelRfl
set_option linter.unusedVariables false
set_option linter.unusedSimpArgs false
namespace Go.Proofs.YtipdbeklopjbmaaGreatDoor
open Go.ChangeShapes Go.WideShapes Go.ChangeAt Go.RowKit Go.Proofs.Tryz
section
open Go.Maps (Keyed IsMap)
def J0g (s:ByteArray):Lit:=.string s.data.toList
theorem J6M {s t:ByteArray} (h:J0g s=J0g t):s=t:=ByteArray.ext (Array.toList_inj.1 (by unfold J0g at h;injection h))
theorem J70 (s:ByteArray):WideAt.IsKeyLit (J0g s):=trivial
theorem JeV {s t:ByteArray} : (J0g s).sameKey (J0g t)=decide (s=t):=by
 by_cases h:s=t
 ·subst h;rw [decide_eq_true rfl];exact WideAt.sameKey_self (J70 s)
 rw [decide_eq_false h];exact Maps.sameKey_ne fun e=>h (J6M e)
structure ElS (P:Program) (e:TypeId) {β:Type} (rd:β→Lit) (mk:β→Value) (okv:β→Prop):Prop where
 inv:∀ v y,plainElem (H:=Unit) P e v=some y→∃ c,v=mk c∧y.1=.lit (rd c)
 mkE:∀ c,okv c→plainElem (H:=Unit) P e (mk c)=some (.lit (rd c),[])
 inj:∀ c d,rd c=rd d→c=d
theorem Je9 {P:Program} {e:TypeId} (h:P.underlying e=some .string):ElS P e J0g Value.string (fun s=>s.size≤maxLen) where
 inv:=fun v y hv=>by
  unfold plainElem at hv
  rw [h] at hv
  cases v <;> simp at hv
  rename_i s
  obtain ⟨_,rfl⟩:=hv
  exact ⟨s,rfl,rfl⟩
 mkE:=fun c hc=>plainElem_string h hc
 inj:=fun _ _=>J6M
theorem Jft {P:Program} {e:TypeId} (h:P.underlying e=some .bool):ElS P e Lit.bool Value.bool (fun _=>True) where
 inv:=fun v y hv=>by
  unfold plainElem at hv
  rw [h] at hv
  cases v <;> simp at hv
  rename_i s
  subst hv
  exact ⟨s,rfl,rfl⟩
 mkE:=fun c _=>plainElem_bool h c
 inj:=fun _ _ h=>by injection h
def MRep {β:Type} (rd:β→Lit) (D:DataW Unit) (f:ByteArray→Option β):Prop:=∀ s,Maps.has D (J0g s)=(f s).isSome∧∀ z,D.atKey (J0g s) z=((f s).map fun v=>DataW.lit (rd v)).getD z
def J2B {β:Type} (f:ByteArray→Option β) (s:ByteArray) (v:β):ByteArray→Option β:=fun t=>if t=s then some v else f t
theorem MRep.put {β:Type} {rd:β→Lit} {D:DataW Unit} {f:ByteArray→Option β} (h:MRep rd D f) (hD:IsMap D) (s:ByteArray) (v:β):MRep rd (D.put (J0g s) (.lit (rd v))) (J2B f s v):=fun t=>by
 unfold J2B
 by_cases e:t=s
 ·subst e
  rw [if_pos rfl]
  exact ⟨Maps.has_put_same hD (J70 t) _,fun z=>Maps.atKey_put_same hD (J70 t) _ z⟩
 rw [if_neg e]
 have hne:J0g t≠J0g s:=fun q=>e (J6M q)
 exact ⟨(Maps.has_put_other hne _).trans (h t).1,fun z=>(Maps.atKey_put_other hne _ z).trans ((h t).2 z)⟩
theorem MRep.nil {β:Type} {rd:β→Lit} : MRep rd (.map []:DataW Unit) (fun _=>none):=fun _=>⟨rfl,fun _=>rfl⟩
def mpA {β:Type} (P:Program) (k e:TypeId) (rd:β→Lit) (b n:Nat) (f:ByteArray→Option β):Atom where
 fp:=fun c=>c=b
 ok:=fun w=>∃ D:DataW Unit,w.ownsMap P k (plainElem P e) b n D∧MRep rd D f
 st:=fun _ _ hb ⟨D,⟨es,clock,h1,h2⟩,h3⟩=>⟨D,⟨es,clock,(hb b rfl).trans h1,h2⟩,h3⟩
def rgA {β:Type} (P:Program) (k e:TypeId) (rd:β→Lit) (b r n:Nat) (f:ByteArray→Option β) (left:ByteArray→Bool) (cnt:Nat):Atom where
 fp:=fun c=>c=b∨c=r
 ok:=fun w=>∃ (D:DataW Unit) (lf:Lit→Bool),w.ranges P k (plainElem P e) b r n D lf cnt∧MRep rd D f∧∀ s,lf (J0g s)=left s
 st:=fun _ _ hb ⟨D,lf,⟨es,clock,since,seen,c0,h1,h2,h3,h4,h5,h6⟩,hr⟩=>⟨D,lf,⟨es,clock,since,seen,c0,(hb b (.inl rfl)).trans h1,h2,h3,h4,(hb r (.inr rfl)).trans h5,h6⟩,hr⟩
theorem Kp.of_grown {S:Nat→Prop} {w w':World} {row:Option Nat} (h:w.grownBy w' row) (hr:∀ b,row=some b→S b):Kp S w w':=⟨h.os,h.tape,h.output,h.size,fun k hk hn=>h.block k hk fun e=>hn (hr k e.symm)⟩
section
variable {P:Program} {k e:TypeId} {β:Type} {rd:β→Lit} {mk:β→Value} {okv:β→Prop} {b r n cnt:Nat} {f:ByteArray→Option β} {left:ByteArray→Bool} {w w':World}
theorem JiA {n':Nat} {f':ByteArray→Option β} (_:At w [mpA P k e rd b n f]) (h:(mpA P k e rd b n' f').ok w') (hg:w.grownBy w' (some b)) (hl:b < w.heap.size):Mv [mpA P k e rd b n f] w [mpA P k e rd b n' f'] w':=
 ⟨At.one h fun c hc=>by have:c=b:=hc;subst this;exact Nat.lt_of_lt_of_le hl hg.size,fun c hc=>.inl (by rw [J1b] at hc ⊢;exact hc),Kp.of_grown hg fun c hc=>by cases hc;exact J1b.2 rfl⟩
theorem JfD (w:World) (P:Program) (k e:TypeId) (rd:β→Lit):Mv [] w [mpA P k e rd w.heap.size 0 (fun _=>none)] (w.alloc (.map #[] 0)):=
 Bl.mv_new (At.one ⟨.map [],World.ownsMap_made _ _ _ _,MRep.nil⟩ (fun c hc=>by have:c=w.heap.size:=hc;subst this;simp)) (fun c hc=>by rw [J1b] at hc;have:c=w.heap.size:=hc;omega) ((Bl.refl w).alloc _)
theorem J3Z {L:List Atom} (A:At w L) (j:Nat) (hL:nth L j=some (mpA P k e rd b n f)):∃ D:DataW Unit,w.ownsMap P k (plainElem P e) b n D∧MRep rd D f:=A.ok _ (Jm hL)
theorem JfW {L:List Atom} (A:At w L) (j:Nat) (hL:nth L j=some (rgA P k e rd b r n f left cnt)):∃ D:DataW Unit,w.ownsMap P k (plainElem P e) b n D∧MRep rd D f:=let ⟨D,_,h1,h2,_⟩:=A.ok _ (Jm hL);⟨D,h1.owns,h2⟩
theorem JgM (A:At w [rgA P k e rd b r n f left cnt]):Mv [rgA P k e rd b r n f left cnt] w [mpA P k e rd b n f] w:=
 Mv.same (At.one (JfW A 0 rfl) fun c hc=>A.lt c (J1b.2 (.inl hc))) fun c hc=>by rw [J1b] at hc ⊢;exact .inl hc
theorem J9k {D:DataW Unit} {R:Value→Option (DataW Unit × List MemPlace)} (h:w.ownsMap P k R b n D):Maps.size D≤n:=by
 obtain ⟨es,_,_,_,hs,rfl⟩:=h
 show ((es.toList.map _).foldr DataW.insert []).length≤n
 rw [length_sorted,List.length_map];simpa using hs
theorem Jfd (K:Keyed P k) {t:TypeId} (ht:P.underlying t=some (.map k e)) (A:At w [mpA P k e rd b n f]):∃ w' cnt,(Instr.range t (.map (some b))).run P w=.ok (pT w.heap.size) w'∧cnt≤n∧Mv [mpA P k e rd b n f] w [rgA P k e rd b w.heap.size n f (fun s=>(f s).isSome) cnt] w':=by
 obtain ⟨D,h1,h2⟩:=J3Z A 0 rfl
 obtain ⟨w',r1,r2,r3,r4⟩:=h1.range K ht
 refine ⟨w',_,r1,J9k h1,At.one ⟨D,_,r2,h2,fun s=>(h2 s).1⟩ fun c hc=>?_,fun c hc=>?_,Kp.of_grown r3 fun _ h=>by cases h⟩
 ·rcases hc with rfl|rfl
  ·have:=h1.lt;omega
  omega
 rw [J1b] at hc ⊢
 exact hc.imp id fun e=>by subst e;exact Nat.le_refl _
theorem JfV (K:Keyed P k) (hk:P.underlying k=some .string) (E:ElS P e rd mk okv) (ty:TypeId) (A:At w [rgA P k e rd b r n f left cnt]) :
 ((∀ s,left s=false)∧(Instr.next (pT r) false ty).run P w=.ok (.tuple #[.bool false]) w) ∨
 ∃ s v w' cnt',f s=some v∧left s=true∧s.size≤maxLen∧cnt' < cnt∧(Instr.next (pT r) false ty).run P w=.ok (.tuple #[.bool true,.string s,mk v]) w'∧(Instr.entry (pT r)).run P w'=.ok (.tuple #[.string s,mk v]) w'∧Mv [rgA P k e rd b r n f left cnt] w [rgA P k e rd b r n f (fun t=>left t && !decide (t=s)) cnt'] w':=by
 obtain ⟨D,lf,h1,h2,h3⟩:=A.ok _ (List.mem_singleton.2 rfl)
 rcases h1.next K ty with ⟨_,g2,g3⟩|⟨key,v,kl,y,w',cnt',g1,g2,g3,g4,g5,g6,g7,g8,g9,g10⟩
 ·exact .inl ⟨fun s=>(h3 s).symm.trans (g2 _),g3⟩
 obtain ⟨x,rfl,rfl,hx⟩:=Maps.keyOf_str hk g1
 obtain ⟨c,rfl,hy⟩:=E.inv v y g3
 have hs:(Lit.string x)=J0g ⟨x.toArray⟩:=by unfold J0g;simp
 have hat:=(h2 ⟨x.toArray⟩).2
 rw [← hs] at hat
 have hf:f ⟨x.toArray⟩=some c:=by
  have hh:=Maps.has_true_of_atKey g4
  rw [hs,(h2 _).1] at hh
  obtain ⟨c',hc'⟩:=Option.isSome_iff_exists.1 hh
  have q:=(hat (.map [])).symm.trans (g4 (.map []))
  rw [hc',hy] at q
  injection q with q
  rw [hc',E.inj _ _ q]
 refine .inr ⟨⟨x.toArray⟩,c,w',cnt',hf,by rw [← h3,← hs];exact g2,by simpa [ByteArray.size] using hx,g7,g5,g10,At.one ⟨D,_,g6,h2,fun s=>?_⟩ fun q hq=>?_,fun q hq=>.inl (by rw [J1b] at hq ⊢;exact hq),Kp.of_grown g8 fun _ h=>by cases h;exact J1b.2 (.inr rfl)⟩
 ·rw [h3,hs,JeV]
 rw [g9];exact A.lt q (J1b.2 hq)
end
section
variable {P:Program} {ops:Array Oper} {Q:Exit→Act→World→Prop} {K:Act→World→Prop} {o:Oper} {a:Act} {w w0:World} {L0 L:List Atom} {d N:Nat} {m:List (Nat × Value)} {t k e:TypeId} {x y z:Operand} {β:Type} {rd:β→Lit} {mk:β→Value} {okv:β→Prop} {b r n cnt:Nat} {f:ByteArray→Option β} {left:ByteArray→Bool}
theorem kMk (k e:TypeId) (rd:β→Lit) (F:Fr N m a) (M:St L0 w0 L w) (ho:o.op=.makeMap t none:=by exact rfl) (hd:o.dst=some d:=by exact rfl) (hw:J8 ops m o=some true:=by exact rfl) (hp:Nat.blt d N=true:=by exact rfl)
 (kk:∀ b w',St L0 w0 (mpA P k e rd b 0 (fun _=>none)::L) w'→∀ a',Fr N ((d,.map (some b))::m) a'→K a' w'):st1 P ops Q o K a w:=by
 have hM:=At.frame (New:=[mpA P k e rd w.heap.size 0 (fun _=>none)]) M.at' [] rfl (JfD w P k e rd)
 rw [J19] at hM
 refine J1s (Jk F hw) hd (v:=.map (some w.heap.size)) (w':=w.alloc (.map #[] 0)) ?_ fun a' e'=>kk _ _ (M.then hM) a' (F.put e' hp)
 simp [execOp,ho,run_makeMap,Result.andThen]
theorem J9Q (Kd:Keyed P k) (E:ElS P e rd mk okv) {z0:β} (ht:P.underlying t=some (.map k e)) (hk:P.underlying k=some .string) (hz:(zeroValue e).run P w=.ok (mk z0) w) (hz0:okv z0) {s:ByteArray} (hs:s.size≤maxLen) (h:∃ D:DataW Unit,w.ownsMap P k (plainElem P e) b n D∧MRep rd D f) :
 (Instr.lookup t (.map (some b)) (.string s) false).run P w=.ok (mk ((f s).getD z0)) w∧(Instr.lookup t (.map (some b)) (.string s) true).run P w=.ok (.tuple #[mk ((f s).getD z0),.bool (f s).isSome]) w:=by
 obtain ⟨D,h1,h2⟩:=h
 have hkey:keyOf P k (.string s)=some (J0g s):=WideMaps.keyOf_string_mk hk hs
 obtain ⟨v,ps,r1,r2⟩:=h1.look_ok Kd ht hz (E.mkE z0 hz0) hkey
 obtain ⟨v',ps',q1,q2⟩:=h1.lookup Kd ht hz (E.mkE z0 hz0) hkey
 have hv:∀ v ps,plainElem (H:=Unit) P e v=some (D.atKey (J0g s) (.lit (rd z0)),ps)→v=mk ((f s).getD z0):=fun v ps hv=>by
  obtain ⟨c,rfl,hc⟩:=E.inv v _ hv
  rw [(h2 s).2] at hc
  cases hf:f s with
  | none=>rw [hf] at hc;injection hc with hc;rw [← E.inj _ _ hc];rfl
  | some c'=>rw [hf] at hc;injection hc with hc;rw [← E.inj _ _ hc];rfl
 rw [hv v' ps' q2] at q1
 rw [hv v ps r2,(h2 s).1] at r1
 exact ⟨q1,r1⟩
theorem Jbf (Kd:Keyed P k) (E:ElS P e rd mk okv) {z0:β} (ht:P.underlying t=some (.map k e)) (hk:P.underlying k=some .string) (hz:∀ w,(zeroValue e).run P w=.ok (mk z0) w) (hz0:okv z0) {s:ByteArray} (hs:s.size≤maxLen) (h:∃ D:DataW Unit,w.ownsMap P k (plainElem P e) b n D∧MRep rd D f) (F:Fr N m a)
 (ho:o.op=.lookup t x y false:=by exact rfl) (hx:opd m x=some (.map (some b)):=by exact rfl) (hy:opd m y=some (.string s):=by exact rfl) (hd:o.dst=some d:=by exact rfl) (hw:J8 ops m o=some true:=by exact rfl) (hp:Nat.blt d N=true:=by exact rfl)
 (kk:∀ a',Fr N ((d,mk ((f s).getD z0))::m) a'→K a' w):st1 P ops Q o K a w:=
 Jf F (Jk F hw) hd (by simp [execOp,ho,F.g hx,F.g hy,(J9Q Kd E ht hk (hz w) hz0 hs h).1,Result.andThen]) hp kk
theorem Jgo (Kd:Keyed P k) (E:ElS P e rd mk okv) {z0:β} (ht:P.underlying t=some (.map k e)) (hk:P.underlying k=some .string) (hz:∀ w,(zeroValue e).run P w=.ok (mk z0) w) (hz0:okv z0) {s:ByteArray} (hs:s.size≤maxLen) (h:∃ D:DataW Unit,w.ownsMap P k (plainElem P e) b n D∧MRep rd D f) (F:Fr N m a)
 (ho:o.op=.lookup t x y true:=by exact rfl) (hx:opd m x=some (.map (some b)):=by exact rfl) (hy:opd m y=some (.string s):=by exact rfl) (hd:o.dst=some d:=by exact rfl) (hw:J8 ops m o=some true:=by exact rfl) (hp:Nat.blt d N=true:=by exact rfl)
 (kk:∀ a',Fr N ((d,.tuple #[mk ((f s).getD z0),.bool (f s).isSome])::m) a'→K a' w):st1 P ops Q o K a w:=
 Jf F (Jk F hw) hd (by simp [execOp,ho,F.g hx,F.g hy,(J9Q Kd E ht hk (hz w) hz0 hs h).2,Result.andThen]) hp kk
theorem J7Q (Kd:Keyed P k) (E:ElS P e rd mk okv) (ht:P.underlying t=some (.map k e)) (hk:P.underlying k=some .string) {s:ByteArray} (hs:s.size≤maxLen) {v:β} (hv:okv v) (hn:n < maxLen) (F:Fr N m a) (M:St L0 w0 L w) (j:Nat) (hL:nth L j=some (mpA P k e rd b n f):=by exact rfl) (hok:JP L.length [j]=true:=by exact rfl)
 (ho:o.op=.mapUpdate t x y z:=by exact rfl) (hx:opd m x=some (.map (some b)):=by exact rfl) (hy:opd m y=some (.string s):=by exact rfl) (hz:opd m z=some (mk v):=by exact rfl) (hd:o.dst=none:=by exact rfl) (hw:J8 ops m o=some true:=by exact rfl)
 (kk:∀ w',St L0 w0 (mpA P k e rd b (n+1) (J2B f s v)::del L [j]) w'→∀ a',Fr N m a'→K a' w'):st1 P ops Q o K a w:=by
 obtain ⟨D,h1,h2⟩:=J3Z M.at' j hL
 have hkey:keyOf P k (.string s)=some (J0g s):=WideMaps.keyOf_string_mk hk hs
 obtain ⟨w',r1,r2,r3⟩:=h1.update Kd ht hn hkey (E.mkE v hv)
 have hsel:sel L [j]=[mpA P k e rd b n f]:=J77 hL
 have hm:Mv L w ([mpA P k e rd b (n+1) (J2B f s v)]++del L [j]) w':=M.at'.frame [j] hok (by
  rw [hsel]
  exact JiA (by rw [← hsel];exact M.at'.pick hok) ⟨_,r2,h2.put (h1.isMap) s v⟩ r3 h1.lt)
 refine J4K (Jk F hw) hd (w':=w') ?_ (kk w' (M.then hm) a F)
 simp [execOp,ho,F.g hx,F.g hy,F.g hz,r1,Result.andThen]
theorem JaV (Kd:Keyed P k) (ht:P.underlying t=some (.map k e)) (F:Fr N m a) (M:St L0 w0 L w) (j:Nat) (hL:nth L j=some (mpA P k e rd b n f):=by exact rfl) (hok:JP L.length [j]=true:=by exact rfl)
 (ho:o.op=.range t x:=by exact rfl) (hx:opd m x=some (.map (some b)):=by exact rfl) (hd:o.dst=some d:=by exact rfl) (hw:J8 ops m o=some true:=by exact rfl) (hp:Nat.blt d N=true:=by exact rfl)
 (kk:∀ r cnt w',cnt≤n→St L0 w0 (rgA P k e rd b r n f (fun s=>(f s).isSome) cnt::del L [j]) w'→∀ a',Fr N ((d,pT r)::m) a'→K a' w'):st1 P ops Q o K a w:=by
 have hsel:sel L [j]=[mpA P k e rd b n f]:=J77 hL
 obtain ⟨w',cnt,r1,r3,r2⟩:=Jfd Kd ht (by rw [← hsel];exact M.at'.pick hok:At w [mpA P k e rd b n f])
 have hm:Mv L w ([rgA P k e rd b w.heap.size n f (fun s=>(f s).isSome) cnt]++del L [j]) w':=M.at'.frame [j] hok (by rw [hsel];exact r2)
 refine J1s (Jk F hw) hd (v:=pT w.heap.size) (w':=w') ?_ fun a' e'=>kk _ _ _ r3 (M.then hm) a' (F.put e' hp)
 simp [execOp,ho,F.g hx,r1,Result.andThen]
theorem Jbg (Kd:Keyed P k) (hk:P.underlying k=some .string) (E:ElS P e rd mk okv) (F:Fr N m a) (M:St L0 w0 L w) (j:Nat) (hL:nth L j=some (rgA P k e rd b r n f left cnt):=by exact rfl) (hok:JP L.length [j]=true:=by exact rfl)
 (ho:o.op=.next x false:=by exact rfl) (hx:opd m x=some (pT r):=by exact rfl) (hd:o.dst=some d:=by exact rfl) (hw:J8 ops m o=some true:=by exact rfl) (hp:Nat.blt d N=true:=by exact rfl)
 (kend:(∀ s,left s=false)→∀ a',Fr N ((d,.tuple #[.bool false])::m) a'→K a' w)
 (kk:∀ s v cnt' w',f s=some v→left s=true→s.size≤maxLen→cnt' < cnt→(Instr.entry (pT r)).run P w'=.ok (.tuple #[.string s,mk v]) w'→St L0 w0 (rgA P k e rd b r n f (fun t=>left t && !decide (t=s)) cnt'::del L [j]) w'→∀ a',Fr N ((d,.tuple #[.bool true,.string s,mk v])::m) a'→K a' w'):st1 P ops Q o K a w:=by
 have hsel:sel L [j]=[rgA P k e rd b r n f left cnt]:=J77 hL
 rcases JfV Kd hk E o.type (by rw [← hsel];exact M.at'.pick hok:At w [rgA P k e rd b r n f left cnt]) with ⟨g1,g2⟩|⟨s,v,w',cnt',g1,g2,g3,g4,g5,g7,g6⟩
 ·refine J1s (Jk F hw) hd (v:=.tuple #[.bool false]) (w':=w) ?_ fun a' e'=>kend g1 a' (F.put e' hp)
  simp [execOp,ho,F.g hx,g2,Result.andThen]
 have hm:Mv L w ([rgA P k e rd b r n f (fun t=>left t && !decide (t=s)) cnt']++del L [j]) w':=M.at'.frame [j] hok (by rw [hsel];exact g6)
 refine J1s (Jk F hw) hd (v:=.tuple #[.bool true,.string s,mk v]) (w':=w') ?_ fun a' e'=>kk s v cnt' w' g1 g2 g3 g4 g7 (M.then hm) a' (F.put e' hp)
 simp [execOp,ho,F.g hx,g5,Result.andThen]
theorem JaT {s:ByteArray} {v:Value} (h:(Instr.entry (pT r)).run P w=.ok (.tuple #[.string s,v]) w) (F:Fr N m a)
 (ho:o.op=.entry x:=by exact rfl) (hx:opd m x=some (pT r):=by exact rfl) (hd:o.dst=some d:=by exact rfl) (hw:J8 ops m o=some true:=by exact rfl) (hp:Nat.blt d N=true:=by exact rfl)
 (kk:∀ a',Fr N ((d,.tuple #[.string s,v])::m) a'→K a' w):st1 P ops Q o K a w:=
 Jf F (Jk F hw) hd (by simp [execOp,ho,F.g hx,h,Result.andThen]) hp kk
end
end
section
open Go.Maps (Keyed)
instance iMK1:RTc prog 156 f156 31:=rtc func156 ntmps156
def JX (l:List CellD):ByteArray→Option ByteArray:=fun s=>(l.find? fun c=>decide (c.key=s)).map (·.val)
theorem J5o (l:List CellD) (s:ByteArray):(JX l s).getD ⟨#[]⟩=Jl l s:=by
 unfold JX Jl
 cases l.find? (fun c:CellD=>decide (c.key=s)) <;> rfl
theorem J9v {l:List CellD} {k:Nat} {x:CellD} (h:nth l k=some x) (s:ByteArray):JX (l.take (k+1)) s=((JX (l.take k) s).or (if s=x.key then some x.val else none)):=by
 unfold JX
 rw [J1l h,List.find?_append]
 cases (l.take k).find? (fun c:CellD=>decide (c.key=s)) with
 | some y=>rfl
 | none=>
  by_cases e:x.key=s
  ·rw [List.find?_cons_of_pos (by simpa using e),if_pos e.symm];rfl
  rw [List.find?_cons_of_neg (by simpa using e),if_neg fun q=>e q.symm];rfl
theorem Jg3 {l:List CellD} {k:Nat} {x:CellD} (h:nth l k=some x) (hs:(!(JX (l.take k) x.key).isSome)=false):JX (l.take k)=JX (l.take (k+1)):=funext fun s=>by
 rw [J9v h]
 by_cases e:s=x.key
 ·subst e
  obtain ⟨y,hy⟩:=Option.isSome_iff_exists.1 (nf hs)
  rw [hy];rfl
 rw [if_neg e]
 cases JX (l.take k) s <;> rfl
theorem Jg2 {l:List CellD} {k:Nat} {x:CellD} (h:nth l k=some x) (hs:(!(JX (l.take k) x.key).isSome)=true):J2B (JX (l.take k)) x.key x.val=JX (l.take (k+1)):=funext fun s=>by
 rw [J9v h]
 unfold J2B
 by_cases e:s=x.key
 ·rw [if_pos e,if_pos e,e]
  have h1:=nt hs
  cases q:JX (l.take k) x.key with
  | none=>rfl
  | some y=>rw [q] at h1;cases h1
 rw [if_neg e,if_neg e]
 cases JX (l.take k) s <;> rfl
theorem Jaa {l:List CellD} {s:ByteArray} : (JX l s).isSome=true ↔ ∃ c ∈ l,c.key=s:=by
 unfold JX
 rw [Option.isSome_map]
 simp
theorem kyS:Keyed prog 9:=Maps.string_keyed underlying9
theorem zvS (w:World):(zeroValue 9).run prog w=.ok (.string ⟨#[]⟩) w:=by kernel_rfl
theorem elS:ElS prog 9 J0g Value.string (fun s=>s.size≤maxLen):=Je9 underlying9
def Jby (w:World) (f:ByteArray→Option ByteArray) (q:Nat) (e:Ending) (w':World):Prop:=∃ b n,e=.returned (.map (some b))∧Mv [] w [mpA prog 9 9 J0g b n f] w'∧n≤q
set_option maxRecDepth 100000 in
set_option maxHeartbeats 4000000 in
theorem J90 {w:World} {H:Nat→Prop} {l:List CellD} {ad:Option Addr} {q c:Nat} (hT:TbO w []) (hl:Rd 2 J6 okC H w (.slice ad q c) l) (hq:q≤274877906944):Calls prog 156 #[.slice ad q c] w (Jby w (JX l) q):=by
 have hn:=hl.inv.1
 have M:St [] w [] w:=⟨Mv.refl (At.nil _),hT⟩
 refine zE (f:=156) fun _ F=>?_
 refine J0 (kMk 9 9 J0g F M (kk:=fun b w M=>zk fun _ F=>?_))
 have F:=F.cut (m':=[(11,_),(3,_),(9,_),(10,_)]) rfl
 refine J1i (γ:=Nat × Nat) (slots:=fun g=>[(11,nV g.1)]) (LL:=fun g=>[mpA prog 9 9 J0g b g.2 (JX (l.take g.1))]) (pr:=fun g=>g.1≤q∧g.2≤g.1) (g0:=(0,0)) (fun g=>q - g.1) F M ⟨Nat.zero_le _,Nat.le_refl _⟩ fun g a w F M hp=>?_
 refine zr2 fun _ F=>?_
 refine zi F (fun h1=>?_) fun h1=>?_
 ·refine zr2 fun _ F=>?_
  have hl':=(Rd.start (L:=[]) hl fun _ _=>JF _).mq M.mv
  refine J5R J1W F hl'.1 ET_28 g.1 (fun x=>.agg #[.string x.key,.string x.val]) zO (kk:=fun x _ hx ok=>zk fun _ F=>?_)
  refine J0 (J2T F M J5E [_,_] (k:=fun b2 w M=>zk fun _ F=>?_))
  refine J0 (kWI F M 0 [_,_] [_,_] (k:=fun w M=>zk fun _ F=>?_))
  have h1:x.key.size≤maxLen:=ok.1
  have h2:x.val.size≤maxLen:=ok.2
  refine J0 (Jgo kyS elS underlying203 underlying9 zvS (Nat.zero_le _) h1 (J3Z M.at' 1 rfl) F (kk:=zk fun _ F=>?_))
  refine zib F (fun h3=>?_) fun h3=>?_
  ·refine zr2 fun _ F=>?_
   refine J0 (J7Q (n:=g.2) kyS elS underlying203 underlying9 h1 h2 (by unfold maxLen;omega) F M 1 (kk:=fun w M=>zk fun _ F=>?_))
   have M:=M.pick [0] [_]
   exact Jw (g.1+1,g.2+1) (by dsimp only;omega) ⟨F.cut rfl,M.cast (by rw [Jg2 hx h3]),by dsimp only;omega⟩
  refine zr2 fun _ F=>?_
  have M:=M.pick [1] [_]
  exact Jw (g.1+1,g.2) (by dsimp only;omega) ⟨F.cut rfl,M.cast (by rw [← Jg3 hx h3]),by dsimp only;omega⟩
 refine zr2 fun _ F=>?_
 refine zd1 F ?_
 have e:JX (l.take g.1)=JX l:=by rw [List.take_of_length_le zO]
 exact ⟨b,g.2,rfl,e ▸ M.mv,zO⟩
end
end Go.Proofs.YtipdbeklopjbmaaGreatDoor
namespace Go.Proofs.YtipdbeklopjbmaaGreatDoor
open Go.RowKit Go.Maps Go.Sort Go.Shelf
def J89:Go.Shelf.Ren:=⟨fun|7=>158|10=>186|n=>n,fun|23=>205|26=>9|3=>4|28=>179|0=>0|27=>178|33=>133|4=>4|n=>n,fun|n=>n⟩
theorem J8P:Go.Proofs.SlLaysZ.n7 Tryz.prog J89 where
 mixed:=by kernel_rfl
 f7:=⟨Tryz.f158.name,by decide,Tryz.func158.trans (congrArg some (by kernel_rfl))⟩
 f10:=⟨Tryz.f186.name,by decide,Tryz.func186.trans (congrArg some (by kernel_rfl))⟩
 t0:=Tryz.underlying0
 a0:=Tryz.isAgg0
 z0:=Tryz.sizeOf0
 v0:=Tryz.zeroValue0
 t4:=Tryz.underlying4
 a4:=Tryz.isAgg4
 z4:=Tryz.sizeOf4
 v4:=Tryz.zeroValue4
 t23:=Tryz.underlying205
 a23:=Tryz.isAgg205
 z23:=Tryz.sizeOf205
 v23:=Tryz.zeroValue205
 t26:=Tryz.underlying9
 a26:=Tryz.isAgg9
 z26:=Tryz.sizeOf9
 v26:=Tryz.zeroValue9
 t27:=Tryz.underlying178
 a27:=Tryz.isAgg178
 z27:=Tryz.sizeOf178
 v27:=Tryz.zeroValue178
 t28:=Tryz.underlying179
 a28:=Tryz.isAgg179
 z28:=Tryz.sizeOf179
 v28:=Tryz.zeroValue179
 t33:=Tryz.underlying133
 a33:=Tryz.isAgg133
 z33:=Tryz.sizeOf133
 v33:=Tryz.zeroValue133
def J84:Go.Shelf.Ren:=⟨fun|6=>157|8=>184|9=>185|11=>234|13=>236|12=>235|23=>314|24=>315|14=>305|15=>306|16=>307|17=>308|18=>309|19=>310|20=>311|21=>312|22=>313|25=>353|26=>354|27=>355|28=>356|29=>357|30=>358|31=>373|n=>n,fun|26=>9|28=>179|24=>44|0=>0|3=>3|37=>214|48=>329|50=>331|4=>4|40=>323|39=>322|45=>174|5=>5|9=>9|51=>356|55=>360|57=>369|58=>276|33=>133|n=>n,fun|n=>n⟩
theorem JdB:Go.Proofs.SlLaysZ.n6 Tryz.prog J84 where
 mixed:=by kernel_rfl
 f6:=⟨Tryz.f157.name,by decide,Tryz.func157.trans (congrArg some (by kernel_rfl))⟩
 f8:=⟨Tryz.f184.name,by decide,Tryz.func184.trans (congrArg some (by kernel_rfl))⟩
 f11:=⟨Tryz.f234.name,by decide,Tryz.func234.trans (congrArg some (by kernel_rfl))⟩
 t0:=Tryz.underlying0
 a0:=Tryz.isAgg0
 z0:=Tryz.sizeOf0
 v0:=Tryz.zeroValue0
 t24:=Tryz.underlying44
 a24:=Tryz.isAgg44
 z24:=Tryz.sizeOf44
 v24:=Tryz.zeroValue44
 t26:=Tryz.underlying9
 a26:=Tryz.isAgg9
 z26:=Tryz.sizeOf9
 v26:=Tryz.zeroValue9
 t28:=Tryz.underlying179
 a28:=Tryz.isAgg179
 z28:=Tryz.sizeOf179
 v28:=Tryz.zeroValue179
 i26:=by kernel_rfl
def JcU:Go.Shelf.Ren:=⟨fun|6=>185|8=>236|9=>235|19=>314|20=>315|21=>305|22=>306|23=>307|24=>308|25=>309|26=>310|27=>311|28=>312|29=>313|36=>353|31=>354|32=>355|37=>356|38=>357|39=>358|41=>373|n=>n,fun|27=>44|29=>9|3=>3|32=>214|26=>44|0=>0|44=>329|46=>331|4=>4|36=>323|35=>322|41=>174|5=>5|9=>9|53=>356|57=>360|63=>369|64=>276|n=>n,fun|n=>n⟩
theorem J8Q:Go.Proofs.SlLaysM.n6 Tryz.prog JcU where
 mixed:=by kernel_rfl
 f6:=⟨Tryz.f185.name,by decide,Tryz.func185.trans (congrArg some (by kernel_rfl))⟩
 f8:=Tryz.func236.trans (congrArg some (by kernel_rfl))
 f9:=⟨Tryz.f235.name,by decide,Tryz.func235.trans (congrArg some (by kernel_rfl))⟩
 f19:=Tryz.func314.trans (congrArg some (by kernel_rfl))
 f20:=Tryz.func315.trans (congrArg some (by kernel_rfl))
 f21:=⟨Tryz.f305.name,by decide,Tryz.func305.trans (congrArg some (by kernel_rfl))⟩
 f22:=⟨Tryz.f306.name,by decide,Tryz.func306.trans (congrArg some (by kernel_rfl))⟩
 f23:=⟨Tryz.f307.name,by decide,Tryz.func307.trans (congrArg some (by kernel_rfl))⟩
 f24:=⟨Tryz.f308.name,by decide,Tryz.func308.trans (congrArg some (by kernel_rfl))⟩
 f25:=⟨Tryz.f309.name,by decide,Tryz.func309.trans (congrArg some (by kernel_rfl))⟩
 f26:=⟨Tryz.f310.name,by decide,Tryz.func310.trans (congrArg some (by kernel_rfl))⟩
 f27:=⟨Tryz.f311.name,by decide,Tryz.func311.trans (congrArg some (by kernel_rfl))⟩
 f28:=⟨Tryz.f312.name,by decide,Tryz.func312.trans (congrArg some (by kernel_rfl))⟩
 f29:=⟨Tryz.f313.name,by decide,Tryz.func313.trans (congrArg some (by kernel_rfl))⟩
 f31:=Tryz.func354.trans (congrArg some (by kernel_rfl))
 f32:=Tryz.func355.trans (congrArg some (by kernel_rfl))
 f36:=⟨Tryz.f353.name,by decide,Tryz.func353.trans (congrArg some (by kernel_rfl))⟩
 f37:=⟨Tryz.f356.name,by decide,Tryz.func356.trans (congrArg some (by kernel_rfl))⟩
 f38:=⟨Tryz.f357.name,by decide,Tryz.func357.trans (congrArg some (by kernel_rfl))⟩
 f39:=⟨Tryz.f358.name,by decide,Tryz.func358.trans (congrArg some (by kernel_rfl))⟩
 f41:=⟨Tryz.f373.name,by decide,Tryz.func373.trans (congrArg some (by kernel_rfl))⟩
 t0:=Tryz.underlying0
 a0:=Tryz.isAgg0
 z0:=Tryz.sizeOf0
 v0:=Tryz.zeroValue0
 t3:=Tryz.underlying3
 a3:=Tryz.isAgg3
 z3:=Tryz.sizeOf3
 v3:=Tryz.zeroValue3
 t4:=Tryz.underlying4
 a4:=Tryz.isAgg4
 z4:=Tryz.sizeOf4
 v4:=Tryz.zeroValue4
 t5:=Tryz.underlying5
 a5:=Tryz.isAgg5
 z5:=Tryz.sizeOf5
 v5:=Tryz.zeroValue5
 t9:=Tryz.underlying9
 a9:=Tryz.isAgg9
 z9:=Tryz.sizeOf9
 v9:=Tryz.zeroValue9
 t26:=Tryz.underlying44
 a26:=Tryz.isAgg44
 z26:=Tryz.sizeOf44
 v26:=Tryz.zeroValue44
 t27:=Tryz.underlying44
 a27:=Tryz.isAgg44
 z27:=Tryz.sizeOf44
 v27:=Tryz.zeroValue44
 t29:=Tryz.underlying9
 a29:=Tryz.isAgg9
 z29:=Tryz.sizeOf9
 v29:=Tryz.zeroValue9
 t32:=Tryz.underlying214
 a32:=Tryz.isAgg214
 z32:=Tryz.sizeOf214
 v32:=Tryz.zeroValue214
 t35:=Tryz.underlying322
 a35:=Tryz.isAgg322
 z35:=Tryz.sizeOf322
 v35:=Tryz.zeroValue322
 t36:=Tryz.underlying323
 a36:=Tryz.isAgg323
 z36:=Tryz.sizeOf323
 v36:=Tryz.zeroValue323
 t41:=Tryz.underlying174
 a41:=Tryz.isAgg174
 z41:=Tryz.sizeOf174
 v41:=Tryz.zeroValue174
 t44:=Tryz.underlying329
 a44:=Tryz.isAgg329
 z44:=Tryz.sizeOf329
 v44:=Tryz.zeroValue329
 t46:=Tryz.underlying331
 a46:=Tryz.isAgg331
 z46:=Tryz.sizeOf331
 v46:=Tryz.zeroValue331
 t53:=Tryz.underlying356
 a53:=Tryz.isAgg356
 z53:=Tryz.sizeOf356
 v53:=Tryz.zeroValue356
 t57:=Tryz.underlying360
 a57:=Tryz.isAgg360
 z57:=Tryz.sizeOf360
 v57:=Tryz.zeroValue360
 t63:=Tryz.underlying369
 a63:=Tryz.isAgg369
 z63:=Tryz.sizeOf369
 v63:=Tryz.zeroValue369
 t64:=Tryz.underlying276
 a64:=Tryz.isAgg276
 z64:=Tryz.sizeOf276
 v64:=Tryz.zeroValue276
theorem JdT (m:Nat):AnyZ.SortsIn Tryz.prog J84 Fence.wide m:=
 ⟨fun blk off cap ss W hH hblk hsz=>callsIn_wide.2 (AnyM.slices_Sort_string J8Q blk off cap ss W hH hblk hsz),
  fun p cap W=>callsIn_wide.2 (AnyM.slices_Sort_string_none J8Q p cap W)⟩
theorem JcC (mb:Option Nat) (W:World):CallsIn Fence.wide 5 Tryz.prog 158 #[.map mb] W fun e w'=>e=.returned (.func (.func 186) #[] #[.pointer (some ⟨W.heap.size,0,none⟩)])∧w'=W.alloc (.cells #[.map mb] 205):=
 AnyZ.keys_in J8P Fence.wide 5 trivial rfl mb W
set_option maxHeartbeats 1000000 in
theorem Jc9 {H:Type} (b nn:Nat) (D0:DataW H) (R:Value→Option (DataW H × List MemPlace)) (w:World) (hown:w.ownsMap Tryz.prog 9 R b nn D0) (hmax:Maps.size D0≤maxLen) (hbytes:Maps.size D0 * 16≤140737488355328) :
 CallsIn Fence.wide 5 Tryz.prog 157 #[.func (.func 186) #[] #[.pointer (some ⟨w.heap.size,0,none⟩)]] (w.alloc (.cells #[.map (some b)] 205)) fun e w'=>∃ (v:Value) (ss:List (List UInt8)),e=.returned v∧ss.Perm (strKeys D0) ∧
  w'.ownsRow (w.alloc (.cells #[.map (some b)] 205)).heap.size 9 1 v ss.length ((ss.mergeSort (fun x y=>decide (x≤y))).map encStr)∧(v=.slice none 0 0 ↔ ss=[])∧Below (w.alloc (.cells #[.map (some b)] 205)).heap.size (w.alloc (.cells #[.map (some b)] 205)) w':=by
 have hbl:=hown.lt
 have hseq:SeqGives Fence.wide 2 Tryz.prog 186 #[.pointer (some ⟨w.heap.size,0,none⟩)] encStr (fun ss=>ss.Perm (strKeys D0)) (Maps.size D0) (w.alloc (.cells #[.map (some b)] 205)):=
  AnyZ.keys_gives (ρ:=J89) { J8P with } Fence.wide _ trivial rfl (by omega) w.heap.size b nn D0 _ (by simp) (by simp) (by
   obtain ⟨es,clock,hb,Ft,hs,hD⟩:=hown
   exact ⟨es,clock,(Below.heap_alloc _ _ b hbl).trans hb,Ft,hs,hD⟩)
 exact AnyZ.sorted_in JdB Fence.wide 5 trivial trivial trivial trivial rfl (by omega) (JdT _) (enters_of Tryz.func185 (by kernel_rfl) rfl) 186 #[.pointer (some ⟨w.heap.size,0,none⟩)] trivial (enters_of Tryz.func186 (by kernel_rfl) rfl) _ _ hmax hbytes _ hseq
end Go.Proofs.YtipdbeklopjbmaaGreatDoor
