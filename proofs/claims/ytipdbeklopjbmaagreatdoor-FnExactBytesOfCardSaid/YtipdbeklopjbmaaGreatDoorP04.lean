/-
  Texts laid together: FactsB, DatTx, Dat, Adapt, GenA.
-/
import Derived.Test.YtipdbeklopjbmaaGreatDoorFacts
import Derived.Test.YtipdbeklopjbmaaGreatDoorP02
import Derived.Test.YtipdbeklopjbmaaGreatDoorP01
set_option linter.unusedVariables false
set_option linter.unusedSimpArgs false
namespace Go.Proofs.YtipdbeklopjbmaaGreatDoor
open Go.ChangeShapes Go.WideShapes Go.ChangeAt Go.RowKit
set_option maxRecDepth 100000
set_option maxHeartbeats 1000000
theorem subOr_i64 {n:Int} {a:Nat} (h0:0≤n) (h1:n≤1048576):i64ok (subOr n a):=by
 have:=subOr_bd n a h0
 unfold i64ok;omega
section
end
section
variable {α:Type} {e k:Nat} {enc:α→List Value} {ok:α→Prop}
end
def szCallD (c:CallD):Nat:=c.name.size+(c.to_.size+c.text.size)
def szCalls (l:List CallD):Nat:=l.length+sumOf szCallD l
def szAnsD (c:AnsD):Nat:=c.text.size
def szAnss (l:List AnsD):Nat:=l.length+sumOf szAnsD l
def szTxD (x:TxD):Nat:=szCalls x.calls+(szAnss x.answers+(szTouchD x.touch+x.marks.length))
def copyTo {α:Type} (z:α) (k:Nat) (l:List α):List α:=l.take k++List.replicate (l.length - k) z
theorem copyTo_start {α:Type} (z:α) (l:List α) {n:Nat} (h:n=l.length):List.replicate n z=copyTo z 0 l:=by subst h;rfl
theorem copyTo_end {α:Type} {z:α} {l:List α} {k:Nat} (h:l.length≤k):copyTo z k l=l:=by
 unfold copyTo
 rw [List.take_of_length_le h,show l.length - k=0 by omega];exact List.append_nil _
theorem copyTo_step {α:Type} {z x:α} {l:List α} {k:Nat} (hx:nth l k=some x):(copyTo z k l).set k x=copyTo z (k+1) l:=by
 rw [nth_eq] at hx
 obtain ⟨hk,rfl⟩:=List.getElem?_eq_some_iff.1 hx
 unfold copyTo
 rw [List.set_append,if_neg (by rw [List.length_take];omega),List.length_take,Nat.min_eq_left (by omega),Nat.sub_self,List.take_succ_eq_append_getElem hk,List.append_assoc,show l.length - k=(l.length - (k+1))+1 by omega,List.replicate_succ,List.set_cons_zero]
 rfl
theorem sz_step {α:Type} {f:α→Nat} {l:List α} {k:Nat} {x:α} (hx:nth l k=some x):sumOf f (l.take (k+1))=sumOf f (l.take k)+f x:=sumOf_take f l k x (by rw [← nth_eq];exact hx)
theorem sz_le {α:Type} (f:α→Nat) (l:List α) (k:Nat):sumOf f (l.take k)≤sumOf f l:=by
 conv=>rhs;rw [← List.take_append_drop k l]
 unfold sumOf
 rw [List.map_append,List.sum_append];omega
theorem sz_stop {α:Type} {f:α→Nat} {l:List α} {k:Nat} {x:α} {left lv:Int} (hx:nth l k=some x) (hlv:lv=left - ((l.length+sumOf f (l.take k):Nat):Int)) (h:subOr lv (f x) < 0) : -1=subOr left (l.length+sumOf f l):=by
 have h1:=sz_step (f:=f) hx
 have h2:=sz_le f l (k+1)
 unfold subOr at *
 split at h <;> split <;> omega
theorem sz_neg {left:Int} {n m:Nat} (h:left - ((n:Nat):Int) < 0) : -1=subOr left (n+m):=by
 unfold subOr
 split <;> omega
theorem sz_next {α:Type} {f:α→Nat} {l:List α} {k:Nat} {x:α} {left lv:Int} (hx:nth l k=some x) (hlv:lv=left - ((l.length+sumOf f (l.take k):Nat):Int)) (h:¬ subOr lv (f x) < 0):subOr lv (f x)=left - ((l.length+sumOf f (l.take (k+1)):Nat):Int)∧0≤subOr lv (f x):=by
 have h1:=sz_step (f:=f) hx
 unfold subOr at *
 split at h
 ·rename_i h3
  rw [if_pos h3]
  omega
 ·omega
theorem sz_done {α:Type} {f:α→Nat} {l:List α} {k:Nat} {left lv:Int} (hk:l.length≤k) (hlv:lv=left - ((l.length+sumOf f (l.take k):Nat):Int)) (h0:0≤lv):lv=subOr left (l.length+sumOf f l):=by
 rw [List.take_of_length_le hk] at hlv
 unfold subOr
 split <;> omega
theorem subOr_neg1 {left:Int} {a:Nat} (h:subOr left a < 0) : -1=subOr left a:=by
 unfold subOr at *
 split at h <;> split <;> omega
theorem sz4_a {left:Int} {A B C D:Nat} (h:subOr left A < 0) : -1=subOr left (A+(B+(C+D))):=(subOr_neg left A _ h).symm
theorem sz4_b {left:Int} {A B C D:Nat} (h:¬ subOr left A < 0) (h2:subOr (subOr left A) B < 0) : -1=subOr left (A+(B+(C+D))):=by
 rw [← subOr_add left A _ (by omega)]
 exact (subOr_neg _ B _ h2).symm
theorem sz4_c {left:Int} {A B C D:Nat} (h:¬ subOr left A < 0) (h2:¬ subOr (subOr left A) B < 0) (h3:subOr (subOr (subOr left A) B) C < 0) : -1=subOr left (A+(B+(C+D))):=by
 rw [← subOr_add left A _ (by omega),← subOr_add _ B _ (by omega)]
 exact (subOr_neg _ C _ h3).symm
theorem sz4_d {left:Int} {A B C D:Nat} (h:¬ subOr left A < 0) (h2:¬ subOr (subOr left A) B < 0) (h3:¬ subOr (subOr (subOr left A) B) C < 0):subOr (subOr (subOr (subOr left A) B) C) D=subOr left (A+(B+(C+D))):=by
 rw [← subOr_add left A _ (by omega),← subOr_add _ B _ (by omega),← subOr_add _ C _ (by omega)]
theorem sz3_a {left:Int} {A B C:Nat} (h:left - ((A:Nat):Int) < 0) : -1=subOr left (A+(B+C)):=by unfold subOr;split <;> omega
theorem sz3_b {left:Int} {A B C:Nat} (h2:left - ((A:Nat):Int) - ((B:Nat):Int) < 0) : -1=subOr left (A+(B+C)):=by unfold subOr;split <;> omega
theorem sz3_c {left:Int} {A B C:Nat} (h2:left - ((A:Nat):Int) - ((B:Nat):Int) - ((C:Nat):Int) < 0) : -1=subOr left (A+(B+C)):=by unfold subOr;split <;> omega
theorem sz3_d {left:Int} {A B C:Nat} (h2:¬ left - ((A:Nat):Int) - ((B:Nat):Int) - ((C:Nat):Int) < 0):left - ((A:Nat):Int) - ((B:Nat):Int) - ((C:Nat):Int)=subOr left (A+(B+C)):=by unfold subOr;split <;> omega
theorem sz1_a {left:Int} {A:Nat} (h:left - ((A:Nat):Int) < 0) : -1=subOr left A:=by unfold subOr;split <;> omega
theorem sz1_b {left:Int} {A:Nat} (h:¬ left - ((A:Nat):Int) < 0):left - ((A:Nat):Int)=subOr left A:=by unfold subOr;split <;> omega
theorem el_eq {α:Type} {a b:List α} {k:Nat} {x y:α} (p:a=b) (h1:nth a k=some x) (h2:nth b k=some y):x=y:=by
 subst p
 exact Option.some.inj (h1.symm.trans h2)
theorem szX_of {x:TxD} {n:Int} (hn:n≤1048576) (h:¬ subOr n (szTxD x) < 0):x.calls.length≤1048576∧x.answers.length≤1048576∧x.touch.reads.length≤1048576∧x.touch.writes.length≤1048576∧x.marks.length≤1048576:=by
 have h1:0≤subOr n (szTxD x):=by omega
 have h2:=(subOr_ge h1).2
 unfold szTxD szCalls szAnss szTouchD szStrs at h2
 omega
set_option maxRecDepth 100000
set_option maxHeartbeats 1000000
def inB (x a b:Int):Bool:=decide (a≤x∧x≤b)
def begins (s p:ByteArray):Bool:=decide (p.size≤s.size∧s.extract 0 p.size=p)
theorem all_step {k:Nat} {p:Nat→Prop} (h:∀ j,j < k→p j) (hk:p k):∀ j,j < k+1→p j:=fun j hj=>(Nat.lt_succ_iff_lt_or_eq.1 hj).elim (h j) (fun e=>e ▸ hk)
theorem all_none {p:Nat→Prop} : ∀ j,j < 0→p j:=fun j hj=>absurd hj (Nat.not_lt_zero j)
def getKey (l:List CellD) (key:ByteArray):ByteArray:=match l.find? (fun c:CellD=>decide (c.key=key)) with
 | some c=>c.val
 | none=>⟨#[]⟩
theorem getKey_found {l:List CellD} {key:ByteArray} {k:Nat} {x:CellD} (hx:nth l k=some x) (hp:x.key=key) (hno:∀ j,j < k→∀ y,nth l j=some y→y.key≠key):getKey l key=x.val:=by
 have:l.find? (fun c:CellD=>decide (c.key=key))=some x:=by
  rw [List.find?_eq_some_iff_getElem]
  rw [nth_eq] at hx
  obtain ⟨h1,h2⟩:=List.getElem?_eq_some_iff.1 hx
  refine ⟨by simpa using hp,k,h1,h2,fun j hj=>?_⟩
  have:=hno j hj l[j] (by rw [nth_eq];simp)
  simpa using this
 simp [getKey,this]
theorem getKey_none {l:List CellD} {key:ByteArray} {k:Nat} (hk:l.length≤k) (hno:∀ j,j < k→∀ y,nth l j=some y→y.key≠key):getKey l key=⟨#[]⟩:=by
 have:l.find? (fun c:CellD=>decide (c.key=key))=none:=by
  rw [List.find?_eq_none]
  intro x hx
  obtain ⟨j,hj,rfl⟩:=List.mem_iff_getElem.1 hx
  have:=hno j (by omega) l[j] (by rw [nth_eq];simp [hj])
  simpa using this
 simp [getKey,this]
def keysUnder (l:List CellD) (p:ByteArray):List ByteArray:=(l.filter fun c=>begins c.key p).map (·.key)
theorem keysUnder_step {l:List CellD} {p:ByteArray} {k:Nat} {x:CellD} (hx:nth l k=some x):keysUnder (l.take (k+1)) p=keysUnder (l.take k) p++if begins x.key p then [x.key] else []:=by
 rw [nth_eq] at hx
 obtain ⟨h1,h2⟩:=List.getElem?_eq_some_iff.1 hx
 rw [List.take_succ_eq_append_getElem h1,h2]
 unfold keysUnder
 rw [List.filter_append,List.map_append]
 by_cases h:begins x.key p <;> simp [h]
theorem keysUnder_length (l:List CellD) (p:ByteArray):(keysUnder l p).length≤l.length:=by unfold keysUnder;rw [List.length_map];exact List.length_filter_le _ _
theorem keysUnder_take (l:List CellD) (p:ByteArray) (k:Nat):(keysUnder (l.take k) p).length≤k:=by
 have:=keysUnder_length (l.take k) p
 rw [List.length_take] at this;omega
structure MachD where
 store:List CellD
 touch:TouchD
deriving DecidableEq
theorem putL_ins {l:List ByteArray} {x:ByteArray} {k:Nat} (hk:k≤l.length) (hlt:∀ j,j < k→∀ y,nth l j=some y→ltS y x=true) (hend:∀ y,nth l k=some y→ltS y x=false∧y≠x):putL l x=l.take k++x::l.drop k:=by
 have h:=putL_at l x k hk (fun q hq y hy=>by rw [← nth_eq] at hy;simp [geS,hlt q hq y hy]) (fun y hy=>by rw [← nth_eq] at hy;simp [geS,(hend y hy).1])
 unfold putL
 rw [h,if_neg (fun e=>by rw [← nth_eq] at e;exact (hend x e).2 rfl)]
 rfl
theorem putL_same {l:List ByteArray} {x:ByteArray} {k:Nat} (hx:nth l k=some x) (hlt:∀ j,j < k→∀ y,nth l j=some y→ltS y x=true) (hend:ltS x x=false):putL l x=l:=by
 have hk:=nth_lt hx
 have h:=putL_at l x k (by omega) (fun q hq y hy=>by rw [← nth_eq] at hy;simp [geS,hlt q hq y hy]) (fun y hy=>by rw [← nth_eq,hx] at hy;cases hy;simp [geS,hend])
 unfold putL
 rw [h,if_pos (by rw [← nth_eq];exact hx)]
def lookM (m:MachD) (key:ByteArray):MachD:=⟨m.store,⟨putL m.touch.reads key,m.touch.writes⟩⟩
theorem sz_of {n:Int} {a:Nat} (h:¬ subOr n a < 0):(a:Int)≤n:=by unfold subOr at h;split at h <;> omega
theorem joinL_step {l m:List ByteArray} {i:Nat} {x:ByteArray} (h:nth m i=some x):joinL l (m.take (i+1))=putL (joinL l (m.take i)) x:=by
 rw [nth_eq] at h
 obtain ⟨hi,hx⟩:=List.getElem?_eq_some_iff.1 h
 rw [List.take_succ_eq_append_getElem hi,hx]
 simp [joinL]
theorem joinL_length (l m:List ByteArray):(joinL l m).length≤l.length+m.length:=by
 induction m generalizing l with
 | nil=>simp [joinL]
 | cons x m ih=>
  have h1:=ih (putL l x)
  have h2:=putL_length l x
  simp only [joinL,List.foldl_cons,List.length_cons] at *
  omega
def idxKey (s:List CellD) (key:ByteArray):Int:=idxP (fun c=>decide (c.key=key)) s
theorem idxKey_bd (s:List CellD) (key:ByteArray) : -1≤idxKey s key∧idxKey s key < s.length:=by
 unfold idxKey idxP;split <;> omega
theorem idxP_ok {α:Type} (p:α→Bool) (l:List α) (h:l.length≤9223372036854775807):i64ok (idxP p l):=by
 unfold idxP i64ok;split <;> omega
theorem idxP_bd {α:Type} (p:α→Bool) (l:List α) : -1≤idxP p l∧idxP p l < l.length:=by
 unfold idxP;split <;> omega
theorem idxP_at {α:Type} {p:α→Bool} {l:List α} {k:Nat} {x:α} (h:idxP p l=k) (hx:nth l k=some x):p x=true∧∀ j,j < k→∀ y,nth l j=some y→p y=false:=by
 unfold idxP at h
 split at h
 ·rename_i hlt
  have hk:l.findIdx p=k:=by omega
  subst hk
  rw [nth_eq] at hx
  obtain ⟨h1,h2⟩:=List.getElem?_eq_some_iff.1 hx
  refine ⟨?_,fun j hj y hy=>?_⟩
  ·have:=List.findIdx_getElem (p:=p) (w:=hlt)
   rw [h2] at this;exact this
  ·rw [nth_eq] at hy
   obtain ⟨h3,h4⟩:=List.getElem?_eq_some_iff.1 hy
   have:=List.not_of_lt_findIdx hj
   rw [h4] at this
   simpa using this
 ·omega
theorem idxP_no {α:Type} {p:α→Bool} {l:List α} (h:¬ 0≤idxP p l):∀ j,j < l.length→∀ y,nth l j=some y→p y=false:=by
 intro j hj y hy
 unfold idxP at h
 split at h
 ·omega
 ·rename_i hlt
  rw [nth_eq] at hy
  obtain ⟨h3,h4⟩:=List.getElem?_eq_some_iff.1 hy
  have:j < l.findIdx p:=by omega
  have:=List.not_of_lt_findIdx this
  rw [h4] at this
  simpa using this
def kb (n:Nat):Bool:=decide (33≤n∧n≤126∧n≠42)
def keyOk (key:ByteArray):Bool:=(List.range key.size).all (fun j=>kb (byteAt key j)) && inB key.size 1 40
theorem keyOk_bad {key:ByteArray} {j:Nat} (hj:j < key.size) (h:kb (byteAt key j)=false):keyOk key=false:=by
 have:(List.range key.size).all (fun j=>kb (byteAt key j))=false:=by
  rw [List.all_eq_false]
  exact ⟨j,List.mem_range.2 hj,by simp [h]⟩
 simp [keyOk,this]
theorem keyOk_all {key:ByteArray} (h:∀ j,j < key.size→kb (byteAt key j)=true):keyOk key=inB key.size 1 40:=by
 have:(List.range key.size).all (fun j=>kb (byteAt key j))=true:=by
  rw [List.all_eq_true]
  exact fun j hj=>h j (List.mem_range.1 hj)
 simp [keyOk,this]
theorem kb_in (n:Nat):kb n=(inB n 33 126 && decide (n≠42)):=by
 unfold kb inB
 by_cases h:n=42 <;> simp [h]
 by_cases h1:33≤n <;> by_cases h2:n≤126 <;> simp [h1,h2] <;> omega
def delKey (s:List CellD) (key:ByteArray):List CellD:=s.filter fun c=>decide (c.key≠key)
theorem delKey_length (s:List CellD) (key:ByteArray):(delKey s key).length≤s.length:=List.length_filter_le _ _
theorem nth_take_snoc {α:Type} {l:List α} {k:Nat} {x:α} (hx:nth l k=some x):l.take (k+1)=l.take k++[x]:=by
 rw [nth_eq] at hx
 obtain ⟨h1,h2⟩:=List.getElem?_eq_some_iff.1 hx
 rw [List.take_succ_eq_append_getElem h1,h2]
theorem delKey_snoc (s:List CellD) (key:ByteArray) (x:CellD):delKey (s++[x]) key=delKey s key++if x.key=key then [] else [x]:=by
 unfold delKey
 rw [List.filter_append]
 by_cases h:x.key=key <;> simp [h]
theorem delKey_all {s:List CellD} {key:ByteArray} (h:∀ c ∈ s,c.key≠key):delKey s key=s:=by
 unfold delKey
 rw [List.filter_eq_self]
 exact fun c hc=>decide_eq_true (h c hc)
theorem delKey_none {s:List CellD} {key:ByteArray} (h:idxP (fun c:CellD=>decide (c.key=key)) s=-1):s=delKey s key:=by
 refine (delKey_all fun c hc=>?_).symm
 obtain ⟨j,hj,rfl⟩:=List.mem_iff_getElem.1 hc
 have:=idxP_no (p:=fun c:CellD=>decide (c.key=key)) (l:=s) (by omega) j hj s[j] (by rw [nth_eq];simp [hj])
 simpa using this
def delInv (s:List CellD) (key:ByteArray) (j ii:Nat) (D:List CellD):Prop:=D.length=s.length∧j≤s.length∧ii < j∧ii=(delKey (s.take j) key).length∧D.take ii=delKey (s.take j) key∧D.drop j=s.drop j
theorem delStart {s:List CellD} {key:ByteArray} (h:¬ idxP (fun c:CellD=>decide (c.key=key)) s=-1):∃ k0:Nat,idxP (fun c:CellD=>decide (c.key=key)) s=(k0:Int)∧k0 < s.length∧delInv s key (k0+1) k0 s:=by
 have hb:=idxP_bd (fun c:CellD=>decide (c.key=key)) s
 obtain ⟨k0,hk0⟩:∃ k0:Nat,idxP (fun c:CellD=>decide (c.key=key)) s=(k0:Int):=⟨(idxP (fun c:CellD=>decide (c.key=key)) s).toNat,by omega⟩
 have hlt:k0 < s.length:=by omega
 have hx:nth s k0=some s[k0]:=by rw [nth_eq];simp [hlt]
 obtain ⟨h1,h2⟩:=idxP_at hk0 hx
 have e1:delKey (s.take k0) key=s.take k0:=delKey_all fun c hc=>by
  obtain ⟨j,hj,rfl⟩:=List.mem_iff_getElem.1 hc
  rw [List.length_take] at hj
  have:=h2 j (by omega) _ (show nth s j=some s[j] by rw [nth_eq];simp [show j < s.length by omega])
  simpa using this
 have e2:delKey (s.take (k0+1)) key=s.take k0:=by
  rw [nth_take_snoc hx,delKey_snoc,e1,if_pos (by simpa using h1),List.append_nil]
 exact ⟨k0,hk0,hlt,rfl,hlt,by omega,by rw [e2,List.length_take];omega,e2.symm,rfl⟩
theorem delInv.nthE {s D:List CellD} {key:ByteArray} {j ii:Nat} {x:CellD} (h:delInv s key j ii D) (hx:nth D j=some x):nth s j=some x:=by
 obtain ⟨_,_,_,_,_,h6⟩:=h
 rw [nth_eq] at hx ⊢
 have:=congrArg (fun l=>l[0]?) h6
 simp only [List.getElem?_drop,Nat.add_zero] at this
 rw [← this];exact hx
theorem drop_step {α:Type} {D s:List α} {j:Nat} (h:D.drop j=s.drop j):D.drop (j+1)=s.drop (j+1):=by
 rw [← List.drop_drop,← List.drop_drop,h]
theorem delInv.skip {s D:List CellD} {key:ByteArray} {j ii:Nat} {x:CellD} (h:delInv s key j ii D) (hx:nth D j=some x) (hk:x.key=key):delInv s key (j+1) ii D:=by
 have hs:=h.nthE hx
 obtain ⟨h1,h2,h3,h4,h5,h6⟩:=h
 have e:delKey (s.take (j+1)) key=delKey (s.take j) key:=by rw [nth_take_snoc hs,delKey_snoc,if_pos hk,List.append_nil]
 exact ⟨h1,nth_lt hs,by omega,by rw [e];exact h4,by rw [e];exact h5,drop_step h6⟩
theorem delInv.keep {s D:List CellD} {key:ByteArray} {j ii:Nat} {x:CellD} (h:delInv s key j ii D) (hx:nth D j=some x) (hk:¬ x.key=key):delInv s key (j+1) (ii+1) (D.set ii x):=by
 have hs:=h.nthE hx
 obtain ⟨h1,h2,h3,h4,h5,h6⟩:=h
 have e:delKey (s.take (j+1)) key=delKey (s.take j) key++[x]:=by rw [nth_take_snoc hs,delKey_snoc,if_neg hk]
 have hlt:=nth_lt hs
 refine ⟨by rw [List.length_set];exact h1,hlt,by omega,by rw [e,List.length_append,← h4];rfl,?_,?_⟩
 ·rw [e,← h5]
  have hx2:nth (D.set ii x) ii=some x:=by rw [nth_eq,List.getElem?_set_self (by omega)]
  rw [nth_take_snoc hx2,List.take_set,List.set_eq_of_length_le (by rw [List.length_take];omega)]
 ·rw [List.drop_set_of_lt (by omega)]
  exact drop_step h6
theorem delInv.bd {s D:List CellD} {key:ByteArray} {j ii:Nat} (h:delInv s key j ii D):ii < j∧j≤s.length∧D.length=s.length:=⟨h.2.2.1,h.2.1,h.1⟩
theorem delInv.done {s D:List CellD} {key:ByteArray} {j ii:Nat} (h:delInv s key j ii D) (hj:s.length≤j) (r:List CellD):(D.take ii++r).take ii=delKey s key:=by
 obtain ⟨h1,h2,h3,h4,h5,h6⟩:=h
 rw [List.take_left' (by rw [List.length_take];omega),h5,List.take_of_length_le hj]
def insK (r:List CellD) (key val:ByteArray):List CellD:=insAt r (r.findIdx fun c=>!leS c.key key) ⟨key,val⟩
def putKey (s:List CellD) (key val:ByteArray):List CellD:=if keyOk key=true∧val.size≤60 then (if val=⟨#[]⟩ then delKey s key else insK (delKey s key) key val) else s
theorem putKey_length (s:List CellD) (key val:ByteArray):(putKey s key val).length≤s.length+1:=by
 have:=delKey_length s key
 unfold putKey
 split
 ·split
  ·omega
  ·unfold insK;rw [insAt_length _ _ _ List.findIdx_le_length];omega
 ·omega
theorem putKey_no {s:List CellD} {key val:ByteArray} (h:keyOk key=false∨60 < val.size):putKey s key val=s:=by
 unfold putKey
 rw [if_neg (fun e=>by rcases h with h|h;(rw [h] at e;exact absurd e.1 (by decide));omega)]
theorem putKey_del {s:List CellD} {key val:ByteArray} (h1:keyOk key=true) (h3:val=⟨#[]⟩):putKey s key val=delKey s key:=by
 subst h3
 unfold putKey
 rw [if_pos ⟨h1,by decide⟩,if_pos rfl]
theorem putKey_ins {s:List CellD} {key val:ByteArray} (h1:keyOk key=true) (h2:val.size≤60) (h3:¬ val=⟨#[]⟩):putKey s key val=insK (delKey s key) key val:=by
 unfold putKey
 rw [if_pos ⟨h1,h2⟩,if_neg h3]
theorem insK_at {r:List CellD} {key val:ByteArray} {z:Int} (h:z=idxP (fun c:CellD=>!leS c.key key) r) (h0:0≤z):insAt r z.toNat ⟨key,val⟩=insK r key val:=by
 subst h
 unfold insK idxP at *
 split at h0
 ·rename_i hlt;rw [if_pos hlt];rfl
 ·omega
theorem insK_end {r:List CellD} {key val:ByteArray} {n:Nat} (hn:n=r.length) (h:idxP (fun c:CellD=>!leS c.key key) r < 0):insAt r ((n:Nat):Int).toNat ⟨key,val⟩=insK r key val:=by
 subst hn
 unfold insK
 have:r.findIdx (fun c:CellD=>!leS c.key key)=r.length:=by
  have h1:r.findIdx (fun c:CellD=>!leS c.key key)≤r.length:=List.findIdx_le_length
  unfold idxP at h
  split at h <;> omega
 rw [this];rfl
def putF (s:List CellD) (key val:ByteArray) (p:List CellD × Bool):List CellD × Bool:=s.foldl (fun p c=>
 let q:=if p.2=false∧(!leS c.key key)=true then (p.1++[⟨key,val⟩],true) else p
 if c.key=key then q else (q.1++[c],q.2)) p
theorem putF_step {s:List CellD} {key val:ByteArray} {p q:List CellD × Bool} {k:Nat} {x:CellD} (h:putF (s.take k) key val p=q) (hx:nth s k=some x) :
 putF (s.take (k+1)) key val p=(let r:=if q.2=false∧(!leS x.key key)=true then (q.1++[⟨key,val⟩],true) else q
  if x.key=key then r else (r.1++[x],r.2)):=by
 subst h
 rw [nth_take_snoc hx]
 unfold putF
 rw [List.foldl_append]
 rfl
theorem leS_self (k:ByteArray):leS k k=true:=by simp [leS]
theorem nt {b:Bool} (h:(!b)=true):b=false:=by simpa using h
theorem nf {b:Bool} (h:(!b)=false):b=true:=by simpa using h
theorem putF_a {s:List CellD} {key val:ByteArray} {p:List CellD × Bool} {O:List CellD} {dd:Bool} {k:Nat} {x:CellD} (h:putF (s.take k) key val p=(O,dd)) (hx:nth s k=some x) (h1:(!dd)=true) (h2:(!leS x.key key)=true) (h3:x.key≠key):putF (s.take (k+1)) key val p=(O++[⟨key,val⟩]++[x],true):=by
 rw [putF_step h hx];simp [nt h1,h2,h3]
theorem putF_b {s:List CellD} {key val:ByteArray} {p:List CellD × Bool} {O:List CellD} {dd:Bool} {k:Nat} {x:CellD} (h:putF (s.take k) key val p=(O,dd)) (hx:nth s k=some x) (h1:(!dd)=false∨(!leS x.key key)=false) (h3:x.key≠key):putF (s.take (k+1)) key val p=(O++[x],dd):=by
 rw [putF_step h hx]
 rcases h1 with h1|h1
 ·simp [nf h1,h3]
 ·simp [nf h1,h3]
theorem putF_c {s:List CellD} {key val:ByteArray} {p:List CellD × Bool} {O:List CellD} {dd:Bool} {k:Nat} {x:CellD} (h:putF (s.take k) key val p=(O,dd)) (hx:nth s k=some x) (h1:(!dd)=false∨(!leS x.key key)=false) (h3:¬ x.key≠key):putF (s.take (k+1)) key val p=(O,dd):=by
 rw [putF_step h hx]
 rcases h1 with h1|h1
 ·simp [Decidable.not_not.1 h3,leS_self]
 ·simp [Decidable.not_not.1 h3,leS_self]
theorem putF_d {s:List CellD} {key val:ByteArray} {p:List CellD × Bool} {O:List CellD} {dd:Bool} {k:Nat} {x:CellD} (h:putF (s.take k) key val p=(O,dd)) (hx:nth s k=some x) (_h1:(!dd)=true) (h2:(!leS x.key key)=true) (h3:¬ x.key≠key):putF (s.take (k+1)) key val p=(O++[⟨key,val⟩],true):=by
 rw [putF_step h hx]
 have h4:=Decidable.not_not.1 h3
 rw [h4,leS_self] at h2
 exact absurd h2 (by decide)
theorem putF_true (s:List CellD) (key val:ByteArray) (o:List CellD):putF s key val (o,true)=(o++delKey s key,true):=by
 induction s generalizing o with
 | nil=>simp [putF,delKey]
 | cons c s ih=>
  have e:putF (c::s) key val (o,true)=putF s key val (if c.key=key then (o,true) else (o++[c],true)):=by
   show putF s key val _=_
   by_cases h:c.key=key <;> simp [h]
  rw [e]
  by_cases h:c.key=key
  ·rw [if_pos h,ih];simp [delKey,h]
  ·rw [if_neg h,ih];simp [delKey,h]
theorem insAt_cons {α:Type} (l:List α) (a:α) (i:Nat) (x:α):insAt (a::l) (i+1) x=a::insAt l i x:=by simp [insAt]
theorem putF_false (s:List CellD) (key val:ByteArray) (o:List CellD):(putF s key val (o,false)).1++(if (putF s key val (o,false)).2=false then [⟨key,val⟩] else [])=o++insK (delKey s key) key val:=by
 induction s generalizing o with
 | nil=>simp [putF,delKey,insK,insAt]
 | cons c s ih=>
  by_cases hg:(!leS c.key key)=true
  ·have hne:c.key≠key:=fun e=>by rw [e,leS_self] at hg;exact absurd hg (by decide)
   have e:putF (c::s) key val (o,false)=putF s key val (o++[⟨key,val⟩]++[c],true):=by
    show putF s key val _=_
    simp [hg,hne]
   rw [e,putF_true]
   have:delKey (c::s) key=c::delKey s key:=by simp [delKey,hne]
   rw [this]
   simp [insK,insAt,List.findIdx_cons,hg]
  ·have e:putF (c::s) key val (o,false)=putF s key val (if c.key=key then (o,false) else (o++[c],false)):=by
    show putF s key val _=_
    by_cases h:c.key=key <;> simp [h,hg,leS_self]
   rw [e]
   by_cases h:c.key=key
   ·rw [if_pos h,ih];simp [delKey,h]
   ·rw [if_neg h,ih]
    have:delKey (c::s) key=c::delKey s key:=by simp [delKey,h]
    rw [this]
    simp [insK,List.findIdx_cons,hg,insAt_cons]
theorem putF_end {s:List CellD} {key val:ByteArray} {k:Nat} {O:List CellD} {dd:Bool} (h:putF (s.take k) key val ([],decide (val=⟨#[]⟩))=(O,dd)) (hk:s.length≤k) (h1:keyOk key=true) (h2:val.size≤60):O++(if dd=false then [⟨key,val⟩] else [])=putKey s key val:=by
 rw [List.take_of_length_le hk] at h
 by_cases h3:val=⟨#[]⟩
 ·rw [putKey_del h1 h3]
  rw [decide_eq_true h3,putF_true] at h
  obtain ⟨rfl,rfl⟩:=Prod.mk.inj h
  simp
 ·rw [putKey_ins h1 h2 h3]
  rw [decide_eq_false h3] at h
  have:=putF_false s key val []
  rw [h] at this
  simpa using this
def layM (m:MachD) (key val:ByteArray):MachD:=⟨putKey m.store key val,⟨m.touch.reads,putL m.touch.writes key⟩⟩
def wipeL (m:MachD) (ks:List ByteArray):MachD:=ks.foldl (fun m k=>layM m k ⟨#[]⟩) m
def wipeM (m:MachD) (pfx:ByteArray):MachD:=wipeL (lookM m (pfx++⟨#[42]⟩)) (keysUnder m.store pfx)
theorem wipeL_step {m:MachD} {ks:List ByteArray} {k:Nat} {x:ByteArray} (hx:nth ks k=some x):wipeL m (ks.take (k+1))=layM (wipeL m (ks.take k)) x ⟨#[]⟩:=by
 rw [nth_take_snoc hx];unfold wipeL;rw [List.foldl_append];rfl
theorem wipeL_bd (m:MachD) (ks:List ByteArray):(wipeL m ks).store.length≤m.store.length+ks.length∧(wipeL m ks).touch.reads.length=m.touch.reads.length∧(wipeL m ks).touch.writes.length≤m.touch.writes.length+ks.length:=by
 induction ks generalizing m with
 | nil=>simp [wipeL]
 | cons x ks ih=>
  have h1:=ih (layM m x ⟨#[]⟩)
  have h2:=putKey_length m.store x ⟨#[]⟩
  have h3:=putL_length m.touch.writes x
  simp only [wipeL,List.foldl_cons,List.length_cons] at h1 ⊢
  simp only [layM] at h1
  simp only [layM]
  omega
set_option maxRecDepth 100000
set_option maxHeartbeats 1000000
theorem impl_addSpan_c {w:World} {H:Nat→Prop} {list:List ByteArray} {Q0:Option Addr} {list_n Q1:Nat} {span:ByteArray} (Q2:okS span) (p0:list_n≤549755813888) (hA:At w [ow 9 1 encS okS (.slice Q0 list_n Q1) list]) :
 Calls Tryz.prog 359 #[.slice Q0 list_n Q1,.string span] w fun e w'=>∃ (r0_a:Option Addr),∃ (r0_n:Nat),∃ (r0_c:Nat),e=.returned (.slice r0_a r0_n r0_c)∧Mv [ow 9 1 encS okS (.slice Q0 list_n Q1) list] w [ow 9 1 encS okS (.slice r0_a r0_n r0_c) (putL list span)] w':=by
 have hO:=hA.ok _ (List.mem_singleton.2 rfl)
 have hl:list.length=list_n:=by obtain ⟨_,_,e,_⟩:=(Own.rd strT.hk hO).inv;cases e;rfl
 refine (addSpan_s _ span w list hO Q2 (by omega)).mono ?_
 rintro e w' ⟨a,n,c,rfl,h1,h2,h3⟩
 exact ⟨a,n,c,rfl,mv_of_own h1 h2 h3⟩
theorem slices_Clone_Simpl_Cell_impl_Cell_c {w:World} {H:Nat→Prop} {s:List CellD} {s_a:Option Addr} {s_n s_c:Nat} (v_s:Rd 2 encC okC H w (.slice s_a s_n s_c) s) (p0:s_n≤1099511627776) :
 Calls Tryz.prog 46 #[.slice s_a s_n s_c] w fun e w'=>∃ (r0_a:Option Addr),∃ (r0_n:Nat),∃ (r0_c:Nat),e=.returned (.slice r0_a r0_n r0_c)∧Mv [] w [ow 91 2 encC okC (.slice r0_a r0_n r0_c) s] w':=by
 obtain ⟨hl,_⟩:=v_s.inv
 refine (cloneCells_s _ w s v_s.1 (by omega)).mono ?_
 rintro e w' ⟨a,n,c,rfl,h1,h2,h3⟩
 exact ⟨a,n,c,rfl,mv_of_fresh h1 h2 h3⟩
theorem laws_szStringS_c {w:World} {H:Nat→Prop} {a:List ByteArray} {a_a:Option Addr} {a_n a_c:Nat} {left:Int} (v_a:RdA 1 encS okS H w (.slice a_a a_n a_c) a) (Q0:i64ok left) (p0:0≤left) (p1:left≤1048576) :
 Calls Tryz.prog 106 #[.slice a_a a_n a_c,.int .i64 left] w fun e w'=>e=.returned (.int .i64 (subOr left (szStrs a)))∧Mv [] w [] w'∧i64ok (subOr left (szStrs a)):=by
 refine (szStringS_c _ left w a v_a.1 p0 p1).mono ?_
 rintro e w' ⟨rfl,hb⟩
 exact ⟨rfl,Mv.of_bl hb,subOr_i64 p0 p1⟩
theorem laws_szCellS_c {w:World} {H:Nat→Prop} {a:List CellD} {a_a:Option Addr} {a_n a_c:Nat} {left:Int} (v_a:RdA 2 encC okC H w (.slice a_a a_n a_c) a) (Q0:i64ok left) (p0:0≤left) (p1:left≤1048576) :
 Calls Tryz.prog 15 #[.slice a_a a_n a_c,.int .i64 left] w fun e w'=>e=.returned (.int .i64 (subOr left (szCells a)))∧Mv [] w [] w'∧i64ok (subOr left (szCells a)):=by
 refine (szCellS_c _ left w a v_a.1 p0 p1).mono ?_
 rintro e w' ⟨rfl,hb⟩
 exact ⟨rfl,Mv.of_bl hb,subOr_i64 p0 p1⟩
theorem laws_toStringS_c {w:World} {H:Nat→Prop} {a:List ByteArray} {a_a:Option Addr} {a_n a_c:Nat} (v_a:RdA 1 encS okS H w (.slice a_a a_n a_c) a) (p0:a.length≤1048576) :
 Calls Tryz.prog 114 #[.slice a_a a_n a_c] w fun e w'=>∃ (r0_a:Option Addr),∃ (r0_n:Nat),∃ (r0_c:Nat),e=.returned (.slice r0_a r0_n r0_c)∧Mv [] w [ow 9 1 encS okS (.slice r0_a r0_n r0_c) a] w':=by
 refine (toStringS_s _ w a v_a.1 p0).mono ?_
 rintro e w' ⟨x,n,c,rfl,h1,h2,h3⟩
 exact ⟨x,n,c,rfl,mv_of_fresh h1 h2 h3⟩
theorem laws_toCellS_c {w:World} {H:Nat→Prop} {a:List CellD} {a_a:Option Addr} {a_n a_c:Nat} (v_a:RdA 2 encC okC H w (.slice a_a a_n a_c) a) (p0:a.length≤1048576) :
 Calls Tryz.prog 18 #[.slice a_a a_n a_c] w fun e w'=>∃ (r0_a:Option Addr),∃ (r0_n:Nat),∃ (r0_c:Nat),e=.returned (.slice r0_a r0_n r0_c)∧Mv [] w [ow 91 2 encC okC (.slice r0_a r0_n r0_c) a] w':=by
 refine (toCellS_s _ w a v_a.1 p0).mono ?_
 rintro e w' ⟨x,n,c,rfl,h1,h2,h3⟩
 exact ⟨x,n,c,rfl,mv_of_fresh h1 h2 h3⟩
theorem laws_eqStringS_c {w:World} {H:Nat→Prop} {a:List ByteArray} {a_a:Option Addr} {a_n a_c:Nat} {b:List ByteArray} {b_a:Option Addr} {b_n b_c:Nat} (v_a:Rd 1 encS okS H w (.slice a_a a_n a_c) a) (v_b:Rd 1 encS okS H w (.slice b_a b_n b_c) b) (p0:a=b) :
 Calls Tryz.prog 122 #[.slice a_a a_n a_c,.slice b_a b_n b_c] w fun e w'=>e=.returned (.bool true)∧Mv [] w [] w':=by
 subst p0
 refine (eqStringS_c _ _ w a v_a.1 v_b.1).mono ?_
 rintro e w' ⟨rfl,hb⟩
 exact ⟨rfl,Mv.of_bl hb⟩
theorem laws_eqCellS_c {w:World} {H:Nat→Prop} {a:List CellD} {a_a:Option Addr} {a_n a_c:Nat} {b:List CellD} {b_a:Option Addr} {b_n b_c:Nat} (v_a:Rd 2 encC okC H w (.slice a_a a_n a_c) a) (v_b:Rd 2 encC okC H w (.slice b_a b_n b_c) b) (p0:a=b) :
 Calls Tryz.prog 10 #[.slice a_a a_n a_c,.slice b_a b_n b_c] w fun e w'=>e=.returned (.bool true)∧Mv [] w [] w':=by
 subst p0
 refine (eqCellS_c _ _ w a v_a.1 v_b.1).mono ?_
 rintro e w' ⟨rfl,hb⟩
 exact ⟨rfl,Mv.of_bl hb⟩
set_option maxRecDepth 100000
set_option maxHeartbeats 1000000
theorem spec_l01In_c {w:World} {H:Nat→Prop} {x:Int} {least:Int} {most:Int} (h_x:i64ok x) (Q0:i64ok least) (Q1:i64ok most) :
 Calls Tryz.prog 87 #[.int .i64 x,.int .i64 least,.int .i64 most] w fun e w'=>e=.returned (.bool (inB x least most))∧Mv [] w [] w':=by
 refine ze fun _ F=>?_
 refine zc F (x ≥ least) fun _ F=>?_
 rcases Decidable.em (x ≥ least) with h6|h6
 ·rw [decide_eq_true h6] at F
  refine zr fun _ F=>?_
  refine zc F (x≤most) fun _ F=>?_
  refine x_done F (results_1 rfl (zta F)) ?_
  exact ⟨(zV1 (zVb (by unfold inB;first|rfl|exact dec_of (by omega)|exact (decide_eq_false (by omega)).symm|exact (decide_eq_true (by omega)).symm))),(Mv.pick (Mv.refl (At.nil w)) [] rfl)⟩
 ·rw [decide_eq_false h6] at F
  refine zr fun _ F=>?_
  refine x_done F (results_1 rfl (zta F)) ?_
  exact ⟨(zV1 (zVb (by unfold inB;first|rfl|exact dec_of (by omega)|exact (decide_eq_false (by omega)).symm|exact (decide_eq_true (by omega)).symm))),(Mv.pick (Mv.refl (At.nil w)) [] rfl)⟩
theorem impl_within_c {w:World} {H:Nat→Prop} {n:Int} {low:Int} {high:Int} (h_n:i64ok n) (Q1:i64ok low) (Q0:i64ok high) :
 Calls Tryz.prog 93 #[.int .i64 n,.int .i64 low,.int .i64 high] w fun e w'=>e=.returned (.bool (inB n low high))∧Mv [] w [] w':=by
 refine ze fun _ F=>?_
 refine zc F (n ≥ low) fun _ F=>?_
 rcases Decidable.em (n ≥ low) with h6|h6
 ·rw [decide_eq_true h6] at F
  refine zr fun _ F=>?_
  refine zc F (n≤high) fun _ F=>?_
  refine x_done F (results_1 rfl (zta F)) ?_
  exact ⟨(zV1 (zVb (by unfold inB;first|rfl|exact dec_of (by omega)|exact (decide_eq_false (by omega)).symm|exact (decide_eq_true (by omega)).symm))),(Mv.pick (Mv.refl (At.nil w)) [] rfl)⟩
 ·rw [decide_eq_false h6] at F
  refine zr fun _ F=>?_
  refine x_done F (results_1 rfl (zta F)) ?_
  exact ⟨(zV1 (zVb (by unfold inB;first|rfl|exact dec_of (by omega)|exact (decide_eq_false (by omega)).symm|exact (decide_eq_true (by omega)).symm))),(Mv.pick (Mv.refl (At.nil w)) [] rfl)⟩
theorem spec_l02Begins_c {w:World} {H:Nat→Prop} {s:ByteArray} {pfx:ByteArray} (h_s:okS s) (Q0:okS pfx) :
 Calls Tryz.prog 368 #[.string s,.string pfx] w fun e w'=>e=.returned (.bool (begins s pfx))∧Mv [] w [] w':=by
 refine ze fun _ F=>?_
 refine zc F (s.size ≥ pfx.size) fun _ F=>?_
 rcases Decidable.em (s.size ≥ pfx.size) with h8|h8
 ·rw [decide_eq_true h8] at F
  refine zr fun _ F=>?_
  refine zv F (r_sliceS (l:=0) (h:=pfx.size) Tryz.underlying9 rfl (F.g rfl) rfl (F.g rfl) zIa zIa rfl) fun _ F=>?_
  refine zv F (r_cmps (b:=(decide ((s.extract 0 pfx.size)=pfx))) (.inl rfl) rfl (F.g rfl) (F.g rfl) rfl) fun _ F=>?_
  refine x_done F (results_1 rfl (zta F)) ?_
  exact ⟨(zV1 (zVb (by unfold begins;by_cases hb:pfx.size≤s.size <;> simp_all <;> omega))),(Mv.pick (Mv.refl (At.nil w)) [] rfl)⟩
 ·rw [decide_eq_false h8] at F
  refine zr fun _ F=>?_
  refine x_done F (results_1 rfl (zta F)) ?_
  exact ⟨(zV1 (zVb (by unfold begins;by_cases hb:pfx.size≤s.size <;> simp_all <;> omega))),(Mv.pick (Mv.refl (At.nil w)) [] rfl)⟩
theorem spec_GetKey_c {w:World} {H:Nat→Prop} {s:List CellD} {s_a:Option Addr} {s_n s_c:Nat} {key:ByteArray} (v_s:Rd 2 encC okC H w (.slice s_a s_n s_c) s) (Q0:okS key) :
 Calls Tryz.prog 109 #[.slice s_a s_n s_c,.string key] w fun e w'=>e=.returned (.string (getKey s key))∧Mv [] w [] w'∧okS (getKey s key):=by
 have V_v_s:=Rd.start v_s zN
 obtain ⟨ln_s,le_s,mx_s,ni_s⟩:=Rd.inv v_s
 refine ze fun _ F=>?_
 refine x_lp (fun (k:Nat) aZ wZ=>Fr 24 [(5,.int .i64 ((k:Nat):Int)),(0,.slice s_a s_n s_c),(1,.string key)] aZ∧Mv [] w [] wZ∧(k≤s_n)∧(∀ j,j < k→∀ y,nth s j=some y→y.key≠key)) (fun (k:Nat)=>s_n - k) (0) ?_ ?_
 ·exact ⟨F.cut rfl,(Mv.refl (At.nil w)),by omega,all_none⟩
 ·rintro k a3 w3 ⟨F,S3,hk_0,hk_1⟩
  refine zr fun _ F=>?_
  refine zc F (k < s_n) fun _ F=>?_
  refine zi F (fun h8=>?_) fun h8=>?_
  ·refine zr fun _ F=>?_
   obtain ⟨B11,O11,x1,ad11,hx1,okx1,ln11,cl11⟩:=Rd.at (Rd.mq V_v_s S3) k zIa
   clear ln11
   refine zv F (r_indexAddr (i:=k) ET_28 rfl ((F.ev 12 rfl).trans (by rw [ad11])) (F.g rfl) (by omega) zIa) fun _ F=>?_
   refine zv (v:=.string x1.key) F (r_load (cs:=[.string x1.key]) TI_9 rfl (F.g rfl) rfl (fun _=>rfl) (elem_sub (f:=0) cl11 [.string x1.key] rfl)) fun _ F=>?_
   refine zv F (r_cmps (b:=(decide (x1.key=key))) (.inl rfl) rfl (F.g rfl) (F.g rfl) rfl) fun _ F=>?_
   refine zi F (fun h17=>?_) fun h17=>?_
   ·refine zr fun _ F=>?_
    obtain ⟨B20,O20,y20,ad20,hy20,oky20,ln20,cl20⟩:=Rd.at (Rd.mq V_v_s S3) k zIa
    clear ln20
    obtain rfl:=Option.some.inj (hx1.symm.trans hy20)
    clear hy20 oky20
    refine zv F (r_indexAddr (i:=k) ET_28 rfl ((F.ev 19 rfl).trans (by rw [ad20])) (F.g rfl) (by omega) zIa) fun _ F=>?_
    refine zv (v:=.string x1.val) F (r_load (cs:=[.string x1.val]) TI_9 rfl (F.g rfl) rfl (fun _=>rfl) (elem_sub (f:=1) cl20 [.string x1.val] rfl)) fun _ F=>?_
    refine x_done F (results_1 rfl (zta F)) ?_
    exact ⟨(zV1 (zVs (by exact (getKey_found hx1 ‹_› hk_1).symm))),(Mv.pick S3 [] rfl),(zOk (by exact (getKey_found hx1 ‹_› hk_1).symm) okx1.2)⟩
   ·refine zr fun _ F=>?_
    refine zq F ((k+1:Nat):Int) fun _ F=>?_
    exact ⟨k+1,zD,F.cut rfl,(S3.pick [] rfl),by omega,all_step hk_1 (fun y hy=>by obtain rfl:=Option.some.inj (hx1.symm.trans hy);assumption)⟩
  ·refine zr fun _ F=>?_
   refine x_done F (results_1 rfl (zta F)) ?_
   exact ⟨(zV1 (zVs (by exact (getKey_none (by omega) hk_1).symm))),(Mv.pick S3 [] rfl),((show bE_=(getKey s key) from by exact (getKey_none (by omega) hk_1).symm) ▸ (by unfold okS;decide))⟩
theorem spec_KeysUnder_c {w:World} {H:Nat→Prop} {s:List CellD} {s_a:Option Addr} {s_n s_c:Nat} {pfx:ByteArray} (v_s:Rd 2 encC okC H w (.slice s_a s_n s_c) s) (Q0:okS pfx) (p0:s_n≤1099511627776) :
 Calls Tryz.prog 348 #[.slice s_a s_n s_c,.string pfx] w fun e w'=>∃ (r0_a:Option Addr),∃ (r0_n:Nat),∃ (r0_c:Nat),e=.returned (.slice r0_a r0_n r0_c)∧Mv [] w [ow 9 1 encS okS (.slice r0_a r0_n r0_c) (keysUnder s pfx)] w':=by
 have V_v_s:=Rd.start v_s zN
 obtain ⟨ln_s,le_s,mx_s,ni_s⟩:=Rd.inv v_s
 refine ze fun _ F=>?_
 refine l_op (f_buildSl (ok:=okS) (vs:=[]) F (At.nil w) (([]:List ByteArray)) ET_44 rfl rfl rfl rfl rfl rfl rfl rfl rfl (by simp) fun b2 _ w2 F S2=>?_)
 refine zr fun _ F=>?_
 refine x_lp (fun (k:Nat) aZ wZ=>∃ (oa:Option Addr),∃ (on:Nat),∃ (oc:Nat),Fr 30 [(6,.int .i64 ((k:Nat):Int)),(5,.slice oa on oc),(0,.slice s_a s_n s_c),(1,.string pfx)] aZ∧Mv [ow 9 1 encS okS (.slice (some ⟨b2,0,none⟩) 0 0) ([]:List ByteArray)] w2 [ow 9 1 encS okS (.slice oa on oc) (keysUnder (s.take k) pfx)] wZ∧(k≤s_n)) (fun (k:Nat)=>s_n - k) (0) ?_ ?_
 ·exact ⟨(some ⟨b2,0,none⟩),0,0,F.cut rfl,(Mv.refl S2.at'),by omega⟩
 ·rintro k a6 w6 ⟨oa,on,oc,F,S6,hk_0⟩
  refine zr fun _ F=>?_
  refine zc F (k < s_n) fun _ F=>?_
  refine zi F (fun h11=>?_) fun h11=>?_
  ·refine zr fun _ F=>?_
   obtain ⟨B14,O14,x1,ad14,hx1,okx1,ln14,cl14⟩:=Rd.at (Rd.mq V_v_s (S2.trans S6)) k zIa
   clear ln14
   refine zv F (r_indexAddr (i:=k) ET_28 rfl ((F.ev 14 rfl).trans (by rw [ad14])) (F.g rfl) (by omega) zIa) fun _ F=>?_
   refine zv (v:=.string x1.key) F (r_load (cs:=[.string x1.key]) TI_9 rfl (F.g rfl) rfl (fun _=>rfl) (elem_sub (f:=0) cl14 [.string x1.key] rfl)) fun _ F=>?_
   refine zz F (spec_l02Begins_c (H:=fun _=>True) (s:=x1.key) (pfx:=pfx) okx1.1 Q0) ?_
   rintro _ w19 ⟨rfl,m19⟩
   refine zt fun _ F=>?_
   have S19:=At.frame0 S6.at' m19
   clear m19
   refine zib F (fun h21=>?_) fun h21=>?_
   ·refine zr fun _ F=>?_
    obtain ⟨B25,O25,y25,ad25,hy25,oky25,ln25,cl25⟩:=Rd.at (Rd.mq V_v_s (S2.trans (S6.trans S19))) k zIa
    clear ln25
    obtain rfl:=Option.some.inj (hx1.symm.trans hy25)
    clear hy25 oky25
    refine zv F (r_indexAddr (i:=k) ET_28 rfl ((F.ev 22 rfl).trans (by rw [ad25])) (F.g rfl) (by omega) zIa) fun _ F=>?_
    refine zv (v:=.string x1.key) F (r_load (cs:=[.string x1.key]) TI_9 rfl (F.g rfl) rfl (fun _=>rfl) (elem_sub (f:=0) cl25 [.string x1.key] rfl)) fun _ F=>?_
    refine l_op (f_buildSl (ok:=okS) (vs:=[.string x1.key]) F S19.at' ([x1.key]) ET_44 rfl rfl rfl rfl rfl rfl (lc (pr2 (F.g rfl)) rfl) rfl rfl (fun x hx=>(List.mem_singleton.1 hx) ▸ okx1.1) fun b29 _ w29 F S29=>?_)
    refine l_op (f_app (news:=[x1.key]) F S29.at' 1 ET_44 rfl rfl rfl rfl rfl rfl (F.g rfl) (F.g rfl) ((At.rd S29.at' ET_44.hk 0 rfl)).1 (by have:=keysUnder_take s pfx k;((repeat (first|rw [List.length_append]|rw [List.length_cons]|rw [List.length_nil]|rw [List.length_take]|rw [List.length_drop])) <;> omega)) fun A31 N31 C31 _ w31 F S31 l31=>?_)
    have S33:=At.drop S31.at' 1
    refine zr fun _ F=>?_
    have T35:Mv _ _ [_] _:=S33
    refine zq F ((k+1:Nat):Int) fun _ F=>?_
    exact ⟨k+1,zD,A31,N31,C31,F.cut rfl,(Mv.cast ((S6.trans (S19.trans (S29.trans (S31.trans T35)))).pick [0] rfl) (by (rw [keysUnder_step hx1];first|rw [if_pos ‹_›]|rw [if_neg (ne_true_of_eq_false ‹_›),List.append_nil]);all_goals rfl)),by omega⟩
   ·refine zr fun _ F=>?_
    refine zq F ((k+1:Nat):Int) fun _ F=>?_
    exact ⟨k+1,zD,oa,on,oc,F.cut rfl,(Mv.cast ((S6.trans S19).pick [0] rfl) (by (rw [keysUnder_step hx1];first|rw [if_pos ‹_›]|rw [if_neg (ne_true_of_eq_false ‹_›),List.append_nil]);all_goals rfl)),by omega⟩
  ·refine zr fun _ F=>?_
   refine x_done F (results_1 rfl (zta F)) ?_
   exact ⟨oa,on,oc,rfl,(Mv.cast (Mv.pick (S2.trans S6) [0] rfl) (lc (zOw (by rw [List.take_of_length_le (by omega)])) rfl))⟩
end Go.Proofs.YtipdbeklopjbmaaGreatDoor
