/-
  Contracts: the library's generic functions on slices (Clone, IndexFunc, Insert, DeleteFunc), at slices of strings and of cells.
-/
import Derived.Test.YtipdbeklopjbmaaGreatDoorStrs
set_option linter.unusedVariables false
set_option linter.unusedSimpArgs false
namespace Go.Proofs.YtipdbeklopjbmaaGreatDoor
open Go.ChangeShapes Go.WideShapes Go.ChangeAt Go.RowKit
set_option maxHeartbeats 1000000
set_option maxRecDepth 100000
structure CellD where
 key:ByteArray
 val:ByteArray
deriving DecidableEq
def encC (c:CellD):List Value:=[.string c.key,.string c.val]
def okC (c:CellD):Prop:=okS c.key∧okS c.val
theorem cellT:ElemT Tryz.prog 28 91 (.agg #[.string ⟨#[]⟩,.string ⟨#[]⟩]) 2 32 encC where
 ht:=Tryz.underlying28
 hT:=⟨by kernel_rfl,rfl,by omega⟩
 hk:=fun _=>rfl
 h1:=fun x u hu=>by simp [encC] at hu;rcases hu with rfl|rfl <;> rfl
 by0:=by omega
abbrev RCells (w:World) (v:Value) (l:List CellD):Prop:=RSl 2 (Enc encC okC) w v l
abbrev OCells (w:World) (v:Value) (l:List CellD):Prop:=Own 91 2 encC okC w v l
theorem RCells.at {w:World} {a:Option Addr} {n cap:Nat} {l:List CellD} (h:RCells w (.slice a n cap) l) (i:Nat) (hi:i < n) :
 ∃ b off c,a=some ⟨b,off,none⟩∧l[i]? = some c∧(c.key.size≤9223372036854775807∧c.val.size≤9223372036854775807)∧w.cell? ⟨b,off+i * 2,none⟩=some (.string c.key)∧w.cell? ⟨b,off+i * 2+1,none⟩=some (.string c.val):=by
 obtain ⟨b,off,c,row,h1,h2,h3,⟨rfl,h4⟩,h5⟩:=RSl.at h i hi
 exact ⟨b,off,c,h1,h2,h4,by simpa using h5 0 (.string c.key) rfl,by simpa using h5 1 (.string c.val) rfl⟩
theorem RCells.below {w w':World} {v:Value} {l:List CellD} (h:RCells w v l) (hb:Bl w w'):RCells w' v l:=RSl.below (Enc.stable _ _) h hb
theorem cloneCells_c (v:Value) (w:World) (l:List CellD) (hr:RSl 2 (Enc encC okC) w v l) (hl:l.length≤1099511627776) :
 Calls Tryz.prog 46 #[v] w fun e w'=>∃ v',e=.returned v'∧Own 91 2 encC okC w' v' l∧(∀ b ∈ v'.ownBlock.toList,w.heap.size≤b)∧Bl w w':=by
 have hr0:=hr
 obtain ⟨a,cap,rfl,hle,-,-,hn⟩:=hr.inv
 have Hr:=Lib.hid hr0;clear hr hr0
 obtain ⟨len,hlen⟩:∃ len,l.length=len:=⟨_,rfl⟩
 rw [hlen] at hle Hr hl ⊢
 have Hlen:=Lib.hid hlen;clear hlen
 cases a with
 | none=>
  obtain ⟨rfl,rfl⟩:=hn rfl
  have h0:=Hlen.out
  simp only [List.length_nil] at h0
  subst h0
  clear hn
  have hnil:∀ (W:World),(binOp .eql 28 (.slice none 0 0) (.slice none 0 0)).run Tryz.prog W=.ok (.bool true) W:=fun W=>Lib.run_eql_slice_nil (P:=Tryz.prog) W 28 91 none 0 0 0 0 Tryz.underlying28
  go_enter Tryz.func46,Tryz.ntmps46
  go_wp2
  go_ret
  exact ⟨_,rfl,own_nil _ _ _ _ _,by simp [Value.ownBlock],Bl.refl _⟩
 | some a=>
  clear hn
  have hnil:∀ (W:World),(binOp .eql 28 (.slice (some a) len cap) (.slice none 0 0)).run Tryz.prog W=.ok (.bool false) W:=fun W=>Lib.run_eql_slice_nil (P:=Tryz.prog) W 28 91 (some a) len cap 0 0 Tryz.underlying28
  have hown:=own_made0 w 91 2 encC okC
  have hsrc:=RSl.below (Enc.stable _ _) Hr.out ((Bl.refl w).alloc (.cells #[] 91))
  go_enter Tryz.func46,Tryz.ntmps46
  go_wp2_with (at_builtin;refine wpList_app cellT rfl (.tmp 5) (.tmp 6) rfl (.slice (some ⟨w.heap.size,0,none⟩) 0 0) (.slice (some a) len cap) [] l rfl rfl hown hsrc (by have:=Hlen.out;simp <;> omega) ?_;intro v' w' hO hkb hmv hnl)
  have hO':=hO
  rw [List.nil_append] at hO'
  have hfr:∀ b ∈ v'.ownBlock.toList,w.heap.size≤b:=hmv.fresh (by simp) (by simp [Value.ownBlock])
  have hbl:Bl w w':=hkb.under ((Bl.refl w).alloc _) (by simp [Value.ownBlock])
  clear hO hkb hmv hnl hown hsrc
  go_wp2
  go_ret
  exact ⟨_,rfl,hO',hfr,hbl⟩
theorem cloneCells_s (v:Value) (w:World) (l:List CellD) (hr:RSl 2 (Enc encC okC) w v l) (hl:l.length≤1099511627776) :
 Calls Tryz.prog 46 #[v] w fun e w'=>∃ a n cap,e=.returned (.slice a n cap)∧Own 91 2 encC okC w' (.slice a n cap) l∧(∀ b ∈ (Value.slice a n cap).ownBlock.toList,w.heap.size≤b)∧Bl w w':=
 Calls.sl (cloneCells_c v w l hr hl) fun _ _ h=>h.1.isSl
def ltS (a b:ByteArray):Bool:=Op.bytesLess a.toList b.toList
def geS (key x:ByteArray):Bool:=!ltS x key
theorem addSpan1_c (x:ByteArray) (key:ByteArray) (cb:Nat) (w:World) (hc:w.cell? ⟨cb,0,none⟩=some (.string key)) :
 Calls Tryz.prog 375 #[.string x,.pointer (some ⟨cb,0,none⟩)] w fun e w'=>e=.returned (.bool (geS key x))∧Bl w w':=by
 go_enter Tryz.func375,Tryz.ntmps375
 go_wp2
 go_ret
 refine ⟨ret_bool ?_,by repeat (first|exact Bl.refl _|refine Bl.alloc ?_ _)⟩
 first|rfl|(simp [geS,gtS,ltS,bytes_beq];done)
def idxP {α:Type} (p:α→Bool) (l:List α):Int:=if l.findIdx p < l.length then (l.findIdx p:Int) else -1
theorem findIdx_found {α:Type} (p:α→Bool) (l:List α) (j:Nat) (x:α) (hx:l[j]? = some x) (hp:p x=true) (hno:∀ q,q < j→∀ y,l[q]? = some y→p y=false):l.findIdx p=j:=by
 induction l generalizing j with
 | nil=>simp at hx
 | cons y l ih=>
  cases j with
  | zero=>simp at hx;subst hx;simp [List.findIdx_cons,hp]
  | succ j=>
   have h0:=hno 0 (by omega) y rfl
   have:=ih j (by simpa using hx) (fun q hq z hz=>hno (q+1) (by omega) z (by simpa using hz))
   simp [List.findIdx_cons,h0,this]
theorem idxP_found {α:Type} (p:α→Bool) (l:List α) (j:Nat) (x:α) (hx:l[j]? = some x) (hp:p x=true) (hno:∀ q,q < j→∀ y,l[q]? = some y→p y=false):idxP p l=j:=by
 have h:=findIdx_found p l j x hx hp hno
 have hj:=(List.getElem?_eq_some_iff.1 hx).1
 unfold idxP
 rw [h,if_pos hj]
theorem idxP_none {α:Type} (p:α→Bool) (l:List α) (hno:∀ q,q < l.length→∀ y,l[q]? = some y→p y=false):idxP p l=-1:=by
 have h:l.findIdx p=l.length:=by
  rw [List.findIdx_eq_length]
  intro x hx
  obtain ⟨i,hi,rfl⟩:=List.mem_iff_getElem.1 hx
  simpa using hno i hi _ (by simp [hi])
 unfold idxP
 rw [h,if_neg (Nat.lt_irrefl _)]
theorem idxAddSpan_c (v:Value) (w:World) (l:List ByteArray) (key:ByteArray) (cb:Nat) (hr:RSl 1 (Enc encS okS) w v l) (hc:w.cell? ⟨cb,0,none⟩=some (.string key)) :
 Calls Tryz.prog 374 #[v,.func (.func 375) #[] #[.pointer (some ⟨cb,0,none⟩)]] w fun e w'=>e=.returned (.int .i64 (idxP (fun x=>geS key x) l))∧Bl w w':=by
 have hr0:=hr
 obtain ⟨a,cap,rfl,hle,hl63,-,-⟩:=hr.inv
 have Hr:=Lib.hid hr0;clear hr hr0
 obtain ⟨len,hlen⟩:∃ len,l.length=len:=⟨_,rfl⟩
 rw [hlen] at hle Hr hl63 ⊢
 have Hlen:=Lib.hid hlen;have Hc:=Lib.hid hc;clear hlen hc
 go_enter Tryz.func374,Tryz.ntmps374
 go_wp2
 go_loopw [8] (fun i wr=>∃ (j:Nat),j≤len∧i=.int .i64 j∧Bl w wr∧Hid (∀ q,q < j→∀ x,l[q]? = some x→(geS key x)=false)) (fun i _=>len - (intOf i).toNat)
 case atStart=>exact ⟨0,by omega,rfl,Bl.refl _,by intro q hq;omega⟩
 case round=>
  obtain ⟨j,hj,rfl,hB,hno⟩:=hrel
  by_cases hlt:j < len
  ·obtain ⟨b,off,x,rfl,hx,hxs,c1⟩:=RStrs.at (RStrs.below Hr.out hB) j (by omega)
   have hc':=hB.cellOf Hc.out
   have HB:=Lib.hid hB;have Hx:=Lib.hid hx;clear hB hx
   by_cases hp:(geS key x)=true
   ·have Hp:=Lib.hid hp
    go_wp2_with (go_at_call 375;refine (addSpan1_c _ _ _ _ hc').mono ?_;rintro e w1 ⟨rfl,hb⟩;rw [Hp.out])
    go_ret
    exact ⟨ret_int (idxP_found _ _ _ _ Hx.out Hp.out hno.out).symm,HB.out.trans hb⟩
   ·have hp':(geS key x)=false:=by simpa using hp
    have Hp:=Lib.hid hp';clear hp hp'
    go_wp2_with (go_at_call 375;refine (addSpan1_c _ _ _ _ hc').mono ?_;rintro e w1 ⟨rfl,hb⟩;rw [Hp.out])
    go_roundw
    case rel=>
     refine ⟨j+1,by omega,by go_num,HB.out.trans hb,?_⟩
     intro q hq y hy
     by_cases hqj:q=j
     ·subst hqj
      have:=Hx.out
      rw [this] at hy
      obtain rfl:=Option.some.inj hy
      exact Hp.out
     ·exact hno.out q (by omega) y hy
    case measure=>simp [intOf];omega
  ·go_wp2
   go_ret
   obtain rfl:j=len:=by omega
   refine ⟨ret_int (idxP_none _ _ ?_).symm,hB⟩
   rw [Hlen.out]
   exact hno.out
def insAt {α:Type} (l:List α) (i:Nat) (x:α):List α:=l.take i++x::l.drop i
theorem spl_shift (A B R X:List Value) (k:Nat) (hX:X.length=k) (hR:k≤R.length) :
 spl (spl (A++B++R) (A.length+k) B) A.length X=A++X++B++R.drop k:=by
 have h1:(A++B++R).drop (A.length+k+B.length)=R.drop k:=by
  rw [show A.length+k+B.length=(A++B).length+k by (simp <;> omega),List.drop_append]
  simp
 have h2:((A++B++R).take (A.length+k)++(B++R.drop k)).take A.length=A:=by
  rw [List.take_append_of_le_length (by simp <;> omega),List.take_take,Nat.min_eq_left (by omega),List.append_assoc,List.take_append_of_le_length (Nat.le_refl _),List.take_length]
 have h3:((A++B++R).take (A.length+k)++(B++R.drop k)).drop (A.length+k)=B++R.drop k:=by
  have hl:((A++B++R).take (A.length+k)).length=A.length+k:=by simp <;> omega
  exact List.drop_left' hl
 unfold spl
 rw [h1,h2,hX,h3]
 simp
theorem spl_fill (A Z X B:List Value) (_h:X.length+B.length≤Z.length) :
 spl (spl (A++Z) A.length X) (A.length+X.length) B=A++X++B++Z.drop (X.length+B.length):=by
 have h1:spl (A++Z) A.length X=(A++X)++Z.drop X.length:=by
  unfold spl
  rw [List.take_append_of_le_length (Nat.le_refl _),List.take_length,List.drop_append]
  simp
 rw [h1,show A.length+X.length=(A++X).length by simp]
 unfold spl
 rw [List.take_append_of_le_length (Nat.le_refl _),List.take_length,List.drop_append]
 simp []
theorem insertCells_c (v:Value) (i:Nat) (x:CellD) (vb:Nat) (w:World) (l:List CellD) (hO:Own 91 2 encC okC w v l) (hi:i≤l.length) (hl:l.length≤1099511627776) (hok:okC x)
 (hx:w.heap[vb]? = some (.cells (encC x).toArray 91 (0,0))) (hvb:∀ b ∈ v.ownBlock.toList,b≠vb) :
 Calls Tryz.prog 102 #[v,.int .i64 i,.slice (some ⟨vb,0,none⟩) 1 1] w fun e w'=>∃ v',e=.returned v'∧Own 91 2 encC okC w' v' (insAt l i x)∧KeepBut v.ownBlock.toList w w'∧Moved w v v':=by
 have hxr:RSl 2 (Enc encC okC) w (.slice (some ⟨vb,0,none⟩) 1 1) [x]:=by
  refine RSl.mk vb 0 1 rfl (Nat.le_refl _) (by unfold maxLen;omega) fun q y hy=>?_
  cases q with
  | succ q=>simp at hy
  | zero=>
   simp at hy;subst hy
   exact ⟨encC x,rfl,⟨rfl,hok⟩,fun j u hj=>by simp [World.cell?,hx,hj]⟩
 have hrd:=Own.rd cellT.hk hO
 obtain ⟨a,cap,rfl,hle,hl63,hc63,hn⟩:=hrd.inv
 by_cases hin:i=l.length
 ·obtain ⟨len,hlen⟩:∃ len,l.length=len:=⟨_,rfl⟩
  rw [hlen] at hin
  subst hin
  rw [hlen] at hle hl63 hO hrd hi hl ⊢
  have HO:=Lib.hid hO;have Hlen:=Lib.hid hlen;have Hx:=Lib.hid hx
  clear hO hlen hx hrd hn hi
  have fin:∀ v' w',Own 91 2 encC okC w' v' (l++[x])→Own 91 2 encC okC w' v' (insAt l i x):=fun v' w' h=>by
   have h0:=Hlen.out
   unfold insAt
   rw [List.take_of_length_le (by omega),List.drop_eq_nil_of_le (by omega)]
   exact h
  by_cases hci:cap=i
  ·subst hci
   go_enter Tryz.func102,Tryz.ntmps102
   go_wp2_with (at_builtin;refine wpList_app cellT rfl (.tmp 23) (.tmp 24) rfl (.slice a cap cap) (.slice (some ⟨vb,0,none⟩) 1 1) l [x] rfl rfl HO.out hxr (by have:=Hlen.out;simp <;> omega) ?_;intro v' w' hO' hkb hmv hnl)
   go_ret
   exact ⟨_,rfl,fin _ _ hO',hkb,hmv⟩
  ·go_enter Tryz.func102,Tryz.ntmps102
   go_wp2_with (at_builtin;refine wpList_app cellT rfl (.tmp 23) (.tmp 24) rfl (.slice a i cap) (.slice (some ⟨vb,0,none⟩) 1 1) l [x] rfl rfl HO.out hxr (by have:=Hlen.out;simp <;> omega) ?_;intro v' w' hO' hkb hmv hnl)
   go_ret
   exact ⟨_,rfl,fin _ _ hO',hkb,hmv⟩
 ·have hin':i < l.length:=by omega
  obtain ⟨g,rfl,-,-,hfz,hgw⟩:=Own.cellAt cellT.hk hO i l[i] (by simp [hin'])
  obtain ⟨-,cur,hg,-,hm,hs,ht⟩:=Own.row hO
  have hgv:g≠vb:=hvb g (by simp [Value.ownBlock])
  have hfl:=flat_length cellT.hk l
  have hA:=flat_length cellT.hk (l.take i)
  have hB:=flat_length cellT.hk (l.drop i)
  have hAB:flat encC l=flat encC (l.take i)++flat encC (l.drop i):=by rw [← flat_append,List.take_append_drop]
  rw [List.length_take,Nat.min_eq_left hi] at hA
  rw [List.length_drop] at hB
  obtain ⟨len,hlen⟩:∃ len,l.length=len:=⟨_,rfl⟩
  rw [hlen] at hle hl63 hO hrd hi hl hin hin' ht hfl hB ⊢
  by_cases hroom:len+1≤cap
  ·have hcur:cur=flat encC (l.take i)++flat encC (l.drop i)++cur.drop (len * 2):=by rw [← hAB,← ht,List.take_append_drop]
   have hR:2≤(cur.drop (len * 2)).length:=by
    have h1:(len+1) * 2≤cap * 2:=Nat.mul_le_mul_right _ hroom
    rw [List.length_drop,hs];omega
   have hsz:(Tryz.prog.info? 91).map (·.size)=some 2:=by
    obtain ⟨i0,h0,_,h2,_⟩:=info_parts cellT.hT.info
    rw [h0];simp [h2]
   have hvl:(encC x).length=2:=cellT.hk x
   have hov:∀ (W:World) (lb cb:Nat),W.heap[vb]? = some (.cells (encC x).toArray 91 (0,0))→W.heap[g]? = some (.cells cur.toArray 91 (0,0)) →
    (callFunc 142 #[.slice (some ⟨vb,0,none⟩) 1 1,.slice (some ⟨g,(i+1) * 2,none⟩) lb cb]).run Tryz.prog W=.ok (.value (.bool false)) W:=fun W lb cb hx1 hg1=>by
    rw [run_callFunc_extern Tryz.func142 (by kernel_rfl) (by kernel_rfl) (by kernel_rfl) (e:=Extern.SlicesOverlaps.overlaps #[28,28] #[4]) (by kernel_rfl),
     Lib.run_overlaps_apart W 28 4 91 Tryz.underlying28 2 (fun w=>by kernel_rfl) ⟨vb,0,none⟩ ⟨g,(i+1) * 2,none⟩ 1 1 lb cb (Ne.symm hgv) 91 91 2 (cap * 2) (by simp [World.shape?,hx1,hvl]) (by simp [World.shape?,hg1,hs]) (by have:1 * 2≤cap * 2:=Nat.mul_le_mul_right _ (by omega);omega)
      (by simp [World.frozen?,hx1]) (by simp [World.frozen?,hx1])]
    rfl
   have hlast:(len+1) * 2≤cap * 2:=Nat.mul_le_mul_right _ hroom
   have hadd:(len - i) * 2+i * 2=len * 2:=by rw [← Nat.add_mul];congr 1;omega
   have hsrc:∀ j v,(flat encC (l.drop i))[j]? = some v→w.cell? (Addr.add ⟨g,i * 2,none⟩ j)=some v:=by
    intro j v hj
    have hjl:=(List.getElem?_eq_some_iff.1 hj).1
    rw [add_flat,cell_of_row w g (i * 2+j) cur.toArray 91 (0,0) hg]
    rw [List.getElem?_toArray,hcur,List.append_assoc,List.getElem?_append_right (by omega),hA,List.getElem?_append_left (by omega),← hj]
    congr 1;omega
   have hfit:(i+1) * 2+(flat encC (l.drop i)).length≤cur.length:=by rw [hB,hs,Nat.add_mul];omega
   have hlen2:(spl cur ((i+1) * 2) (flat encC (l.drop i))).length=cap * 2:=by rw [length_spl _ _ _ hfit,hs]
   have hfit2:i * 2+(encC x).length≤(spl cur ((i+1) * 2) (flat encC (l.drop i))).length:=by rw [hlen2,hvl];omega
   have hsrc2:∀ W:World,W.heap[vb]? = some (.cells (encC x).toArray 91 (0,0))→∀ j v,(encC x)[j]? = some v→W.cell? (Addr.add ⟨vb,0,none⟩ j)=some v:=by
    intro W hW j v hj
    rw [add_flat,cell_of_row W vb (0+j) _ 91 (0,0) hW]
    simpa using hj
   have hfin:spl (spl cur ((i+1) * 2) (flat encC (l.drop i))) (i * 2) (encC x)=flat encC (l.take i)++encC x++flat encC (l.drop i)++(cur.drop (len * 2)).drop 2:=by
    have:=spl_shift (flat encC (l.take i)) (flat encC (l.drop i)) (cur.drop (len * 2)) (encC x) 2 hvl hR
    rw [← hcur,hA] at this
    rw [Nat.add_mul,Nat.one_mul];exact this
   have hdone:∀ W:World,W.heap[g]? = some (.cells (spl (spl cur ((i+1) * 2) (flat encC (l.drop i))) (i * 2) (encC x)).toArray 91 (0,0))→Own 91 2 encC okC W (.slice (some ⟨g,0,none⟩) (len+1) cap) (insAt l i x):=by
    intro W hW
    refine Own.ofRow cellT.hk ?_ (by simp [insAt,hlen];omega) hW hroom hm (by rw [length_spl _ _ _ hfit2,hlen2]) ?_
    ·intro y hy
     have hall:=hO.2
     simp only [insAt,List.mem_append,List.mem_cons] at hy
     rcases hy with hy|rfl|hy
     ·exact hall y (List.mem_of_mem_take hy)
     ·exact hok
     ·exact hall y (List.mem_of_mem_drop hy)
    ·rw [hfin]
     have e1:flat encC (insAt l i x)=flat encC (l.take i)++encC x++flat encC (l.drop i):=by simp [insAt,flat]
     rw [e1,List.take_append_of_le_length (by simp only [List.length_append,hA,hvl,hB];omega)]
     exact List.take_of_length_le (by simp only [List.length_append,hA,hvl,hB];omega)
   have hcap:¬ cap=i+1:=by omega
   have hcap2:¬ cap=i:=by omega
   have hov1:=fun lb cb=>hov w lb cb hx hg
   try simp only [Nat.mul_one] at hov1
   have Hcur:=Lib.hid hcur;have Hg:=Lib.hid hg;have Hx:=Lib.hid hx;have HAB:=Lib.hid hAB;have Hlen:=Lib.hid hlen;have Ht:=Lib.hid ht;have Hs:=Lib.hid hs
   have Hfl:=Lib.hid hfl;have HA:=Lib.hid hA;have HB:=Lib.hid hB;have HO:=Lib.hid hO
   have Hfz:=Lib.hid hfz;have Hvl:=Lib.hid hvl;have Hsz:=Lib.hid hsz;have Hsrc:=Lib.hid hsrc;have Hfit:=Lib.hid hfit;have Hsrc2:=Lib.hid hsrc2;have Hfit2:=Lib.hid hfit2;have Hdone:=Lib.hid hdone
   clear hcur hg hx hAB hlen ht hs hfl hA hB hO hfz hrd hxr hov hvb hvl hsz hsrc hfit hsrc2 hfit2 hdone hfin hlen2 hadd hlast hR
   go_enter Tryz.func102,Tryz.ntmps102
   go_wp2_with (simp only [hov1])
   have hw1:IntKind.i64.wrap ((i:Int)+1)=(i:Int)+1:=by rw [IntKind.wrap_i64];omega
   have hb1:(0:Int)≤(i:Int)+1:=by omega
   have htn:((i:Int)+1).toNat=i+1:=by omega
   have hb3:(i:Int)≤(len:Int):=by omega
   have hb4:(i:Int)+1≤(len:Int)+1:=by omega
   have hb5:(i:Int)≤(len:Int)+1:=by omega
   go_region_law (refine step_copy_k rfl (.tmp 73) (.tmp 76) 28 28 rfl 91 2 Tryz.underlying28 Hsz.out g ((i+1) * 2) (len - i) (cap - (i+1)) ⟨g,i * 2,none⟩ (len+1 - i) (cap - i) (by simp [Act.eval,Act.put]) (by simp [Act.eval,Act.put]) cur 91 Hg.out (len - i) (by simp only [Nat.min_def];split <;> omega) (flat encC (l.drop i)) HB.out Hsrc.out Hfit.out (flat_one cellT _) ?_;intro w2 hg2 hkb2)
   have hx2:w2.heap[vb]? = some (.cells (encC x).toArray 91 (0,0)):=hkb2.heapOf Hx.out (by simp [Ne.symm hgv])
   have Hx2:=Lib.hid hx2;have HK2:=Lib.hid hkb2
   clear hx2 hkb2
   go_wp2_with (with_reducible refine wpList_copy_k rfl (.tmp 80) (.tmp 81) 28 28 rfl 91 2 Tryz.underlying28 Hsz.out g (i * 2) (len+1 - i) (cap - i) ⟨vb,0,none⟩ 1 1 (by simp [Act.eval]) (by simp [Act.eval]) _ 91 hg2.out 1 (by simp only [Nat.min_def];split <;> omega) (encC x) (by rw [Hvl.out]) (Hsrc2.out _ Hx2.out) Hfit2.out (cellT.h1 x) ?_;intro w3 hg3 hkb3)
   have HK3:=Lib.hid hkb3;clear hkb3
   go_wp2
   go_ret
   exact ⟨_,rfl,Hdone.out _ hg3.out,((KeepBut.refl _ _).drew.trans HK2.out (by simp [Value.ownBlock])).trans HK3.out (by simp [Value.ownBlock]),fun b hb=>.inl hb⟩
  ·have hgrow:(cap:Int) < (len:Int)+1:=by omega
   have hci:¬ cap=i:=by omega
   have hsz:(Tryz.prog.info? 91).map (·.size)=some 2:=by
    obtain ⟨i0,h0,_,h2,_⟩:=info_parts cellT.hT.info
    rw [h0];simp [h2]
   have hvl:(encC x).length=2:=cellT.hk x
   have hadd:(len - i) * 2+i * 2=len * 2:=by rw [← Nat.add_mul];congr 1;omega
   have hrow:∀ j v,(flat encC l)[j]? = some v→w.cell? (Addr.add ⟨g,0,none⟩ j)=some v:=by
    intro j v hj
    have hjl:=(List.getElem?_eq_some_iff.1 hj).1
    rw [add_flat,cell_of_row w g (0+j) cur.toArray 91 (0,0) hg,List.getElem?_toArray,Nat.zero_add]
    rw [← ht,List.getElem?_take] at hj
    split at hj
    ·exact hj
    ·cases hj
   have hold:∀ j v,(flat encC (l.take i))[j]? = some v→w.cell? (Addr.add ⟨g,0,none⟩ j)=some v:=by
    intro j v hj
    refine hrow j v ?_
    rw [hAB,List.getElem?_append_left (List.getElem?_eq_some_iff.1 hj).1];exact hj
   have hsrc:∀ j v,(flat encC (l.drop i))[j]? = some v→w.cell? (Addr.add ⟨g,i * 2,none⟩ j)=some v:=by
    intro j v hj
    have:=hrow (i * 2+j) v (by rw [hAB,List.getElem?_append_right (by omega),hA];rw [← hj];congr 1;omega)
    rw [add_flat] at this ⊢
    rw [Nat.zero_add] at this
    exact this
   have hsrc2:∀ j v,(encC x)[j]? = some v→w.cell? (Addr.add ⟨vb,0,none⟩ j)=some v:=by
    intro j v hj
    rw [add_flat,cell_of_row w vb (0+j) _ 91 (0,0) hx]
    simpa using hj
   have hvw:vb < w.heap.size:=(Array.getElem?_eq_some_iff.1 hx).1
   have hdone:∀ (W:World) (G:Nat) (Z:List Value),len+1≤G→G≤maxLen→Z.length=(G - i) * 2→W.heap[w.heap.size]? = some (.cells (spl (spl (flat encC (l.take i)++Z) (i * 2) (encC x)) ((i+1) * 2) (flat encC (l.drop i))).toArray 91 (0,0))→Own 91 2 encC okC W (.slice (some ⟨w.heap.size,0,none⟩) (len+1) G) (insAt l i x):=by
    intro W G Z hG hGm hZ hW
    have hG1:(len+1) * 2≤G * 2:=Nat.mul_le_mul_right _ hG
    have hG2:(G - i) * 2+i * 2=G * 2:=by rw [← Nat.add_mul];congr 1;omega
    have hf:=spl_fill (flat encC (l.take i)) Z (encC x) (flat encC (l.drop i)) (by rw [hvl,hB,hZ];omega)
    rw [hA,hvl,show i * 2+2=(i+1) * 2 by rw [Nat.add_mul,Nat.one_mul]] at hf
    rw [hf] at hW
    refine Own.ofRow cellT.hk ?_ (by simp [insAt,hlen];omega) hW hG hGm (by simp only [List.length_append,List.length_drop,hA,hvl,hB,hZ];omega) ?_
    ·intro y hy
     have hall:=hO.2
     simp only [insAt,List.mem_append,List.mem_cons] at hy
     rcases hy with hy|rfl|hy
     ·exact hall y (List.mem_of_mem_take hy)
     ·exact hok
     ·exact hall y (List.mem_of_mem_drop hy)
    ·have e1:flat encC (insAt l i x)=flat encC (l.take i)++encC x++flat encC (l.drop i):=by simp [insAt,flat]
     rw [e1,List.take_append_of_le_length (by simp only [List.length_append,hA,hvl,hB];omega)]
     exact List.take_of_length_le (by simp only [List.length_append,hA,hvl,hB];omega)
   have hsrcv:∀ W,Bl w W→∀ j v,(encC x)[j]? = some v→W.cell? (Addr.add ⟨vb,0,none⟩ j)=some v:=fun W hb j v hj=>hb.cellOf (hsrc2 j v hj)
   have hsrcg:∀ W,Bl w W→∀ j v,(flat encC (l.drop i))[j]? = some v→W.cell? (Addr.add ⟨g,i * 2,none⟩ j)=some v:=fun W hb j v hj=>hb.cellOf (hsrc j v hj)
   have hf1:∀ (G:Nat) (Z:List Value),len+1≤G→Z.length=(G - i) * 2→i * 2+(encC x).length≤(flat encC (l.take i)++Z).length:=by
    intro G Z hG hZ
    have h1:(i+1) * 2≤G * 2:=Nat.mul_le_mul_right _ (by omega)
    have h2:(G - i) * 2+i * 2=G * 2:=by rw [← Nat.add_mul];congr 1;omega
    rw [List.length_append,hA,hZ,hvl]
    rw [Nat.add_mul] at h1;omega
   have hf2:∀ (G:Nat) (Z:List Value),len+1≤G→Z.length=(G - i) * 2→(i+1) * 2+(flat encC (l.drop i)).length≤(spl (flat encC (l.take i)++Z) (i * 2) (encC x)).length:=by
    intro G Z hG hZ
    have h1:(len+1) * 2≤G * 2:=Nat.mul_le_mul_right _ (by omega)
    have h2:(G - i) * 2+i * 2=G * 2:=by rw [← Nat.add_mul];congr 1;omega
    rw [length_spl _ _ _ (hf1 G Z hG hZ),List.length_append,hA,hZ,hB]
    rw [Nat.add_mul] at h1 ⊢;omega
   have hbnd:(i+(len+1 - i)) * 32≤140737488355328:=by omega
   have hXi:(len:Int)+1 - (i:Int)=((len+1 - i:Nat):Int):=by omega
   have hgw':g≠w.heap.size:=by omega
   have hi1:i+(len+1 - i)=len+1:=by omega
   have Hg:=Lib.hid hg;have Hx:=Lib.hid hx
   have HA:=Lib.hid hA;have HB:=Lib.hid hB;have Hvl:=Lib.hid hvl;have Hsz:=Lib.hid hsz;have Hold:=Lib.hid hold;have Hsrc:=Lib.hid hsrc;have Hsrc2:=Lib.hid hsrc2;have Hdone:=Lib.hid hdone;have Hadd:=Lib.hid hadd;have HXi:=Lib.hid hXi;have Hi1:=Lib.hid hi1;have Hsrcv:=Lib.hid hsrcv;have Hsrcg:=Lib.hid hsrcg;have Hf1:=Lib.hid hf1;have Hf2:=Lib.hid hf2
   clear hg hx hAB hlen ht hs hfl hA hB hO hfz hrd hxr hvb hvl hsz hsrc hsrc2 hold hrow hdone hadd hXi hi1 hsrcv hsrcg hf1 hf2
   go_enter Tryz.func102,Tryz.ntmps102
   go_wp2_with (first|(refine wpList_app_zeros cellT Tryz.underlying3 rfl (.tmp 34) (.tmp 39) rfl ⟨g,0,none⟩ i cap (len+1 - i) _ HXi.out rfl rfl (flat encC (l.take i)) HA.out Hold.out (by omega) (by omega) hbnd ?_;intro G Z w1 hG hGm hZ hg1 hb1;rw [Hi1.out] at hG ⊢;have HG:=Lib.hid hG;have HZ:=Lib.hid hZ;have HGm:=Lib.hid hGm;have Hb1:=Lib.hid hb1;clear hZ hGm hb1;have hG63:=maxLen_le HGm.out;have hGi:¬ G=i:=(by omega);have hGi1:¬ G=i+1:=(by omega))|(with_reducible refine wpList_copy_k rfl (.tmp 43) (.tmp 44) 28 28 rfl 91 2 Tryz.underlying28 Hsz.out w.heap.size (i * 2) (len+1 - i) (G - i) ⟨vb,0,none⟩ 1 1 (by simp [Act.eval]) (by simp [Act.eval]) _ 91 hg1.out 1 (by simp only [Nat.min_def];split <;> omega) (encC x) (by rw [Hvl.out]) (Hsrcv.out _ Hb1.out) (Hf1.out G Z HG.out HZ.out) (cellT.h1 x) ?_;intro w2 hg2 hkb2;have HK2:=Lib.hid hkb2;clear hkb2))
   have hsrcg2:∀ j v,(flat encC (l.drop i))[j]? = some v→w2.cell? (Addr.add ⟨g,i * 2,none⟩ j)=some v:=fun j v hj=>by
    have h:=Hsrcg.out _ Hb1.out j v hj
    rw [add_flat] at h ⊢
    exact HK2.out.cellOf h (by simp;omega)
   have Hsrcg2:=Lib.hid hsrcg2;clear hsrcg2
   have hw1:IntKind.i64.wrap ((i:Int)+1)=(i:Int)+1:=by rw [IntKind.wrap_i64];omega
   have hb1:(0:Int)≤(i:Int)+1:=by omega
   have htn:((i:Int)+1).toNat=i+1:=by omega
   have hb3:(i:Int)≤(len:Int):=by omega
   have hb4:(i:Int)+1≤(len:Int)+1:=by omega
   go_region_law (refine step_copy_k rfl (.tmp 50) (.tmp 53) 28 28 rfl 91 2 Tryz.underlying28 Hsz.out w.heap.size ((i+1) * 2) (len - i) (G - (i+1)) ⟨g,i * 2,none⟩ (len - i) (cap - i) (by simp [Act.eval,Act.put]) (by simp [Act.eval,Act.put]) _ 91 hg2.out (len - i) (by simp only [Nat.min_def];split <;> omega) (flat encC (l.drop i)) HB.out Hsrcg2.out (Hf2.out G Z HG.out HZ.out) (flat_one cellT _) ?_;intro w3 hg3 hkb3)
   have HK3:=Lib.hid hkb3;clear hkb3
   go_wp2
   go_ret
   exact ⟨_,rfl,Hdone.out _ G Z HG.out HGm.out HZ.out hg3.out,(Hb1.out.keep _).trans (HK2.out.trans (((KeepBut.refl [w.heap.size] w2).drew).trans HK3.out (fun x hx=>.inl hx)) (fun x hx=>.inl hx)) (fun b hb=>.inr (by simp at hb;omega)),fun b hb=>.inr (by simp [Value.ownBlock] at hb;omega)⟩
theorem insertStrs_c (v:Value) (i:Nat) (x:ByteArray) (vb:Nat) (w:World) (l:List ByteArray) (hO:Own 9 1 encS okS w v l) (hi:i≤l.length) (hl:l.length≤1099511627776) (hok:okS x)
 (hx:w.heap[vb]? = some (.cells (encS x).toArray 9 (0,0))) (hvb:∀ b ∈ v.ownBlock.toList,b≠vb) :
 Calls Tryz.prog 376 #[v,.int .i64 i,.slice (some ⟨vb,0,none⟩) 1 1] w fun e w'=>∃ v',e=.returned v'∧Own 9 1 encS okS w' v' (insAt l i x)∧KeepBut v.ownBlock.toList w w'∧Moved w v v':=by
 have hxr:RSl 1 (Enc encS okS) w (.slice (some ⟨vb,0,none⟩) 1 1) [x]:=by
  refine RSl.mk vb 0 1 rfl (Nat.le_refl _) (by unfold maxLen;omega) fun q y hy=>?_
  cases q with
  | succ q=>simp at hy
  | zero=>
   simp at hy;subst hy
   exact ⟨encS x,rfl,⟨rfl,hok⟩,fun j u hj=>by simp [World.cell?,hx,hj]⟩
 have hrd:=Own.rd strT.hk hO
 obtain ⟨a,cap,rfl,hle,hl63,hc63,hn⟩:=hrd.inv
 by_cases hin:i=l.length
 ·obtain ⟨len,hlen⟩:∃ len,l.length=len:=⟨_,rfl⟩
  rw [hlen] at hin
  subst hin
  rw [hlen] at hle hl63 hO hrd hi hl ⊢
  have HO:=Lib.hid hO;have Hlen:=Lib.hid hlen;have Hx:=Lib.hid hx
  clear hO hlen hx hrd hn hi
  have fin:∀ v' w',Own 9 1 encS okS w' v' (l++[x])→Own 9 1 encS okS w' v' (insAt l i x):=fun v' w' h=>by
   have h0:=Hlen.out
   unfold insAt
   rw [List.take_of_length_le (by omega),List.drop_eq_nil_of_le (by omega)]
   exact h
  by_cases hci:cap=i
  ·subst hci
   go_enter Tryz.func376,Tryz.ntmps376
   go_wp2_with (at_builtin;refine wpList_app strT rfl (.tmp 23) (.tmp 24) rfl (.slice a cap cap) (.slice (some ⟨vb,0,none⟩) 1 1) l [x] rfl rfl HO.out hxr (by have:=Hlen.out;simp <;> omega) ?_;intro v' w' hO' hkb hmv hnl)
   go_ret
   exact ⟨_,rfl,fin _ _ hO',hkb,hmv⟩
  ·go_enter Tryz.func376,Tryz.ntmps376
   go_wp2_with (at_builtin;refine wpList_app strT rfl (.tmp 23) (.tmp 24) rfl (.slice a i cap) (.slice (some ⟨vb,0,none⟩) 1 1) l [x] rfl rfl HO.out hxr (by have:=Hlen.out;simp <;> omega) ?_;intro v' w' hO' hkb hmv hnl)
   go_ret
   exact ⟨_,rfl,fin _ _ hO',hkb,hmv⟩
 ·have hin':i < l.length:=by omega
  obtain ⟨g,rfl,-,-,hfz,hgw⟩:=Own.cellAt strT.hk hO i l[i] (by simp [hin'])
  obtain ⟨-,cur,hg,-,hm,hs,ht⟩:=Own.row hO
  have hgv:g≠vb:=hvb g (by simp [Value.ownBlock])
  have hfl:=flat_length strT.hk l
  have hA:=flat_length strT.hk (l.take i)
  have hB:=flat_length strT.hk (l.drop i)
  have hAB:flat encS l=flat encS (l.take i)++flat encS (l.drop i):=by rw [← flat_append,List.take_append_drop]
  rw [List.length_take,Nat.min_eq_left hi] at hA
  rw [List.length_drop] at hB
  obtain ⟨len,hlen⟩:∃ len,l.length=len:=⟨_,rfl⟩
  rw [hlen] at hle hl63 hO hrd hi hl hin hin' ht hfl hB ⊢
  by_cases hroom:len+1≤cap
  ·have hcur:cur=flat encS (l.take i)++flat encS (l.drop i)++cur.drop (len * 1):=by rw [← hAB,← ht,List.take_append_drop]
   have hR:1≤(cur.drop (len * 1)).length:=by
    have h1:(len+1) * 1≤cap * 1:=Nat.mul_le_mul_right _ hroom
    rw [List.length_drop,hs];omega
   have hsz:(Tryz.prog.info? 9).map (·.size)=some 1:=by
    obtain ⟨i0,h0,_,h2,_⟩:=info_parts strT.hT.info
    rw [h0];simp [h2]
   have hvl:(encS x).length=1:=strT.hk x
   have hov:∀ (W:World) (lb cb:Nat),W.heap[vb]? = some (.cells (encS x).toArray 9 (0,0))→W.heap[g]? = some (.cells cur.toArray 9 (0,0)) →
    (callFunc 381 #[.slice (some ⟨vb,0,none⟩) 1 1,.slice (some ⟨g,(i+1) * 1,none⟩) lb cb]).run Tryz.prog W=.ok (.value (.bool false)) W:=fun W lb cb hx1 hg1=>by
    rw [run_callFunc_extern Tryz.func381 (by kernel_rfl) (by kernel_rfl) (by kernel_rfl) (e:=Extern.SlicesOverlaps.overlaps #[44,44] #[4]) (by kernel_rfl),
     Lib.run_overlaps_apart W 44 4 9 Tryz.underlying44 1 (fun w=>by kernel_rfl) ⟨vb,0,none⟩ ⟨g,(i+1) * 1,none⟩ 1 1 lb cb (Ne.symm hgv) 9 9 1 (cap * 1) (by simp [World.shape?,hx1,hvl]) (by simp [World.shape?,hg1,hs]) (by have:1 * 1≤cap * 1:=Nat.mul_le_mul_right _ (by omega);omega)
      (by simp [World.frozen?,hx1]) (by simp [World.frozen?,hx1])]
    rfl
   have hlast:(len+1) * 1≤cap * 1:=Nat.mul_le_mul_right _ hroom
   have hadd:(len - i) * 1+i * 1=len * 1:=by rw [← Nat.add_mul];congr 1;omega
   have hsrc:∀ j v,(flat encS (l.drop i))[j]? = some v→w.cell? (Addr.add ⟨g,i * 1,none⟩ j)=some v:=by
    intro j v hj
    have hjl:=(List.getElem?_eq_some_iff.1 hj).1
    rw [add_flat,cell_of_row w g (i * 1+j) cur.toArray 9 (0,0) hg]
    rw [List.getElem?_toArray,hcur,List.append_assoc,List.getElem?_append_right (by omega),hA,List.getElem?_append_left (by omega),← hj]
    congr 1;omega
   have hfit:(i+1) * 1+(flat encS (l.drop i)).length≤cur.length:=by rw [hB,hs,Nat.add_mul];omega
   have hlen2:(spl cur ((i+1) * 1) (flat encS (l.drop i))).length=cap * 1:=by rw [length_spl _ _ _ hfit,hs]
   have hfit2:i * 1+(encS x).length≤(spl cur ((i+1) * 1) (flat encS (l.drop i))).length:=by rw [hlen2,hvl];omega
   have hsrc2:∀ W:World,W.heap[vb]? = some (.cells (encS x).toArray 9 (0,0))→∀ j v,(encS x)[j]? = some v→W.cell? (Addr.add ⟨vb,0,none⟩ j)=some v:=by
    intro W hW j v hj
    rw [add_flat,cell_of_row W vb (0+j) _ 9 (0,0) hW]
    simpa using hj
   have hfin:spl (spl cur ((i+1) * 1) (flat encS (l.drop i))) (i * 1) (encS x)=flat encS (l.take i)++encS x++flat encS (l.drop i)++(cur.drop (len * 1)).drop 1:=by
    have:=spl_shift (flat encS (l.take i)) (flat encS (l.drop i)) (cur.drop (len * 1)) (encS x) 1 hvl hR
    rw [← hcur,hA] at this
    rw [Nat.add_mul,Nat.one_mul];exact this
   have hdone:∀ W:World,W.heap[g]? = some (.cells (spl (spl cur ((i+1) * 1) (flat encS (l.drop i))) (i * 1) (encS x)).toArray 9 (0,0))→Own 9 1 encS okS W (.slice (some ⟨g,0,none⟩) (len+1) cap) (insAt l i x):=by
    intro W hW
    refine Own.ofRow strT.hk ?_ (by simp [insAt,hlen];omega) hW hroom hm (by rw [length_spl _ _ _ hfit2,hlen2]) ?_
    ·intro y hy
     have hall:=hO.2
     simp only [insAt,List.mem_append,List.mem_cons] at hy
     rcases hy with hy|rfl|hy
     ·exact hall y (List.mem_of_mem_take hy)
     ·exact hok
     ·exact hall y (List.mem_of_mem_drop hy)
    ·rw [hfin]
     have e1:flat encS (insAt l i x)=flat encS (l.take i)++encS x++flat encS (l.drop i):=by simp [insAt,flat]
     rw [e1,List.take_append_of_le_length (by simp only [List.length_append,hA,hvl,hB];omega)]
     exact List.take_of_length_le (by simp only [List.length_append,hA,hvl,hB];omega)
   have hcap:¬ cap=i+1:=by omega
   have hcap2:¬ cap=i:=by omega
   have hov1:=fun lb cb=>hov w lb cb hx hg
   try simp only [Nat.mul_one] at hov1
   have Hcur:=Lib.hid hcur;have Hg:=Lib.hid hg;have Hx:=Lib.hid hx;have HAB:=Lib.hid hAB;have Hlen:=Lib.hid hlen;have Ht:=Lib.hid ht;have Hs:=Lib.hid hs
   have Hfl:=Lib.hid hfl;have HA:=Lib.hid hA;have HB:=Lib.hid hB;have HO:=Lib.hid hO
   have Hfz:=Lib.hid hfz;have Hvl:=Lib.hid hvl;have Hsz:=Lib.hid hsz;have Hsrc:=Lib.hid hsrc;have Hfit:=Lib.hid hfit;have Hsrc2:=Lib.hid hsrc2;have Hfit2:=Lib.hid hfit2;have Hdone:=Lib.hid hdone
   clear hcur hg hx hAB hlen ht hs hfl hA hB hO hfz hrd hxr hov hvb hvl hsz hsrc hfit hsrc2 hfit2 hdone hfin hlen2 hadd hlast hR
   go_enter Tryz.func376,Tryz.ntmps376
   go_wp2_with (simp only [hov1])
   have hw1:IntKind.i64.wrap ((i:Int)+1)=(i:Int)+1:=by rw [IntKind.wrap_i64];omega
   have hb1:(0:Int)≤(i:Int)+1:=by omega
   have htn:((i:Int)+1).toNat=i+1:=by omega
   have hb3:(i:Int)≤(len:Int):=by omega
   have hb4:(i:Int)+1≤(len:Int)+1:=by omega
   have hb5:(i:Int)≤(len:Int)+1:=by omega
   go_region_law (refine step_copy_k rfl (.tmp 73) (.tmp 76) 44 44 rfl 9 1 Tryz.underlying44 Hsz.out g ((i+1) * 1) (len - i) (cap - (i+1)) ⟨g,i * 1,none⟩ (len+1 - i) (cap - i) (by simp [Act.eval,Act.put]) (by simp [Act.eval,Act.put]) cur 9 Hg.out (len - i) (by simp only [Nat.min_def];split <;> omega) (flat encS (l.drop i)) HB.out Hsrc.out Hfit.out (flat_one strT _) ?_;intro w2 hg2 hkb2)
   have hx2:w2.heap[vb]? = some (.cells (encS x).toArray 9 (0,0)):=hkb2.heapOf Hx.out (by simp [Ne.symm hgv])
   have Hx2:=Lib.hid hx2;have HK2:=Lib.hid hkb2
   clear hx2 hkb2
   go_wp2_with (with_reducible refine wpList_copy_k rfl (.tmp 80) (.tmp 81) 44 44 rfl 9 1 Tryz.underlying44 Hsz.out g (i * 1) (len+1 - i) (cap - i) ⟨vb,0,none⟩ 1 1 (by simp [Act.eval]) (by simp [Act.eval]) _ 9 hg2.out 1 (by simp only [Nat.min_def];split <;> omega) (encS x) (by rw [Hvl.out]) (Hsrc2.out _ Hx2.out) Hfit2.out (strT.h1 x) ?_;intro w3 hg3 hkb3)
   have HK3:=Lib.hid hkb3;clear hkb3
   go_wp2
   go_ret
   exact ⟨_,rfl,Hdone.out _ hg3.out,((KeepBut.refl _ _).drew.trans HK2.out (by simp [Value.ownBlock])).trans HK3.out (by simp [Value.ownBlock]),fun b hb=>.inl hb⟩
  ·have hgrow:(cap:Int) < (len:Int)+1:=by omega
   have hci:¬ cap=i:=by omega
   have hsz:(Tryz.prog.info? 9).map (·.size)=some 1:=by
    obtain ⟨i0,h0,_,h2,_⟩:=info_parts strT.hT.info
    rw [h0];simp [h2]
   have hvl:(encS x).length=1:=strT.hk x
   have hadd:(len - i) * 1+i * 1=len * 1:=by rw [← Nat.add_mul];congr 1;omega
   have hrow:∀ j v,(flat encS l)[j]? = some v→w.cell? (Addr.add ⟨g,0,none⟩ j)=some v:=by
    intro j v hj
    have hjl:=(List.getElem?_eq_some_iff.1 hj).1
    rw [add_flat,cell_of_row w g (0+j) cur.toArray 9 (0,0) hg,List.getElem?_toArray,Nat.zero_add]
    rw [← ht,List.getElem?_take] at hj
    split at hj
    ·exact hj
    ·cases hj
   have hold:∀ j v,(flat encS (l.take i))[j]? = some v→w.cell? (Addr.add ⟨g,0,none⟩ j)=some v:=by
    intro j v hj
    refine hrow j v ?_
    rw [hAB,List.getElem?_append_left (List.getElem?_eq_some_iff.1 hj).1];exact hj
   have hsrc:∀ j v,(flat encS (l.drop i))[j]? = some v→w.cell? (Addr.add ⟨g,i * 1,none⟩ j)=some v:=by
    intro j v hj
    have:=hrow (i * 1+j) v (by rw [hAB,List.getElem?_append_right (by omega),hA];rw [← hj];congr 1;omega)
    rw [add_flat] at this ⊢
    rw [Nat.zero_add] at this
    exact this
   have hsrc2:∀ j v,(encS x)[j]? = some v→w.cell? (Addr.add ⟨vb,0,none⟩ j)=some v:=by
    intro j v hj
    rw [add_flat,cell_of_row w vb (0+j) _ 9 (0,0) hx]
    simpa using hj
   have hvw:vb < w.heap.size:=(Array.getElem?_eq_some_iff.1 hx).1
   have hdone:∀ (W:World) (G:Nat) (Z:List Value),len+1≤G→G≤maxLen→Z.length=(G - i) * 1→W.heap[w.heap.size]? = some (.cells (spl (spl (flat encS (l.take i)++Z) (i * 1) (encS x)) ((i+1) * 1) (flat encS (l.drop i))).toArray 9 (0,0))→Own 9 1 encS okS W (.slice (some ⟨w.heap.size,0,none⟩) (len+1) G) (insAt l i x):=by
    intro W G Z hG hGm hZ hW
    have hG1:(len+1) * 1≤G * 1:=Nat.mul_le_mul_right _ hG
    have hG2:(G - i) * 1+i * 1=G * 1:=by rw [← Nat.add_mul];congr 1;omega
    have hf:=spl_fill (flat encS (l.take i)) Z (encS x) (flat encS (l.drop i)) (by rw [hvl,hB,hZ];omega)
    rw [hA,hvl,show i * 1+1=(i+1) * 1 by rw [Nat.add_mul,Nat.one_mul]] at hf
    rw [hf] at hW
    refine Own.ofRow strT.hk ?_ (by simp [insAt,hlen];omega) hW hG hGm (by simp only [List.length_append,List.length_drop,hA,hvl,hB,hZ];omega) ?_
    ·intro y hy
     have hall:=hO.2
     simp only [insAt,List.mem_append,List.mem_cons] at hy
     rcases hy with hy|rfl|hy
     ·exact hall y (List.mem_of_mem_take hy)
     ·exact hok
     ·exact hall y (List.mem_of_mem_drop hy)
    ·have e1:flat encS (insAt l i x)=flat encS (l.take i)++encS x++flat encS (l.drop i):=by simp [insAt,flat]
     rw [e1,List.take_append_of_le_length (by simp only [List.length_append,hA,hvl,hB];omega)]
     exact List.take_of_length_le (by simp only [List.length_append,hA,hvl,hB];omega)
   have hsrcv:∀ W,Bl w W→∀ j v,(encS x)[j]? = some v→W.cell? (Addr.add ⟨vb,0,none⟩ j)=some v:=fun W hb j v hj=>hb.cellOf (hsrc2 j v hj)
   have hsrcg:∀ W,Bl w W→∀ j v,(flat encS (l.drop i))[j]? = some v→W.cell? (Addr.add ⟨g,i * 1,none⟩ j)=some v:=fun W hb j v hj=>hb.cellOf (hsrc j v hj)
   have hf1:∀ (G:Nat) (Z:List Value),len+1≤G→Z.length=(G - i) * 1→i * 1+(encS x).length≤(flat encS (l.take i)++Z).length:=by
    intro G Z hG hZ
    have h1:(i+1) * 1≤G * 1:=Nat.mul_le_mul_right _ (by omega)
    have h2:(G - i) * 1+i * 1=G * 1:=by rw [← Nat.add_mul];congr 1;omega
    rw [List.length_append,hA,hZ,hvl]
    rw [Nat.add_mul] at h1;omega
   have hf2:∀ (G:Nat) (Z:List Value),len+1≤G→Z.length=(G - i) * 1→(i+1) * 1+(flat encS (l.drop i)).length≤(spl (flat encS (l.take i)++Z) (i * 1) (encS x)).length:=by
    intro G Z hG hZ
    have h1:(len+1) * 1≤G * 1:=Nat.mul_le_mul_right _ (by omega)
    have h2:(G - i) * 1+i * 1=G * 1:=by rw [← Nat.add_mul];congr 1;omega
    rw [length_spl _ _ _ (hf1 G Z hG hZ),List.length_append,hA,hZ,hB]
    rw [Nat.add_mul] at h1 ⊢;omega
   have hbnd:(i+(len+1 - i)) * 16≤140737488355328:=by omega
   have hXi:(len:Int)+1 - (i:Int)=((len+1 - i:Nat):Int):=by omega
   have hgw':g≠w.heap.size:=by omega
   have hi1:i+(len+1 - i)=len+1:=by omega
   have Hg:=Lib.hid hg;have Hx:=Lib.hid hx
   have HA:=Lib.hid hA;have HB:=Lib.hid hB;have Hvl:=Lib.hid hvl;have Hsz:=Lib.hid hsz;have Hold:=Lib.hid hold;have Hsrc:=Lib.hid hsrc;have Hsrc2:=Lib.hid hsrc2;have Hdone:=Lib.hid hdone;have Hadd:=Lib.hid hadd;have HXi:=Lib.hid hXi;have Hi1:=Lib.hid hi1;have Hsrcv:=Lib.hid hsrcv;have Hsrcg:=Lib.hid hsrcg;have Hf1:=Lib.hid hf1;have Hf2:=Lib.hid hf2
   clear hg hx hAB hlen ht hs hfl hA hB hO hfz hrd hxr hvb hvl hsz hsrc hsrc2 hold hrow hdone hadd hXi hi1 hsrcv hsrcg hf1 hf2
   go_enter Tryz.func376,Tryz.ntmps376
   go_wp2_with (first|(refine wpList_app_zeros strT Tryz.underlying3 rfl (.tmp 34) (.tmp 39) rfl ⟨g,0,none⟩ i cap (len+1 - i) _ HXi.out rfl rfl (flat encS (l.take i)) HA.out Hold.out (by omega) (by omega) hbnd ?_;intro G Z w1 hG hGm hZ hg1 hb1;rw [Hi1.out] at hG ⊢;have HG:=Lib.hid hG;have HZ:=Lib.hid hZ;have HGm:=Lib.hid hGm;have Hb1:=Lib.hid hb1;clear hZ hGm hb1;have hG63:=maxLen_le HGm.out;have hGi:¬ G=i:=(by omega);have hGi1:¬ G=i+1:=(by omega))|(with_reducible refine wpList_copy_k rfl (.tmp 43) (.tmp 44) 44 44 rfl 9 1 Tryz.underlying44 Hsz.out w.heap.size (i * 1) (len+1 - i) (G - i) ⟨vb,0,none⟩ 1 1 (by simp [Act.eval]) (by simp [Act.eval]) _ 9 hg1.out 1 (by simp only [Nat.min_def];split <;> omega) (encS x) (by rw [Hvl.out]) (Hsrcv.out _ Hb1.out) (Hf1.out G Z HG.out HZ.out) (strT.h1 x) ?_;intro w2 hg2 hkb2;have HK2:=Lib.hid hkb2;clear hkb2))
   have hsrcg2:∀ j v,(flat encS (l.drop i))[j]? = some v→w2.cell? (Addr.add ⟨g,i * 1,none⟩ j)=some v:=fun j v hj=>by
    have h:=Hsrcg.out _ Hb1.out j v hj
    rw [add_flat] at h ⊢
    exact HK2.out.cellOf h (by simp;omega)
   have Hsrcg2:=Lib.hid hsrcg2;clear hsrcg2
   have hw1:IntKind.i64.wrap ((i:Int)+1)=(i:Int)+1:=by rw [IntKind.wrap_i64];omega
   have hb1:(0:Int)≤(i:Int)+1:=by omega
   have htn:((i:Int)+1).toNat=i+1:=by omega
   have hb3:(i:Int)≤(len:Int):=by omega
   have hb4:(i:Int)+1≤(len:Int)+1:=by omega
   go_region_law (refine step_copy_k rfl (.tmp 50) (.tmp 53) 44 44 rfl 9 1 Tryz.underlying44 Hsz.out w.heap.size ((i+1) * 1) (len - i) (G - (i+1)) ⟨g,i * 1,none⟩ (len - i) (cap - i) (by simp [Act.eval,Act.put]) (by simp [Act.eval,Act.put]) _ 9 hg2.out (len - i) (by simp only [Nat.min_def];split <;> omega) (flat encS (l.drop i)) HB.out Hsrcg2.out (Hf2.out G Z HG.out HZ.out) (flat_one strT _) ?_;intro w3 hg3 hkb3)
   have HK3:=Lib.hid hkb3;clear hkb3
   go_wp2
   go_ret
   exact ⟨_,rfl,Hdone.out _ G Z HG.out HGm.out HZ.out hg3.out,(Hb1.out.keep _).trans (HK2.out.trans (((KeepBut.refl [w.heap.size] w2).drew).trans HK3.out (fun x hx=>.inl hx)) (fun x hx=>.inl hx)) (fun b hb=>.inr (by simp at hb;omega)),fun b hb=>.inr (by simp [Value.ownBlock] at hb;omega)⟩
end Go.Proofs.YtipdbeklopjbmaaGreatDoor
