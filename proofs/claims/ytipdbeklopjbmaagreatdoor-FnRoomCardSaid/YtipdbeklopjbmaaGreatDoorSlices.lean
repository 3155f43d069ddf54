/-
  Contracts: the library's generic functions on slices (Clone, IndexFunc, Insert, DeleteFunc), at slices of strings and of cells.
-/
import Derived.Test.YtipdbeklopjbmaaGreatDoorP00
set_option linter.unusedVariables false
set_option linter.unusedSimpArgs false
namespace Go.Proofs.YtipdbeklopjbmaaGreatDoor
open Go.ChangeShapes Go.WideShapes Go.ChangeAt Go.RowKit Go.Proofs.Tryz
set_option maxHeartbeats 1000000
set_option maxRecDepth 100000
structure CellD where
 key:ByteArray
 val:ByteArray
deriving DecidableEq
def J6 (c:CellD):List Value:=[.string c.key,.string c.val]
def okC (c:CellD):Prop:=okS c.key∧okS c.val
theorem cellT:ElemT prog 28 91 (.agg #[.string ⟨#[]⟩,.string ⟨#[]⟩]) 2 32 J6 where
 ht:=underlying28
 hT:=⟨by kernel_rfl,rfl,zO⟩
 hk:=fun _=>rfl
 h1:=fun x u hu=>by simp [J6] at hu;rcases hu with rfl|rfl <;> rfl
 by0:=by omega
theorem Jdu (v:Value) (w:World) (l:List CellD) (hr:RSl 2 (Enc J6 okC) w v l) (hl:l.length≤1099511627776) :
 Calls prog 46 #[v] w fun e w'=>∃ v',e=.returned v'∧Own 91 2 J6 okC w' v' l∧(∀ b ∈ v'.ownBlock.toList,w.heap.size≤b)∧Bl w w':=by
 have hr0:=hr
 obtain ⟨a,cap,rfl,hle,-,-,hn⟩:=hr.inv
 have Hr:=Lib.hid hr0;clear hr hr0
 obtain ⟨len,hlen⟩:∃ len,l.length=len:=⟨_,rfl⟩
 rw [hlen] at hle Hr hl ⊢
 have Hlen:=Lib.hid hlen;clear hlen
 cases a with
 | none=>
  obtain ⟨rfl,rfl⟩:=hn rfl
  have h0:=Hlen.out
  simp only [List.length_nil] at h0
  subst h0
  clear hn
  have hnil:∀ (W:World),(binOp .eql 28 (.slice none 0 0) (.slice none 0 0)).run prog W=.ok (.bool true) W:=fun W=>Lib.run_eql_slice_nil (P:=prog) W 28 91 none 0 0 0 0 underlying28
  go_enter func46,ntmps46
  go_wp2
  go_ret
  exact ⟨_,rfl,J75 _ _ _ _ _,yBw,Bl.refl _⟩
 | some a=>
  clear hn
  have hnil:∀ (W:World),(binOp .eql 28 (.slice (some a) len cap) (.slice none 0 0)).run prog W=.ok (.bool false) W:=fun W=>Lib.run_eql_slice_nil (P:=prog) W 28 91 (some a) len cap 0 0 underlying28
  have hown:=Jf3 w 91 2 J6 okC
  have hsrc:=RSl.below (Enc.stable _ _) Hr.out ((Bl.refl w).alloc (.cells #[] 91))
  go_enter func46,ntmps46
  go_wp2_with (at_builtin;refine J3S cellT rfl (.tmp 5) (.tmp 6) rfl (.slice (some ⟨w.heap.size,0,none⟩) 0 0) (.slice (some a) len cap) [] l rfl rfl hown hsrc (by have:=Hlen.out;simp <;> omega) ?_;intro v' w' hO hkb hmv hnl)
  have hO':=hO
  rw [List.nil_append] at hO'
  have hfr:∀ b ∈ v'.ownBlock.toList,w.heap.size≤b:=hmv.fresh (by simp) yBw
  have hbl:Bl w w':=hkb.under ((Bl.refl w).alloc _) yBw
  clear hO hkb hmv hnl hown hsrc
  go_wp2
  go_ret
  exact ⟨_,rfl,hO',hfr,hbl⟩
theorem Jdv (v:Value) (w:World) (l:List CellD) (hr:RSl 2 (Enc J6 okC) w v l) (hl:l.length≤1099511627776) :
 Calls prog 46 #[v] w fun e w'=>∃ a n cap,e=.returned (.slice a n cap)∧Own 91 2 J6 okC w' (.slice a n cap) l∧(∀ b ∈ (Value.slice a n cap).ownBlock.toList,w.heap.size≤b)∧Bl w w':=
 Calls.sl (Jdu v w l hr hl) fun _ _ h=>h.1.isSl
def ltS (a b:ByteArray):Bool:=Op.bytesLess a.toList b.toList
def geS (key x:ByteArray):Bool:=!ltS x key
theorem J8K (x:ByteArray) (key:ByteArray) (cb:Nat) (w:World) (hc:w.cell? ⟨cb,0,none⟩=some (.string key)) :
 Calls prog 375 #[.string x,.pointer (some ⟨cb,0,none⟩)] w fun e w'=>e=.returned (.bool (geS key x))∧Bl w w':=by
 go_enter func375,ntmps375
 go_wp2
 go_ret
 refine ⟨JfU ?_,by repeat (first|exact Bl.refl _|refine Bl.alloc ?_ _)⟩
 first|rfl|(simp [geS,gtS,ltS,J5c];done)
def JW {α:Type} (p:α→Bool) (l:List α):Int:=if l.findIdx p < l.length then (l.findIdx p:Int) else -1
theorem J8h {α:Type} (p:α→Bool) (l:List α) (j:Nat) (x:α) (hx:l[j]? = some x) (hp:p x=true) (hno:∀ q,q < j→∀ y,l[q]? = some y→p y=false):l.findIdx p=j:=by
 induction l generalizing j with
 | nil=>simp at hx
 | cons y l ih=>
  cases j with
  | zero=>simp at hx;subst hx;simp [List.findIdx_cons,hp]
  | succ j=>
   have h0:=hno 0 zO y rfl
   have:=ih j (by simpa using hx) (fun q hq z hz=>hno (q+1) zO z (by simpa using hz))
   simp [List.findIdx_cons,h0,this]
theorem J8O {α:Type} (p:α→Bool) (l:List α) (j:Nat) (x:α) (hx:l[j]? = some x) (hp:p x=true) (hno:∀ q,q < j→∀ y,l[q]? = some y→p y=false):JW p l=j:=by
 have h:=J8h p l j x hx hp hno
 have hj:=(List.getElem?_eq_some_iff.1 hx).1
 unfold JW
 rw [h,if_pos hj]
theorem J9b {α:Type} (p:α→Bool) (l:List α) (hno:∀ q,q < l.length→∀ y,l[q]? = some y→p y=false):JW p l=-1:=by
 have h:l.findIdx p=l.length:=by
  rw [List.findIdx_eq_length]
  intro x hx
  obtain ⟨i,hi,rfl⟩:=List.mem_iff_getElem.1 hx
  simpa using hno i hi _ (by simp [hi])
 unfold JW
 rw [h,if_neg (Nat.lt_irrefl _)]
theorem J6e (v:Value) (w:World) (l:List ByteArray) (key:ByteArray) (cb:Nat) (hr:RSl 1 (Enc J3 okS) w v l) (hc:w.cell? ⟨cb,0,none⟩=some (.string key)) :
 Calls prog 374 #[v,.func (.func 375) #[] #[.pointer (some ⟨cb,0,none⟩)]] w fun e w'=>e=.returned (.int .i64 (JW (fun x=>geS key x) l))∧Bl w w':=by
 have hr0:=hr
 obtain ⟨a,cap,rfl,hle,hl63,-,-⟩:=hr.inv
 have Hr:=Lib.hid hr0;clear hr hr0
 obtain ⟨len,hlen⟩:∃ len,l.length=len:=⟨_,rfl⟩
 rw [hlen] at hle Hr hl63 ⊢
 have Hlen:=Lib.hid hlen;have Hc:=Lib.hid hc;clear hlen hc
 go_enter func374,ntmps374
 go_wp2
 go_loopw [8] (fun i wr=>∃ (j:Nat),j≤len∧i=.int .i64 j∧Bl w wr∧Hid (∀ q,q < j→∀ x,l[q]? = some x→(geS key x)=false)) (fun i _=>len - (intOf i).toNat)
 case atStart=>exact ⟨0,zO,rfl,Bl.refl _,by intro q hq;omega⟩
 case round=>
  obtain ⟨j,hj,rfl,hB,hno⟩:=hrel
  by_cases hlt:j < len
  ·obtain ⟨b,off,x,rfl,hx,hxs,c1⟩:=RStrs.at (RStrs.below Hr.out hB) j zO
   have hc':=hB.cellOf Hc.out
   have HB:=Lib.hid hB;have Hx:=Lib.hid hx;clear hB hx
   by_cases hp:(geS key x)=true
   ·have Hp:=Lib.hid hp
    go_wp2_with (go_at_call 375;refine (J8K _ _ _ _ hc').mono ?_;rintro e w1 ⟨rfl,hb⟩;rw [Hp.out])
    go_ret
    exact ⟨JaA (J8O _ _ _ _ Hx.out Hp.out hno.out).symm,HB.out.trans hb⟩
   have hp':(geS key x)=false:=by simpa using hp
   have Hp:=Lib.hid hp';clear hp hp'
   go_wp2_with (go_at_call 375;refine (J8K _ _ _ _ hc').mono ?_;rintro e w1 ⟨rfl,hb⟩;rw [Hp.out])
   go_roundw
   case rel=>
    refine ⟨j+1,zO,by go_num,HB.out.trans hb,?_⟩
    intro q hq y hy
    by_cases hqj:q=j
    ·subst hqj
     have:=Hx.out
     rw [this] at hy
     obtain rfl:=Option.some.inj hy
     exact Hp.out
    exact hno.out q zO y hy
   case measure=>simp [intOf];omega
  go_wp2
  go_ret
  obtain rfl:j=len:=by omega
  refine ⟨JaA (J9b _ _ ?_).symm,hB⟩
  rw [Hlen.out]
  exact hno.out
def JL {α:Type} (l:List α) (i:Nat) (x:α):List α:=l.take i++x::l.drop i
theorem J9s (A B R X:List Value) (k:Nat) (hX:X.length=k) (hR:k≤R.length) :
 spl (spl (A++B++R) (A.length+k) B) A.length X=A++X++B++R.drop k:=by
 have h1:(A++B++R).drop (A.length+k+B.length)=R.drop k:=by
  rw [show A.length+k+B.length=(A++B).length+k by (simp <;> omega),List.drop_append]
  simp
 have h2:((A++B++R).take (A.length+k)++(B++R.drop k)).take A.length=A:=by
  rw [List.take_append_of_le_length (by simp <;> omega),List.take_take,Nat.min_eq_left zO,List.append_assoc,List.take_append_of_le_length (Nat.le_refl _),List.take_length]
 have h3:((A++B++R).take (A.length+k)++(B++R.drop k)).drop (A.length+k)=B++R.drop k:=by
  have hl:((A++B++R).take (A.length+k)).length=A.length+k:=by simp <;> omega
  exact List.drop_left' hl
 unfold spl
 rw [h1,h2,hX,h3]
 simp
theorem Ja4 (A Z X B:List Value) (_h:X.length+B.length≤Z.length) :
 spl (spl (A++Z) A.length X) (A.length+X.length) B=A++X++B++Z.drop (X.length+B.length):=by
 have h1:spl (A++Z) A.length X=(A++X)++Z.drop X.length:=by
  unfold spl
  rw [List.take_append_of_le_length (Nat.le_refl _),List.take_length,List.drop_append]
  simp
 rw [h1,show A.length+X.length=(A++X).length by simp]
 unfold spl
 rw [List.take_append_of_le_length (Nat.le_refl _),List.take_length,List.drop_append]
 simp []
theorem Jdb (v:Value) (i:Nat) (x:CellD) (vb:Nat) (w:World) (l:List CellD) (hO:Own 91 2 J6 okC w v l) (hi:i≤l.length) (hl:l.length≤1099511627776) (hok:okC x)
 (hx:w.heap[vb]? = some (.cells (J6 x).toArray 91 (0,0))) (hvb:∀ b ∈ v.ownBlock.toList,b≠vb) :
 Calls prog 102 #[v,.int .i64 i,.slice (some ⟨vb,0,none⟩) 1 1] w fun e w'=>∃ v',e=.returned v'∧Own 91 2 J6 okC w' v' (JL l i x)∧KeepBut v.ownBlock.toList w w'∧Moved w v v':=by
 have hxr:RSl 2 (Enc J6 okC) w (.slice (some ⟨vb,0,none⟩) 1 1) [x]:=by
  refine RSl.mk vb 0 1 rfl (Nat.le_refl _) (by unfold maxLen;omega) fun q y hy=>?_
  cases q with
  | succ q=>simp at hy
  | zero=>
   simp at hy;subst hy
   exact ⟨J6 x,rfl,⟨rfl,hok⟩,fun j u hj=>by simp [World.cell?,hx,hj]⟩
 have hrd:=Own.rd cellT.hk hO
 obtain ⟨a,cap,rfl,hle,hl63,hc63,hn⟩:=hrd.inv
 by_cases hin:i=l.length
 ·obtain ⟨len,hlen⟩:∃ len,l.length=len:=⟨_,rfl⟩
  rw [hlen] at hin
  subst hin
  rw [hlen] at hle hl63 hO hrd hi hl ⊢
  have HO:=Lib.hid hO;have Hlen:=Lib.hid hlen;have Hx:=Lib.hid hx
  clear hO hlen hx hrd hn hi
  have fin:∀ v' w',Own 91 2 J6 okC w' v' (l++[x])→Own 91 2 J6 okC w' v' (JL l i x):=fun v' w' h=>by
   have h0:=Hlen.out
   unfold JL
   rw [List.take_of_length_le zO,List.drop_eq_nil_of_le zO]
   exact h
  by_cases hci:cap=i
  ·subst hci
   go_enter func102,ntmps102
   go_wp2_with (at_builtin;refine J3S cellT rfl (.tmp 23) (.tmp 24) rfl (.slice a cap cap) (.slice (some ⟨vb,0,none⟩) 1 1) l [x] rfl rfl HO.out hxr (by have:=Hlen.out;simp <;> omega) ?_;intro v' w' hO' hkb hmv hnl)
   go_ret
   exact ⟨_,rfl,fin _ _ hO',hkb,hmv⟩
  go_enter func102,ntmps102
  go_wp2_with (at_builtin;refine J3S cellT rfl (.tmp 23) (.tmp 24) rfl (.slice a i cap) (.slice (some ⟨vb,0,none⟩) 1 1) l [x] rfl rfl HO.out hxr (by have:=Hlen.out;simp <;> omega) ?_;intro v' w' hO' hkb hmv hnl)
  go_ret
  exact ⟨_,rfl,fin _ _ hO',hkb,hmv⟩
 have hin':i < l.length:=by omega
 obtain ⟨g,rfl,-,-,hfz,hgw⟩:=Own.cellAt cellT.hk hO i l[i] (by simp [hin'])
 obtain ⟨-,cur,hg,-,hm,hs,ht⟩:=Own.row hO
 have hgv:g≠vb:=hvb g yBw
 have hfl:=J0d cellT.hk l
 have hA:=J0d cellT.hk (l.take i)
 have hB:=J0d cellT.hk (l.drop i)
 have hAB:J4 J6 l=J4 J6 (l.take i)++J4 J6 (l.drop i):=by rw [← J18,List.take_append_drop]
 rw [List.length_take,Nat.min_eq_left hi] at hA
 rw [List.length_drop] at hB
 obtain ⟨len,hlen⟩:∃ len,l.length=len:=⟨_,rfl⟩
 rw [hlen] at hle hl63 hO hrd hi hl hin hin' ht hfl hB ⊢
 by_cases hroom:len+1≤cap
 ·have hcur:cur=J4 J6 (l.take i)++J4 J6 (l.drop i)++cur.drop (len * 2):=by rw [← hAB,← ht,List.take_append_drop]
  have hR:2≤(cur.drop (len * 2)).length:=by
   have h1:(len+1) * 2≤cap * 2:=Nat.mul_le_mul_right _ hroom
   rw [List.length_drop,hs];omega
  have hsz:(prog.info? 91).map (·.size)=some 2:=by
   obtain ⟨i0,h0,_,h2,_⟩:=info_parts cellT.hT.info
   rw [h0];simp [h2]
  have hvl:(J6 x).length=2:=cellT.hk x
  have hov:∀ (W:World) (lb cb:Nat),W.heap[vb]? = some (.cells (J6 x).toArray 91 (0,0))→W.heap[g]? = some (.cells cur.toArray 91 (0,0)) →
   (callFunc 142 #[.slice (some ⟨vb,0,none⟩) 1 1,.slice (some ⟨g,(i+1) * 2,none⟩) lb cb]).run prog W=.ok (.value (.bool false)) W:=fun W lb cb hx1 hg1=>by
   rw [run_callFunc_extern func142 zK zK zK (e:=Extern.SlicesOverlaps.overlaps #[28,28] #[4]) zK,
    Lib.run_overlaps_apart W 28 4 91 underlying28 2 (fun w=>by kernel_rfl) ⟨vb,0,none⟩ ⟨g,(i+1) * 2,none⟩ 1 1 lb cb (Ne.symm hgv) 91 91 2 (cap * 2) (by simp [World.shape?,hx1,hvl]) (by simp [World.shape?,hg1,hs]) (by have:1 * 2≤cap * 2:=Nat.mul_le_mul_right _ zO;omega)
     (by simp [World.frozen?,hx1]) (by simp [World.frozen?,hx1])]
   rfl
  have hlast:(len+1) * 2≤cap * 2:=Nat.mul_le_mul_right _ hroom
  have hadd:(len - i) * 2+i * 2=len * 2:=by rw [← Nat.add_mul];congr 1;omega
  have hsrc:∀ j v,(J4 J6 (l.drop i))[j]? = some v→w.cell? (Addr.add ⟨g,i * 2,none⟩ j)=some v:=by
   intro j v hj
   have hjl:=(List.getElem?_eq_some_iff.1 hj).1
   rw [J0a,cell_of_row w g (i * 2+j) cur.toArray 91 (0,0) hg]
   rw [List.getElem?_toArray,hcur,List.append_assoc,List.getElem?_append_right zO,hA,List.getElem?_append_left zO,← hj]
   congr 1;omega
  have hfit:(i+1) * 2+(J4 J6 (l.drop i)).length≤cur.length:=by rw [hB,hs,Nat.add_mul];omega
  have hlen2:(spl cur ((i+1) * 2) (J4 J6 (l.drop i))).length=cap * 2:=by rw [J3R _ _ _ hfit,hs]
  have hfit2:i * 2+(J6 x).length≤(spl cur ((i+1) * 2) (J4 J6 (l.drop i))).length:=by rw [hlen2,hvl];omega
  have hsrc2:∀ W:World,W.heap[vb]? = some (.cells (J6 x).toArray 91 (0,0))→∀ j v,(J6 x)[j]? = some v→W.cell? (Addr.add ⟨vb,0,none⟩ j)=some v:=by
   intro W hW j v hj
   rw [J0a,cell_of_row W vb (0+j) _ 91 (0,0) hW]
   simpa using hj
  have hfin:spl (spl cur ((i+1) * 2) (J4 J6 (l.drop i))) (i * 2) (J6 x)=J4 J6 (l.take i)++J6 x++J4 J6 (l.drop i)++(cur.drop (len * 2)).drop 2:=by
   have:=J9s (J4 J6 (l.take i)) (J4 J6 (l.drop i)) (cur.drop (len * 2)) (J6 x) 2 hvl hR
   rw [← hcur,hA] at this
   rw [Nat.add_mul,Nat.one_mul];exact this
  have hdone:∀ W:World,W.heap[g]? = some (.cells (spl (spl cur ((i+1) * 2) (J4 J6 (l.drop i))) (i * 2) (J6 x)).toArray 91 (0,0))→Own 91 2 J6 okC W (.slice (some ⟨g,0,none⟩) (len+1) cap) (JL l i x):=by
   intro W hW
   refine Own.ofRow cellT.hk ?_ (by simp [JL,hlen];omega) hW hroom hm (by rw [J3R _ _ _ hfit2,hlen2]) ?_
   ·intro y hy
    have hall:=hO.2
    simp only [JL,List.mem_append,List.mem_cons] at hy
    rcases hy with hy|rfl|hy
    ·exact hall y (List.mem_of_mem_take hy)
    ·exact hok
    exact hall y (List.mem_of_mem_drop hy)
   rw [hfin]
   have e1:J4 J6 (JL l i x)=J4 J6 (l.take i)++J6 x++J4 J6 (l.drop i):=by simp [JL,J4]
   rw [e1,List.take_append_of_le_length (by simp only [List.length_append,hA,hvl,hB];omega)]
   exact List.take_of_length_le (by simp only [List.length_append,hA,hvl,hB];omega)
  have hcap:¬ cap=i+1:=by omega
  have hcap2:¬ cap=i:=by omega
  have hov1:=fun lb cb=>hov w lb cb hx hg
  try simp only [Nat.mul_one] at hov1
  have Hcur:=Lib.hid hcur;have Hg:=Lib.hid hg;have Hx:=Lib.hid hx;have HAB:=Lib.hid hAB;have Hlen:=Lib.hid hlen;have Ht:=Lib.hid ht;have Hs:=Lib.hid hs
  have Hfl:=Lib.hid hfl;have HA:=Lib.hid hA;have HB:=Lib.hid hB;have HO:=Lib.hid hO
  have Hfz:=Lib.hid hfz;have Hvl:=Lib.hid hvl;have Hsz:=Lib.hid hsz;have Hsrc:=Lib.hid hsrc;have Hfit:=Lib.hid hfit;have Hsrc2:=Lib.hid hsrc2;have Hfit2:=Lib.hid hfit2;have Hdone:=Lib.hid hdone
  clear hcur hg hx hAB hlen ht hs hfl hA hB hO hfz hrd hxr hov hvb hvl hsz hsrc hfit hsrc2 hfit2 hdone hfin hlen2 hadd hlast hR
  go_enter func102,ntmps102
  go_wp2_with (simp only [hov1])
  have hw1:IntKind.i64.wrap ((i:Int)+1)=(i:Int)+1:=by rw [IntKind.wrap_i64];omega
  have hb1:(0:Int)≤(i:Int)+1:=by omega
  have htn:((i:Int)+1).toNat=i+1:=by omega
  have hb3:(i:Int)≤(len:Int):=by omega
  have hb4:(i:Int)+1≤(len:Int)+1:=by omega
  have hb5:(i:Int)≤(len:Int)+1:=by omega
  go_region_law (refine J57 rfl (.tmp 73) (.tmp 76) 28 28 rfl 91 2 underlying28 Hsz.out g ((i+1) * 2) (len - i) (cap - (i+1)) ⟨g,i * 2,none⟩ (len+1 - i) (cap - i) yBz yBz cur 91 Hg.out (len - i) (by simp only [Nat.min_def];split <;> omega) (J4 J6 (l.drop i)) HB.out Hsrc.out Hfit.out (J3v cellT _) ?_;intro w2 hg2 hkb2)
  have hx2:w2.heap[vb]? = some (.cells (J6 x).toArray 91 (0,0)):=hkb2.heapOf Hx.out (by simp [Ne.symm hgv])
  have Hx2:=Lib.hid hx2;have HK2:=Lib.hid hkb2
  clear hx2 hkb2
  go_wp2_with (with_reducible refine J4Z rfl (.tmp 80) (.tmp 81) 28 28 rfl 91 2 underlying28 Hsz.out g (i * 2) (len+1 - i) (cap - i) ⟨vb,0,none⟩ 1 1 yCg yCg _ 91 hg2.out 1 (by simp only [Nat.min_def];split <;> omega) (J6 x) (by rw [Hvl.out]) (Hsrc2.out _ Hx2.out) Hfit2.out (cellT.h1 x) ?_;intro w3 hg3 hkb3)
  have HK3:=Lib.hid hkb3;clear hkb3
  go_wp2
  go_ret
  exact ⟨_,rfl,Hdone.out _ hg3.out,((KeepBut.refl _ _).drew.trans HK2.out yBw).trans HK3.out yBw,fun b hb=>.inl hb⟩
 have hgrow:(cap:Int) < (len:Int)+1:=by omega
 have hci:¬ cap=i:=by omega
 have hsz:(prog.info? 91).map (·.size)=some 2:=by
  obtain ⟨i0,h0,_,h2,_⟩:=info_parts cellT.hT.info
  rw [h0];simp [h2]
 have hvl:(J6 x).length=2:=cellT.hk x
 have hadd:(len - i) * 2+i * 2=len * 2:=by rw [← Nat.add_mul];congr 1;omega
 have hrow:∀ j v,(J4 J6 l)[j]? = some v→w.cell? (Addr.add ⟨g,0,none⟩ j)=some v:=by
  intro j v hj
  have hjl:=(List.getElem?_eq_some_iff.1 hj).1
  rw [J0a,cell_of_row w g (0+j) cur.toArray 91 (0,0) hg,List.getElem?_toArray,Nat.zero_add]
  rw [← ht,List.getElem?_take] at hj
  split at hj
  ·exact hj
  cases hj
 have hold:∀ j v,(J4 J6 (l.take i))[j]? = some v→w.cell? (Addr.add ⟨g,0,none⟩ j)=some v:=by
  intro j v hj
  refine hrow j v ?_
  rw [hAB,List.getElem?_append_left (List.getElem?_eq_some_iff.1 hj).1];exact hj
 have hsrc:∀ j v,(J4 J6 (l.drop i))[j]? = some v→w.cell? (Addr.add ⟨g,i * 2,none⟩ j)=some v:=by
  intro j v hj
  have:=hrow (i * 2+j) v (by rw [hAB,List.getElem?_append_right zO,hA];rw [← hj];congr 1;omega)
  rw [J0a] at this ⊢
  rw [Nat.zero_add] at this
  exact this
 have hsrc2:∀ j v,(J6 x)[j]? = some v→w.cell? (Addr.add ⟨vb,0,none⟩ j)=some v:=by
  intro j v hj
  rw [J0a,cell_of_row w vb (0+j) _ 91 (0,0) hx]
  simpa using hj
 have hvw:vb < w.heap.size:=(Array.getElem?_eq_some_iff.1 hx).1
 have hdone:∀ (W:World) (G:Nat) (Z:List Value),len+1≤G→G≤maxLen→Z.length=(G - i) * 2→W.heap[w.heap.size]? = some (.cells (spl (spl (J4 J6 (l.take i)++Z) (i * 2) (J6 x)) ((i+1) * 2) (J4 J6 (l.drop i))).toArray 91 (0,0))→Own 91 2 J6 okC W (.slice (some ⟨w.heap.size,0,none⟩) (len+1) G) (JL l i x):=by
  intro W G Z hG hGm hZ hW
  have hG1:(len+1) * 2≤G * 2:=Nat.mul_le_mul_right _ hG
  have hG2:(G - i) * 2+i * 2=G * 2:=by rw [← Nat.add_mul];congr 1;omega
  have hf:=Ja4 (J4 J6 (l.take i)) Z (J6 x) (J4 J6 (l.drop i)) (by rw [hvl,hB,hZ];omega)
  rw [hA,hvl,show i * 2+2=(i+1) * 2 by rw [Nat.add_mul,Nat.one_mul]] at hf
  rw [hf] at hW
  refine Own.ofRow cellT.hk ?_ (by simp [JL,hlen];omega) hW hG hGm (by simp only [List.length_append,List.length_drop,hA,hvl,hB,hZ];omega) ?_
  ·intro y hy
   have hall:=hO.2
   simp only [JL,List.mem_append,List.mem_cons] at hy
   rcases hy with hy|rfl|hy
   ·exact hall y (List.mem_of_mem_take hy)
   ·exact hok
   exact hall y (List.mem_of_mem_drop hy)
  have e1:J4 J6 (JL l i x)=J4 J6 (l.take i)++J6 x++J4 J6 (l.drop i):=by simp [JL,J4]
  rw [e1,List.take_append_of_le_length (by simp only [List.length_append,hA,hvl,hB];omega)]
  exact List.take_of_length_le (by simp only [List.length_append,hA,hvl,hB];omega)
 have hsrcv:∀ W,Bl w W→∀ j v,(J6 x)[j]? = some v→W.cell? (Addr.add ⟨vb,0,none⟩ j)=some v:=fun W hb j v hj=>hb.cellOf (hsrc2 j v hj)
 have hsrcg:∀ W,Bl w W→∀ j v,(J4 J6 (l.drop i))[j]? = some v→W.cell? (Addr.add ⟨g,i * 2,none⟩ j)=some v:=fun W hb j v hj=>hb.cellOf (hsrc j v hj)
 have hf1:∀ (G:Nat) (Z:List Value),len+1≤G→Z.length=(G - i) * 2→i * 2+(J6 x).length≤(J4 J6 (l.take i)++Z).length:=by
  intro G Z hG hZ
  have h1:(i+1) * 2≤G * 2:=Nat.mul_le_mul_right _ zO
  have h2:(G - i) * 2+i * 2=G * 2:=by rw [← Nat.add_mul];congr 1;omega
  rw [List.length_append,hA,hZ,hvl]
  rw [Nat.add_mul] at h1;omega
 have hf2:∀ (G:Nat) (Z:List Value),len+1≤G→Z.length=(G - i) * 2→(i+1) * 2+(J4 J6 (l.drop i)).length≤(spl (J4 J6 (l.take i)++Z) (i * 2) (J6 x)).length:=by
  intro G Z hG hZ
  have h1:(len+1) * 2≤G * 2:=Nat.mul_le_mul_right _ zO
  have h2:(G - i) * 2+i * 2=G * 2:=by rw [← Nat.add_mul];congr 1;omega
  rw [J3R _ _ _ (hf1 G Z hG hZ),List.length_append,hA,hZ,hB]
  rw [Nat.add_mul] at h1 ⊢;omega
 have hbnd:(i+(len+1 - i)) * 32≤140737488355328:=by omega
 have hXi:(len:Int)+1 - (i:Int)=((len+1 - i:Nat):Int):=by omega
 have hgw':g≠w.heap.size:=by omega
 have hi1:i+(len+1 - i)=len+1:=by omega
 have Hg:=Lib.hid hg;have Hx:=Lib.hid hx
 have HA:=Lib.hid hA;have HB:=Lib.hid hB;have Hvl:=Lib.hid hvl;have Hsz:=Lib.hid hsz;have Hold:=Lib.hid hold;have Hsrc:=Lib.hid hsrc;have Hsrc2:=Lib.hid hsrc2;have Hdone:=Lib.hid hdone;have Hadd:=Lib.hid hadd;have HXi:=Lib.hid hXi;have Hi1:=Lib.hid hi1;have Hsrcv:=Lib.hid hsrcv;have Hsrcg:=Lib.hid hsrcg;have Hf1:=Lib.hid hf1;have Hf2:=Lib.hid hf2
 clear hg hx hAB hlen ht hs hfl hA hB hO hfz hrd hxr hvb hvl hsz hsrc hsrc2 hold hrow hdone hadd hXi hi1 hsrcv hsrcg hf1 hf2
 go_enter func102,ntmps102
 go_wp2_with (first|(refine J85 cellT underlying3 rfl (.tmp 34) (.tmp 39) rfl ⟨g,0,none⟩ i cap (len+1 - i) _ HXi.out rfl rfl (J4 J6 (l.take i)) HA.out Hold.out zO zO hbnd ?_;intro G Z w1 hG hGm hZ hg1 hb1;rw [Hi1.out] at hG ⊢;have HG:=Lib.hid hG;have HZ:=Lib.hid hZ;have HGm:=Lib.hid hGm;have Hb1:=Lib.hid hb1;clear hZ hGm hb1;have hG63:=J9h HGm.out;have hGi:¬ G=i:=zO;have hGi1:¬ G=i+1:=zO)|(with_reducible refine J4Z rfl (.tmp 43) (.tmp 44) 28 28 rfl 91 2 underlying28 Hsz.out w.heap.size (i * 2) (len+1 - i) (G - i) ⟨vb,0,none⟩ 1 1 yCg yCg _ 91 hg1.out 1 (by simp only [Nat.min_def];split <;> omega) (J6 x) (by rw [Hvl.out]) (Hsrcv.out _ Hb1.out) (Hf1.out G Z HG.out HZ.out) (cellT.h1 x) ?_;intro w2 hg2 hkb2;have HK2:=Lib.hid hkb2;clear hkb2))
 have hsrcg2:∀ j v,(J4 J6 (l.drop i))[j]? = some v→w2.cell? (Addr.add ⟨g,i * 2,none⟩ j)=some v:=fun j v hj=>by
  have h:=Hsrcg.out _ Hb1.out j v hj
  rw [J0a] at h ⊢
  exact HK2.out.cellOf h (by simp;omega)
 have Hsrcg2:=Lib.hid hsrcg2;clear hsrcg2
 have hw1:IntKind.i64.wrap ((i:Int)+1)=(i:Int)+1:=by rw [IntKind.wrap_i64];omega
 have hb1:(0:Int)≤(i:Int)+1:=by omega
 have htn:((i:Int)+1).toNat=i+1:=by omega
 have hb3:(i:Int)≤(len:Int):=by omega
 have hb4:(i:Int)+1≤(len:Int)+1:=by omega
 go_region_law (refine J57 rfl (.tmp 50) (.tmp 53) 28 28 rfl 91 2 underlying28 Hsz.out w.heap.size ((i+1) * 2) (len - i) (G - (i+1)) ⟨g,i * 2,none⟩ (len - i) (cap - i) yBz yBz _ 91 hg2.out (len - i) (by simp only [Nat.min_def];split <;> omega) (J4 J6 (l.drop i)) HB.out Hsrcg2.out (Hf2.out G Z HG.out HZ.out) (J3v cellT _) ?_;intro w3 hg3 hkb3)
 have HK3:=Lib.hid hkb3;clear hkb3
 go_wp2
 go_ret
 exact ⟨_,rfl,Hdone.out _ G Z HG.out HGm.out HZ.out hg3.out,(Hb1.out.keep _).trans (HK2.out.trans (((KeepBut.refl [w.heap.size] w2).drew).trans HK3.out (fun x hx=>.inl hx)) (fun x hx=>.inl hx)) (fun b hb=>.inr (by simp at hb;omega)),fun b hb=>.inr (by simp [Value.ownBlock] at hb;omega)⟩
theorem JdA (v:Value) (i:Nat) (x:ByteArray) (vb:Nat) (w:World) (l:List ByteArray) (hO:Own 9 1 J3 okS w v l) (hi:i≤l.length) (hl:l.length≤1099511627776) (hok:okS x)
 (hx:w.heap[vb]? = some (.cells (J3 x).toArray 9 (0,0))) (hvb:∀ b ∈ v.ownBlock.toList,b≠vb) :
 Calls prog 376 #[v,.int .i64 i,.slice (some ⟨vb,0,none⟩) 1 1] w fun e w'=>∃ v',e=.returned v'∧Own 9 1 J3 okS w' v' (JL l i x)∧KeepBut v.ownBlock.toList w w'∧Moved w v v':=by
 have hxr:RSl 1 (Enc J3 okS) w (.slice (some ⟨vb,0,none⟩) 1 1) [x]:=by
  refine RSl.mk vb 0 1 rfl (Nat.le_refl _) (by unfold maxLen;omega) fun q y hy=>?_
  cases q with
  | succ q=>simp at hy
  | zero=>
   simp at hy;subst hy
   exact ⟨J3 x,rfl,⟨rfl,hok⟩,fun j u hj=>by simp [World.cell?,hx,hj]⟩
 have hrd:=Own.rd strT.hk hO
 obtain ⟨a,cap,rfl,hle,hl63,hc63,hn⟩:=hrd.inv
 by_cases hin:i=l.length
 ·obtain ⟨len,hlen⟩:∃ len,l.length=len:=⟨_,rfl⟩
  rw [hlen] at hin
  subst hin
  rw [hlen] at hle hl63 hO hrd hi hl ⊢
  have HO:=Lib.hid hO;have Hlen:=Lib.hid hlen;have Hx:=Lib.hid hx
  clear hO hlen hx hrd hn hi
  have fin:∀ v' w',Own 9 1 J3 okS w' v' (l++[x])→Own 9 1 J3 okS w' v' (JL l i x):=fun v' w' h=>by
   have h0:=Hlen.out
   unfold JL
   rw [List.take_of_length_le zO,List.drop_eq_nil_of_le zO]
   exact h
  by_cases hci:cap=i
  ·subst hci
   go_enter func376,ntmps376
   go_wp2_with (at_builtin;refine J3S strT rfl (.tmp 23) (.tmp 24) rfl (.slice a cap cap) (.slice (some ⟨vb,0,none⟩) 1 1) l [x] rfl rfl HO.out hxr (by have:=Hlen.out;simp <;> omega) ?_;intro v' w' hO' hkb hmv hnl)
   go_ret
   exact ⟨_,rfl,fin _ _ hO',hkb,hmv⟩
  go_enter func376,ntmps376
  go_wp2_with (at_builtin;refine J3S strT rfl (.tmp 23) (.tmp 24) rfl (.slice a i cap) (.slice (some ⟨vb,0,none⟩) 1 1) l [x] rfl rfl HO.out hxr (by have:=Hlen.out;simp <;> omega) ?_;intro v' w' hO' hkb hmv hnl)
  go_ret
  exact ⟨_,rfl,fin _ _ hO',hkb,hmv⟩
 have hin':i < l.length:=by omega
 obtain ⟨g,rfl,-,-,hfz,hgw⟩:=Own.cellAt strT.hk hO i l[i] (by simp [hin'])
 obtain ⟨-,cur,hg,-,hm,hs,ht⟩:=Own.row hO
 have hgv:g≠vb:=hvb g yBw
 have hfl:=J0d strT.hk l
 have hA:=J0d strT.hk (l.take i)
 have hB:=J0d strT.hk (l.drop i)
 have hAB:J4 J3 l=J4 J3 (l.take i)++J4 J3 (l.drop i):=by rw [← J18,List.take_append_drop]
 rw [List.length_take,Nat.min_eq_left hi] at hA
 rw [List.length_drop] at hB
 obtain ⟨len,hlen⟩:∃ len,l.length=len:=⟨_,rfl⟩
 rw [hlen] at hle hl63 hO hrd hi hl hin hin' ht hfl hB ⊢
 by_cases hroom:len+1≤cap
 ·have hcur:cur=J4 J3 (l.take i)++J4 J3 (l.drop i)++cur.drop (len * 1):=by rw [← hAB,← ht,List.take_append_drop]
  have hR:1≤(cur.drop (len * 1)).length:=by
   have h1:(len+1) * 1≤cap * 1:=Nat.mul_le_mul_right _ hroom
   rw [List.length_drop,hs];omega
  have hsz:(prog.info? 9).map (·.size)=some 1:=by
   obtain ⟨i0,h0,_,h2,_⟩:=info_parts strT.hT.info
   rw [h0];simp [h2]
  have hvl:(J3 x).length=1:=strT.hk x
  have hov:∀ (W:World) (lb cb:Nat),W.heap[vb]? = some (.cells (J3 x).toArray 9 (0,0))→W.heap[g]? = some (.cells cur.toArray 9 (0,0)) →
   (callFunc 381 #[.slice (some ⟨vb,0,none⟩) 1 1,.slice (some ⟨g,(i+1) * 1,none⟩) lb cb]).run prog W=.ok (.value (.bool false)) W:=fun W lb cb hx1 hg1=>by
   rw [run_callFunc_extern func381 zK zK zK (e:=Extern.SlicesOverlaps.overlaps #[44,44] #[4]) zK,
    Lib.run_overlaps_apart W 44 4 9 underlying44 1 (fun w=>by kernel_rfl) ⟨vb,0,none⟩ ⟨g,(i+1) * 1,none⟩ 1 1 lb cb (Ne.symm hgv) 9 9 1 (cap * 1) (by simp [World.shape?,hx1,hvl]) (by simp [World.shape?,hg1,hs]) (by have:1 * 1≤cap * 1:=Nat.mul_le_mul_right _ zO;omega)
     (by simp [World.frozen?,hx1]) (by simp [World.frozen?,hx1])]
   rfl
  have hlast:(len+1) * 1≤cap * 1:=Nat.mul_le_mul_right _ hroom
  have hadd:(len - i) * 1+i * 1=len * 1:=by rw [← Nat.add_mul];congr 1;omega
  have hsrc:∀ j v,(J4 J3 (l.drop i))[j]? = some v→w.cell? (Addr.add ⟨g,i * 1,none⟩ j)=some v:=by
   intro j v hj
   have hjl:=(List.getElem?_eq_some_iff.1 hj).1
   rw [J0a,cell_of_row w g (i * 1+j) cur.toArray 9 (0,0) hg]
   rw [List.getElem?_toArray,hcur,List.append_assoc,List.getElem?_append_right zO,hA,List.getElem?_append_left zO,← hj]
   congr 1;omega
  have hfit:(i+1) * 1+(J4 J3 (l.drop i)).length≤cur.length:=by rw [hB,hs,Nat.add_mul];omega
  have hlen2:(spl cur ((i+1) * 1) (J4 J3 (l.drop i))).length=cap * 1:=by rw [J3R _ _ _ hfit,hs]
  have hfit2:i * 1+(J3 x).length≤(spl cur ((i+1) * 1) (J4 J3 (l.drop i))).length:=by rw [hlen2,hvl];omega
  have hsrc2:∀ W:World,W.heap[vb]? = some (.cells (J3 x).toArray 9 (0,0))→∀ j v,(J3 x)[j]? = some v→W.cell? (Addr.add ⟨vb,0,none⟩ j)=some v:=by
   intro W hW j v hj
   rw [J0a,cell_of_row W vb (0+j) _ 9 (0,0) hW]
   simpa using hj
  have hfin:spl (spl cur ((i+1) * 1) (J4 J3 (l.drop i))) (i * 1) (J3 x)=J4 J3 (l.take i)++J3 x++J4 J3 (l.drop i)++(cur.drop (len * 1)).drop 1:=by
   have:=J9s (J4 J3 (l.take i)) (J4 J3 (l.drop i)) (cur.drop (len * 1)) (J3 x) 1 hvl hR
   rw [← hcur,hA] at this
   rw [Nat.add_mul,Nat.one_mul];exact this
  have hdone:∀ W:World,W.heap[g]? = some (.cells (spl (spl cur ((i+1) * 1) (J4 J3 (l.drop i))) (i * 1) (J3 x)).toArray 9 (0,0))→Own 9 1 J3 okS W (.slice (some ⟨g,0,none⟩) (len+1) cap) (JL l i x):=by
   intro W hW
   refine Own.ofRow strT.hk ?_ (by simp [JL,hlen];omega) hW hroom hm (by rw [J3R _ _ _ hfit2,hlen2]) ?_
   ·intro y hy
    have hall:=hO.2
    simp only [JL,List.mem_append,List.mem_cons] at hy
    rcases hy with hy|rfl|hy
    ·exact hall y (List.mem_of_mem_take hy)
    ·exact hok
    exact hall y (List.mem_of_mem_drop hy)
   rw [hfin]
   have e1:J4 J3 (JL l i x)=J4 J3 (l.take i)++J3 x++J4 J3 (l.drop i):=by simp [JL,J4]
   rw [e1,List.take_append_of_le_length (by simp only [List.length_append,hA,hvl,hB];omega)]
   exact List.take_of_length_le (by simp only [List.length_append,hA,hvl,hB];omega)
  have hcap:¬ cap=i+1:=by omega
  have hcap2:¬ cap=i:=by omega
  have hov1:=fun lb cb=>hov w lb cb hx hg
  try simp only [Nat.mul_one] at hov1
  have Hcur:=Lib.hid hcur;have Hg:=Lib.hid hg;have Hx:=Lib.hid hx;have HAB:=Lib.hid hAB;have Hlen:=Lib.hid hlen;have Ht:=Lib.hid ht;have Hs:=Lib.hid hs
  have Hfl:=Lib.hid hfl;have HA:=Lib.hid hA;have HB:=Lib.hid hB;have HO:=Lib.hid hO
  have Hfz:=Lib.hid hfz;have Hvl:=Lib.hid hvl;have Hsz:=Lib.hid hsz;have Hsrc:=Lib.hid hsrc;have Hfit:=Lib.hid hfit;have Hsrc2:=Lib.hid hsrc2;have Hfit2:=Lib.hid hfit2;have Hdone:=Lib.hid hdone
  clear hcur hg hx hAB hlen ht hs hfl hA hB hO hfz hrd hxr hov hvb hvl hsz hsrc hfit hsrc2 hfit2 hdone hfin hlen2 hadd hlast hR
  go_enter func376,ntmps376
  go_wp2_with (simp only [hov1])
  have hw1:IntKind.i64.wrap ((i:Int)+1)=(i:Int)+1:=by rw [IntKind.wrap_i64];omega
  have hb1:(0:Int)≤(i:Int)+1:=by omega
  have htn:((i:Int)+1).toNat=i+1:=by omega
  have hb3:(i:Int)≤(len:Int):=by omega
  have hb4:(i:Int)+1≤(len:Int)+1:=by omega
  have hb5:(i:Int)≤(len:Int)+1:=by omega
  go_region_law (refine J57 rfl (.tmp 73) (.tmp 76) 44 44 rfl 9 1 underlying44 Hsz.out g ((i+1) * 1) (len - i) (cap - (i+1)) ⟨g,i * 1,none⟩ (len+1 - i) (cap - i) yBz yBz cur 9 Hg.out (len - i) (by simp only [Nat.min_def];split <;> omega) (J4 J3 (l.drop i)) HB.out Hsrc.out Hfit.out (J3v strT _) ?_;intro w2 hg2 hkb2)
  have hx2:w2.heap[vb]? = some (.cells (J3 x).toArray 9 (0,0)):=hkb2.heapOf Hx.out (by simp [Ne.symm hgv])
  have Hx2:=Lib.hid hx2;have HK2:=Lib.hid hkb2
  clear hx2 hkb2
  go_wp2_with (with_reducible refine J4Z rfl (.tmp 80) (.tmp 81) 44 44 rfl 9 1 underlying44 Hsz.out g (i * 1) (len+1 - i) (cap - i) ⟨vb,0,none⟩ 1 1 yCg yCg _ 9 hg2.out 1 (by simp only [Nat.min_def];split <;> omega) (J3 x) (by rw [Hvl.out]) (Hsrc2.out _ Hx2.out) Hfit2.out (strT.h1 x) ?_;intro w3 hg3 hkb3)
  have HK3:=Lib.hid hkb3;clear hkb3
  go_wp2
  go_ret
  exact ⟨_,rfl,Hdone.out _ hg3.out,((KeepBut.refl _ _).drew.trans HK2.out yBw).trans HK3.out yBw,fun b hb=>.inl hb⟩
 have hgrow:(cap:Int) < (len:Int)+1:=by omega
 have hci:¬ cap=i:=by omega
 have hsz:(prog.info? 9).map (·.size)=some 1:=by
  obtain ⟨i0,h0,_,h2,_⟩:=info_parts strT.hT.info
  rw [h0];simp [h2]
 have hvl:(J3 x).length=1:=strT.hk x
 have hadd:(len - i) * 1+i * 1=len * 1:=by rw [← Nat.add_mul];congr 1;omega
 have hrow:∀ j v,(J4 J3 l)[j]? = some v→w.cell? (Addr.add ⟨g,0,none⟩ j)=some v:=by
  intro j v hj
  have hjl:=(List.getElem?_eq_some_iff.1 hj).1
  rw [J0a,cell_of_row w g (0+j) cur.toArray 9 (0,0) hg,List.getElem?_toArray,Nat.zero_add]
  rw [← ht,List.getElem?_take] at hj
  split at hj
  ·exact hj
  cases hj
 have hold:∀ j v,(J4 J3 (l.take i))[j]? = some v→w.cell? (Addr.add ⟨g,0,none⟩ j)=some v:=by
  intro j v hj
  refine hrow j v ?_
  rw [hAB,List.getElem?_append_left (List.getElem?_eq_some_iff.1 hj).1];exact hj
 have hsrc:∀ j v,(J4 J3 (l.drop i))[j]? = some v→w.cell? (Addr.add ⟨g,i * 1,none⟩ j)=some v:=by
  intro j v hj
  have:=hrow (i * 1+j) v (by rw [hAB,List.getElem?_append_right zO,hA];rw [← hj];congr 1;omega)
  rw [J0a] at this ⊢
  rw [Nat.zero_add] at this
  exact this
 have hsrc2:∀ j v,(J3 x)[j]? = some v→w.cell? (Addr.add ⟨vb,0,none⟩ j)=some v:=by
  intro j v hj
  rw [J0a,cell_of_row w vb (0+j) _ 9 (0,0) hx]
  simpa using hj
 have hvw:vb < w.heap.size:=(Array.getElem?_eq_some_iff.1 hx).1
 have hdone:∀ (W:World) (G:Nat) (Z:List Value),len+1≤G→G≤maxLen→Z.length=(G - i) * 1→W.heap[w.heap.size]? = some (.cells (spl (spl (J4 J3 (l.take i)++Z) (i * 1) (J3 x)) ((i+1) * 1) (J4 J3 (l.drop i))).toArray 9 (0,0))→Own 9 1 J3 okS W (.slice (some ⟨w.heap.size,0,none⟩) (len+1) G) (JL l i x):=by
  intro W G Z hG hGm hZ hW
  have hG1:(len+1) * 1≤G * 1:=Nat.mul_le_mul_right _ hG
  have hG2:(G - i) * 1+i * 1=G * 1:=by rw [← Nat.add_mul];congr 1;omega
  have hf:=Ja4 (J4 J3 (l.take i)) Z (J3 x) (J4 J3 (l.drop i)) (by rw [hvl,hB,hZ];omega)
  rw [hA,hvl,show i * 1+1=(i+1) * 1 by rw [Nat.add_mul,Nat.one_mul]] at hf
  rw [hf] at hW
  refine Own.ofRow strT.hk ?_ (by simp [JL,hlen];omega) hW hG hGm (by simp only [List.length_append,List.length_drop,hA,hvl,hB,hZ];omega) ?_
  ·intro y hy
   have hall:=hO.2
   simp only [JL,List.mem_append,List.mem_cons] at hy
   rcases hy with hy|rfl|hy
   ·exact hall y (List.mem_of_mem_take hy)
   ·exact hok
   exact hall y (List.mem_of_mem_drop hy)
  have e1:J4 J3 (JL l i x)=J4 J3 (l.take i)++J3 x++J4 J3 (l.drop i):=by simp [JL,J4]
  rw [e1,List.take_append_of_le_length (by simp only [List.length_append,hA,hvl,hB];omega)]
  exact List.take_of_length_le (by simp only [List.length_append,hA,hvl,hB];omega)
 have hsrcv:∀ W,Bl w W→∀ j v,(J3 x)[j]? = some v→W.cell? (Addr.add ⟨vb,0,none⟩ j)=some v:=fun W hb j v hj=>hb.cellOf (hsrc2 j v hj)
 have hsrcg:∀ W,Bl w W→∀ j v,(J4 J3 (l.drop i))[j]? = some v→W.cell? (Addr.add ⟨g,i * 1,none⟩ j)=some v:=fun W hb j v hj=>hb.cellOf (hsrc j v hj)
 have hf1:∀ (G:Nat) (Z:List Value),len+1≤G→Z.length=(G - i) * 1→i * 1+(J3 x).length≤(J4 J3 (l.take i)++Z).length:=by
  intro G Z hG hZ
  have h1:(i+1) * 1≤G * 1:=Nat.mul_le_mul_right _ zO
  have h2:(G - i) * 1+i * 1=G * 1:=by rw [← Nat.add_mul];congr 1;omega
  rw [List.length_append,hA,hZ,hvl]
  rw [Nat.add_mul] at h1;omega
 have hf2:∀ (G:Nat) (Z:List Value),len+1≤G→Z.length=(G - i) * 1→(i+1) * 1+(J4 J3 (l.drop i)).length≤(spl (J4 J3 (l.take i)++Z) (i * 1) (J3 x)).length:=by
  intro G Z hG hZ
  have h1:(len+1) * 1≤G * 1:=Nat.mul_le_mul_right _ zO
  have h2:(G - i) * 1+i * 1=G * 1:=by rw [← Nat.add_mul];congr 1;omega
  rw [J3R _ _ _ (hf1 G Z hG hZ),List.length_append,hA,hZ,hB]
  rw [Nat.add_mul] at h1 ⊢;omega
 have hbnd:(i+(len+1 - i)) * 16≤140737488355328:=by omega
 have hXi:(len:Int)+1 - (i:Int)=((len+1 - i:Nat):Int):=by omega
 have hgw':g≠w.heap.size:=by omega
 have hi1:i+(len+1 - i)=len+1:=by omega
 have Hg:=Lib.hid hg;have Hx:=Lib.hid hx
 have HA:=Lib.hid hA;have HB:=Lib.hid hB;have Hvl:=Lib.hid hvl;have Hsz:=Lib.hid hsz;have Hold:=Lib.hid hold;have Hsrc:=Lib.hid hsrc;have Hsrc2:=Lib.hid hsrc2;have Hdone:=Lib.hid hdone;have Hadd:=Lib.hid hadd;have HXi:=Lib.hid hXi;have Hi1:=Lib.hid hi1;have Hsrcv:=Lib.hid hsrcv;have Hsrcg:=Lib.hid hsrcg;have Hf1:=Lib.hid hf1;have Hf2:=Lib.hid hf2
 clear hg hx hAB hlen ht hs hfl hA hB hO hfz hrd hxr hvb hvl hsz hsrc hsrc2 hold hrow hdone hadd hXi hi1 hsrcv hsrcg hf1 hf2
 go_enter func376,ntmps376
 go_wp2_with (first|(refine J85 strT underlying3 rfl (.tmp 34) (.tmp 39) rfl ⟨g,0,none⟩ i cap (len+1 - i) _ HXi.out rfl rfl (J4 J3 (l.take i)) HA.out Hold.out zO zO hbnd ?_;intro G Z w1 hG hGm hZ hg1 hb1;rw [Hi1.out] at hG ⊢;have HG:=Lib.hid hG;have HZ:=Lib.hid hZ;have HGm:=Lib.hid hGm;have Hb1:=Lib.hid hb1;clear hZ hGm hb1;have hG63:=J9h HGm.out;have hGi:¬ G=i:=zO;have hGi1:¬ G=i+1:=zO)|(with_reducible refine J4Z rfl (.tmp 43) (.tmp 44) 44 44 rfl 9 1 underlying44 Hsz.out w.heap.size (i * 1) (len+1 - i) (G - i) ⟨vb,0,none⟩ 1 1 yCg yCg _ 9 hg1.out 1 (by simp only [Nat.min_def];split <;> omega) (J3 x) (by rw [Hvl.out]) (Hsrcv.out _ Hb1.out) (Hf1.out G Z HG.out HZ.out) (strT.h1 x) ?_;intro w2 hg2 hkb2;have HK2:=Lib.hid hkb2;clear hkb2))
 have hsrcg2:∀ j v,(J4 J3 (l.drop i))[j]? = some v→w2.cell? (Addr.add ⟨g,i * 1,none⟩ j)=some v:=fun j v hj=>by
  have h:=Hsrcg.out _ Hb1.out j v hj
  rw [J0a] at h ⊢
  exact HK2.out.cellOf h (by simp;omega)
 have Hsrcg2:=Lib.hid hsrcg2;clear hsrcg2
 have hw1:IntKind.i64.wrap ((i:Int)+1)=(i:Int)+1:=by rw [IntKind.wrap_i64];omega
 have hb1:(0:Int)≤(i:Int)+1:=by omega
 have htn:((i:Int)+1).toNat=i+1:=by omega
 have hb3:(i:Int)≤(len:Int):=by omega
 have hb4:(i:Int)+1≤(len:Int)+1:=by omega
 go_region_law (refine J57 rfl (.tmp 50) (.tmp 53) 44 44 rfl 9 1 underlying44 Hsz.out w.heap.size ((i+1) * 1) (len - i) (G - (i+1)) ⟨g,i * 1,none⟩ (len - i) (cap - i) yBz yBz _ 9 hg2.out (len - i) (by simp only [Nat.min_def];split <;> omega) (J4 J3 (l.drop i)) HB.out Hsrcg2.out (Hf2.out G Z HG.out HZ.out) (J3v strT _) ?_;intro w3 hg3 hkb3)
 have HK3:=Lib.hid hkb3;clear hkb3
 go_wp2
 go_ret
 exact ⟨_,rfl,Hdone.out _ G Z HG.out HGm.out HZ.out hg3.out,(Hb1.out.keep _).trans (HK2.out.trans (((KeepBut.refl [w.heap.size] w2).drew).trans HK3.out (fun x hx=>.inl hx)) (fun x hx=>.inl hx)) (fun b hb=>.inr (by simp at hb;omega)),fun b hb=>.inr (by simp [Value.ownBlock] at hb;omega)⟩
end Go.Proofs.YtipdbeklopjbmaaGreatDoor
