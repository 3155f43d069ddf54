/-
  Contracts: slices of strings in the laws' helpers (szStringS, toStringS, eqStringS, markText, markStringS, heldStringS).
-/
import Derived.Test.YtipdbeklopjbmaaGreatDoorMem
set_option linter.unusedVariables false
set_option linter.unusedSimpArgs false
namespace Go.Proofs.YtipdbeklopjbmaaGreatDoor
open Go.ChangeShapes Go.WideShapes Go.ChangeAt Go.RowKit
def subOr (left:Int) (n:Nat):Int:=if (n:Int)≤left then left - n else -1
theorem subOr_bd (left:Int) (n:Nat) (h:0≤left) : -1≤subOr left n∧subOr left n≤left:=by unfold subOr;split <;> omega
theorem subOr_add (left:Int) (a b:Nat):0≤subOr left a→subOr (subOr left a) b=subOr left (a+b):=by unfold subOr;split <;> split <;> split <;> omega
theorem subOr_neg (left:Int) (a b:Nat):subOr left a < 0→subOr left (a+b)=-1:=by unfold subOr;split <;> split <;> omega
theorem subOr_ge {left:Int} {a:Nat} : 0≤subOr left a→subOr left a=left - a∧(a:Int)≤left:=by unfold subOr;split <;> omega
def sumOf {α:Type} (f:α→Nat) (l:List α):Nat:=(l.map f).sum
theorem sumOf_take {α:Type} (f:α→Nat) (l:List α) (k:Nat) (x:α) (h:l[k]? = some x):sumOf f (l.take (k+1))=sumOf f (l.take k)+f x:=by
 have hk:k < l.length:=(List.getElem?_eq_some_iff.1 h).1
 have hx:l[k]=x:=(List.getElem?_eq_some_iff.1 h).2
 rw [List.take_succ_eq_append_getElem hk]
 simp [sumOf,hx]
theorem sumOf_split {α:Type} (f:α→Nat) (l:List α) (k:Nat):sumOf f l=sumOf f (l.take k)+sumOf f (l.drop k):=by
 unfold sumOf
 conv=>lhs;rw [← List.take_append_drop k l]
 simp only [List.map_append,List.sum_append]
theorem sumOf_all {α:Type} (f:α→Nat) (l:List α) (k:Nat) (h:l.length≤k):sumOf f (l.take k)=sumOf f l:=by rw [List.take_of_length_le h]
theorem sumOf_mem {α:Type} (f:α→Nat) (l:List α) (x:α) (h:x ∈ l):f x≤sumOf f l:=by
 induction l with
 | nil=>cases h
 | cons y l ih=>
  simp only [sumOf,List.map_cons,List.sum_cons] at *
  rcases List.mem_cons.1 h with rfl|h
  ·omega
  ·have:=ih h;omega
def encS (s:ByteArray):List Value:=[.string s]
def okS (s:ByteArray):Prop:=s.size≤9223372036854775807
def szStrs (l:List ByteArray):Nat:=l.length+sumOf ByteArray.size l
set_option maxHeartbeats 1000000
theorem strT:ElemT Tryz.prog 44 9 (.string ⟨#[]⟩) 1 16 encS where
 ht:=Tryz.underlying44
 hT:=⟨by kernel_rfl,rfl,by omega⟩
 hk:=fun _=>rfl
 h1:=fun x u hu=>by simp [encS] at hu;subst hu;rfl
 by0:=by omega
abbrev RStrs (w:World) (v:Value) (l:List ByteArray):Prop:=RSl 1 (Enc encS okS) w v l
abbrev OStrs (w:World) (v:Value) (l:List ByteArray):Prop:=Own 9 1 encS okS w v l
theorem OStrs.rd {w:World} {v:Value} {l:List ByteArray} (h:OStrs w v l):RStrs w v l:=Own.rd strT.hk h
theorem RStrs.at {w:World} {a:Option Addr} {n cap:Nat} {l:List ByteArray} (h:RStrs w (.slice a n cap) l) (i:Nat) (hi:i < n) :
 ∃ b off s,a=some ⟨b,off,none⟩∧l[i]? = some s∧s.size≤9223372036854775807∧w.cell? ⟨b,off+i,none⟩=some (.string s):=by
 obtain ⟨b,off,s,row,h1,h2,h3,⟨rfl,h4⟩,h5⟩:=RSl.at h i hi
 exact ⟨b,off,s,h1,h2,h4,by simpa using h5 0 (.string s) rfl⟩
abbrev AStrs (w:World) (v:Value) (l:List ByteArray):Prop:=RArg 1 (Enc encS okS) w v l
theorem AStrs.at {w:World} {a:Option Addr} {n cap:Nat} {l:List ByteArray} (h:AStrs w (.slice a n cap) l) (i:Nat) (hi:i < n) :
 ∃ b off s,a=some ⟨b,off,none⟩∧l[i]? = some s∧s.size≤9223372036854775807∧w.cell? ⟨b,off+i,none⟩=some (.string s):=by
 obtain ⟨b,off,s,row,h1,h2,h3,⟨rfl,h4⟩,h5⟩:=RArg.at h i hi
 exact ⟨b,off,s,h1,h2,h4,by simpa using h5 0 (.string s) rfl⟩
theorem AStrs.below {w w':World} {v:Value} {l:List ByteArray} (h:AStrs w v l) (hb:Bl w w'):AStrs w' v l:=RArg.below (Enc.stable _ _) h hb
theorem RStrs.below {w w':World} {v:Value} {l:List ByteArray} (h:RStrs w v l) (hb:Bl w w'):RStrs w' v l:=RSl.below (Enc.stable _ _) h hb
theorem szStringS_c (v:Value) (n:Int) (w:World) (l:List ByteArray) (hr:AStrs w v l) (h0:0≤n) (h1:n≤1048576) :
 Calls Tryz.prog 106 #[v,.int .i64 n] w fun e w'=>e=.returned (.int .i64 (subOr n (szStrs l)))∧Bl w w':=by
 have hr0:=hr
 obtain ⟨a,cap,rfl,hle,hl,-,-⟩:=hr.inv
 have Hr:=Lib.hid hr0;clear hr0 hr
 obtain ⟨len,hlen⟩:∃ len,l.length=len:=⟨_,rfl⟩
 rw [hlen] at hle hl Hr ⊢
 have Hlen:=Lib.hid hlen;clear hlen
 go_enter Tryz.func106,Tryz.ntmps106
 go_wp2
 ·go_ret
  refine ⟨ret_int ?_,Bl.refl _⟩
  have:=Hlen.out
  unfold subOr szStrs;split <;> omega
 ·go_loopw [1,5] (fun n' i wr=>∃ (k:Nat),k≤len∧i=.int .i64 k∧n'=.int .i64 (subOr n (len+sumOf ByteArray.size (l.take k)))∧0≤subOr n (len+sumOf ByteArray.size (l.take k))∧Bl w wr) (fun _ i _=>len - (intOf i).toNat)
  case atStart=>
   refine ⟨0,by omega,rfl,?_,?_,Bl.refl _⟩
   ·congr 1;simp [subOr,sumOf];omega
   ·simp [subOr,sumOf];omega
  case round=>
   obtain ⟨k,hk,rfl,rfl,hm0,hB⟩:=hrel
   by_cases hlt:k < len
   ·obtain ⟨b,off,x,rfl,hx,hxs,c1⟩:=AStrs.at (AStrs.below Hr.out hB) k (by omega)
    have hm1:=(subOr_bd n (len+sumOf ByteArray.size (l.take k)) (by omega)).2
    have hst:=sumOf_take ByteArray.size l k x hx
    have hadd:=subOr_add n (len+sumOf ByteArray.size (l.take k)) x.size hm0
    have hsp:=sumOf_split ByteArray.size l (k+1)
    have hneg:=subOr_neg n (len+sumOf ByteArray.size (l.take (k+1))) (sumOf ByteArray.size (l.drop (k+1)))
    rw [Nat.add_assoc,← hst] at hadd
    rw [Nat.add_assoc,← hsp] at hneg
    generalize hm:subOr n (len+sumOf ByteArray.size (l.take k))=m at *
    have Hadd:=Lib.hid hadd;have Hneg:=Lib.hid hneg;have HB:=Lib.hid hB
    clear hm hx hst hadd hsp hneg hB
    go_wp2
    ·go_ret
     refine ⟨ret_int ?_,HB.out⟩
     have h:=Hadd.out
     have g:=Hneg.out
     have e:=Hlen.out
     unfold szStrs
     rw [e,g (by rw [← h];unfold subOr;split <;> omega)]
    ·have h:=Hadd.out
     have e:m - (x.size:Int)=subOr n (len+sumOf ByteArray.size (l.take (k+1))):=by rw [← h];unfold subOr;split <;> omega
     go_roundw
     case rel=>exact ⟨k+1,by omega,by go_num,by rw [e],by rw [← e];omega,HB.out⟩
     case measure=>simp [intOf];omega
   ·go_wp2
    go_ret
    obtain rfl:k=len:=by omega
    refine ⟨ret_int ?_,hB⟩
    have:=Hlen.out
    unfold szStrs
    rw [this,sumOf_all _ _ _ (by omega)]
theorem toStringS_c (v:Value) (w:World) (l:List ByteArray) (hr:AStrs w v l) (hl:l.length≤1048576) :
 Calls Tryz.prog 114 #[v] w fun e w'=>∃ v',e=.returned v'∧OStrs w' v' l∧(∀ b ∈ v'.ownBlock.toList,w.heap.size≤b)∧Bl w w':=by
 have hr0:=hr
 obtain ⟨a,cap,rfl,hle,-,-,-⟩:=hr.inv
 have Hr:=Lib.hid hr0;clear hr0 hr
 obtain ⟨len,hlen⟩:∃ len,l.length=len:=⟨_,rfl⟩
 rw [hlen] at hle hl Hr ⊢
 have Hlen:=Lib.hid hlen;clear hlen
 go_enter Tryz.func114,Tryz.ntmps114
 go_wp2_with (refine wpList_mk (ok:=okS) strT rfl (.tmp 6) (.tmp 6) rfl ⟨#[]⟩ rfl (Nat.zero_le _) len rfl rfl (by omega) ?_;intro w1 hown hb1 hlt1)
 go_loopw [4] (fun i wr=>∃ (k:Nat),k≤len∧i=.int .i64 k∧Bl w wr∧OStrs wr (.slice (some ⟨w.heap.size,0,none⟩) len len) (l.take k++List.replicate (len - k) ⟨#[]⟩)) (fun i _=>len - (intOf i).toNat)
 case atStart=>exact ⟨0,by omega,rfl,hb1,by simpa using hown⟩
 case round=>
  obtain ⟨k,hk,rfl,hB,hO⟩:=hrel
  by_cases hlt:k < len
  ·obtain ⟨b,off,x,rfl,hx,hxs,c1⟩:=AStrs.at (AStrs.below Hr.out hB) k (by omega)
   have hz:(l.take k++List.replicate (len - k) (⟨#[]⟩:ByteArray))[k]? = some ⟨#[]⟩:=by
    rw [List.getElem?_append_right (by simp;omega)]
    simp [List.getElem?_replicate,Hlen.out];omega
   obtain ⟨b',hb',-,hcell,hfz,hlt'⟩:=Own.cellAt strT.hk hO k _ hz
   cases hb'
   have c2:=hcell 0 (.string ⟨#[]⟩) rfl
   have f2:=hfz k
   simp only [Nat.mul_one,Nat.add_zero] at c2
   have hset:=Own.setCell strT.hk hO k 0 _ x (.string x) hz (by omega) rfl hxs
   have hlist:(l.take k++List.replicate (len - k) (⟨#[]⟩:ByteArray)).set k x=l.take (k+1)++List.replicate (len - (k+1)) ⟨#[]⟩:=by
    have h1:=Hlen.out
    rw [List.set_append_right _ _ (by rw [List.length_take];omega),List.length_take,Nat.min_eq_left (by omega),Nat.sub_self,show len - k=(len - (k+1))+1 by omega,List.replicate_succ,List.set_cons_zero,List.take_succ_eq_append_getElem (by omega),List.append_assoc]
    congr 1
    have:l[k]'(by omega)=x:=(List.getElem?_eq_some_iff.1 hx).2
    simp [this]
   rw [hlist] at hset
   simp only [Nat.mul_one,Nat.add_zero] at hset
   have hB2:Bl w (wr.setCell ⟨w.heap.size,k,none⟩ (.string x)):=hB.setCell (Nat.le_refl _) _
   have Hset:=Lib.hid hset;have HB2:=Lib.hid hB2
   clear hz hcell hfz hset hlist hB2 hx hO hB hb1 hown
   go_wp2
   go_roundw
   case rel=>exact ⟨k+1,by omega,by go_num,HB2.out,Hset.out⟩
   case measure=>simp [intOf];omega
  ·obtain rfl:k=len:=by omega
   have h1:=Hlen.out
   have hO2:OStrs wr (.slice (some ⟨w.heap.size,0,none⟩) k k) l:=by
    have:l.take k=l:=List.take_of_length_le (by omega)
    rw [this] at hO
    simpa using hO
   clear h1 hO
   go_wp2
   go_ret
   exact ⟨_,rfl,hO2,by simp [Value.ownBlock],hB⟩
theorem toStringS_s (v:Value) (w:World) (l:List ByteArray) (hr:AStrs w v l) (hl:l.length≤1048576) :
 Calls Tryz.prog 114 #[v] w fun e w'=>∃ a n c,e=.returned (.slice a n c)∧OStrs w' (.slice a n c) l∧(∀ b ∈ (Value.slice a n c).ownBlock.toList,w.heap.size≤b)∧Bl w w':=
 Calls.sl (toStringS_c v w l hr hl) fun _ _ h=>h.1.isSl
theorem eqStringS_c (v v':Value) (w:World) (l:List ByteArray) (hr:RStrs w v l) (hr':RStrs w v' l) :
 Calls Tryz.prog 122 #[v,v'] w fun e w'=>e=.returned (.bool true)∧Bl w w':=by
 have hr0:=hr;have hr1:=hr'
 obtain ⟨a,cap,rfl,hle,hl,-,-⟩:=hr.inv
 obtain ⟨a',cap',rfl,hle',-,-,-⟩:=hr'.inv
 have Hr:=Lib.hid hr0;have Hr':=Lib.hid hr1;clear hr0 hr hr1 hr'
 obtain ⟨len,hlen⟩:∃ len,l.length=len:=⟨_,rfl⟩
 rw [hlen] at hle hle' hl Hr Hr' ⊢
 have Hlen:=Lib.hid hlen;clear hlen
 go_enter Tryz.func122,Tryz.ntmps122
 go_wp2
 go_loopw [5] (fun i wr=>∃ (k:Nat),k≤len∧i=.int .i64 k∧Bl w wr) (fun i _=>len - (intOf i).toNat)
 case atStart=>exact ⟨0,by omega,rfl,Bl.refl _⟩
 case round=>
  obtain ⟨k,hk,rfl,hB⟩:=hrel
  by_cases hlt:k < len
  ·obtain ⟨b,off,x,rfl,hx,hxs,c1⟩:=RStrs.at (RStrs.below Hr.out hB) k (by omega)
   obtain ⟨b',off',x',rfl,hx',hxs',c1'⟩:=RStrs.at (RStrs.below Hr'.out hB) k (by omega)
   have e:x'=x:=by rw [hx] at hx';exact (Option.some.inj hx').symm
   subst e
   have HB:=Lib.hid hB;clear hB hx hx'
   go_wp2
   go_quiet (fail)
   go_wp2
   go_roundw
   case rel=>exact ⟨k+1,by omega,by go_num,HB.out.drewN _⟩
   case measure=>simp [intOf];omega
  ·go_wp2
   go_ret
   exact ⟨rfl,hB⟩
end Go.Proofs.YtipdbeklopjbmaaGreatDoor
