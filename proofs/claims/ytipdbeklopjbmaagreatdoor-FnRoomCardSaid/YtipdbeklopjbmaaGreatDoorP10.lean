/-
  Texts laid together: DatV, DatMm, DatNs, GenXa, GenXb, DatDr, DatSl, DatFo.
-/
import Derived.Lib.ItoaNum
import Derived.Lib.ItoaMem
import Derived.Lib.ItoaLen
import Derived.Lib.AtoiAll
import Derived.Lib.HexFns2
import Derived.Test.YtipdbeklopjbmaaGreatDoorP08
import Derived.Test.YtipdbeklopjbmaaGreatDoorP09
set_option linter.unusedVariables false
set_option linter.unusedSimpArgs false
namespace Go.Proofs.YtipdbeklopjbmaaGreatDoor
open Go.ChangeShapes Go.WideShapes Go.ChangeAt Go.RowKit
set_option maxRecDepth 100000
set_option maxHeartbeats 1000000
def Jj (n:Int):ByteArray:=⟨(Lib.itoa n).toArray⟩
def J2g (l:List UInt8):Nat:=l.foldl (fun a c=>10 * a+(c.toNat - 48)) 0
theorem J9w (l:List UInt8) (c:UInt8):J2g (l++[c])=10 * J2g l+(c.toNat - 48):=by unfold J2g;rw [List.foldl_append];rfl
theorem J5e {d:Nat} (h:d < 10):(UInt8.ofNat (48+d)).toNat=48+d:=by rw [UInt8.toNat_ofNat'];omega
theorem J6R (u:Nat):J2g (Lib.decDigits u)=u:=by
 induction u using Nat.strongRecOn with
 | ind u ih=>
  rw [Lib.decDigits]
  split
  ·rename_i h
   show 10 * 0+((UInt8.ofNat (48+u)).toNat - 48)=u
   rw [J5e h];omega
  rename_i h
  rw [J9w,ih _ zO,J5e zO];omega
def isD (c:UInt8):Prop:=48≤c.toNat∧c.toNat≤57
theorem J6W (u:Nat):∀ c ∈ Lib.decDigits u,isD c:=by
 induction u using Nat.strongRecOn with
 | ind u ih=>
  rw [Lib.decDigits]
  split
  ·rename_i h
   intro c hc
   rw [List.mem_singleton.1 hc]
   unfold isD;rw [J5e h];omega
  rename_i h
  intro c hc
  rcases List.mem_append.1 hc with hc|hc
  ·exact ih _ zO c hc
  rw [List.mem_singleton.1 hc]
  unfold isD;rw [J5e zO];omega
theorem Jhb (u:Nat):Lib.decDigits u≠[]:=by
 rw [Lib.decDigits];split <;> simp
theorem J6X:∀ (k u:Nat),u < 10 ^ (k+1)→(Lib.decDigits u).length≤k+1
 | 0,u,h=>by rw [Lib.decDigits,dif_pos (by simpa using h)];simp
 | k+1,u,h=>by
  rw [Lib.decDigits]
  split
  ·simp
  rw [List.length_append]
  have:=J6X k (u / 10) (by rw [Nat.pow_succ] at h;omega)
  ((repeat (first|rw [List.length_append]|rw [List.length_cons]|rw [List.length_nil]|rw [List.length_take]|rw [List.length_drop])) <;> omega)
theorem J8U:∀ (l:List UInt8) (acc:Nat),(∀ c ∈ l,isD c)→l.foldl (fun a c=>10 * a+(c.toNat - 48)) acc < 1844674407370955162→Lib.parseUint10 acc l=.ok (l.foldl (fun a c=>10 * a+(c.toNat - 48)) acc)
 | [],acc,_,_=>rfl
 | c::l,acc,hd,h=>by
  have hc:=hd c (List.mem_cons_self ..)
  have hm:∀ (l:List UInt8) (a:Nat),a≤l.foldl (fun a (c:UInt8)=>10 * a+(c.toNat - 48)) a:=by
   intro l
   induction l with
   | nil=>intro a;exact Nat.le_refl _
   | cons d l ih=>intro a;exact Nat.le_trans zO (ih (10 * a+(d.toNat - 48)))
  have h1:=hm l (10 * acc+(c.toNat - 48))
  simp only [List.foldl_cons] at h
  unfold isD at hc
  simp only [Lib.parseUint10]
  rw [if_pos hc,if_neg zO,if_neg zO,show acc * 10+(c.toNat - 48)=10 * acc+(c.toNat - 48) by omega,J8U l _ (fun d hd'=>hd d (List.mem_cons_of_mem _ hd')) h]
  rfl
theorem J9C {u:Nat} (h:u≤1000000000):Lib.atoiAll (Lib.decDigits u)=.ok (u:Int):=by
 have ha:=J6W u
 have hv:=J6R u
 cases e:Lib.decDigits u with
 | nil=>exact absurd e (Jhb u)
 | cons c r=>
  rw [e] at ha hv
  have hc:=ha c (List.mem_cons_self ..)
  unfold isD at hc
  have hp:Lib.parseMag (c::r)=.ok u:=by
   unfold Lib.parseMag
   rw [if_neg (by simp),J8U _ 0 ha (by show J2g (c::r) < _;omega)]
   exact congrArg _ hv
  unfold Lib.atoiAll
  simp only
  rw [if_neg zO,hp]
  simp only
  rw [if_neg zO,if_neg zO,if_neg zO]
def J3I (s:ByteArray):Option Nat:=if J2g s.data.toList≤1000000000∧s=Jj (J2g s.data.toList) then some (J2g s.data.toList) else none
theorem J3p (u:Nat):(Jj (u:Int)).data.toList=Lib.decDigits u:=by
 unfold Jj;rw [Lib.itoa_nonneg]
theorem J6A {s:ByteArray} {n:Nat} : J3I s=some n ↔ n≤1000000000∧s=Jj n:=by
 unfold J3I
 constructor
 ·intro h
  split at h
  ·rename_i h1
   rw [← Option.some.inj h];exact h1
  cases h
 rintro ⟨h1,rfl⟩
 have hv:J2g (Jj (n:Int)).data.toList=n:=by rw [J3p,J6R]
 rw [hv,if_pos ⟨h1,rfl⟩]
def J0f (s:ByteArray):Nat:=(J3I s).getD 0
def J0v (s:ByteArray):Bool:=(J3I s).isSome
theorem Ja1 {s:ByteArray} {n:Nat} (h1:n≤1000000000) (h2:Jj n=s):J0f s=n∧J0v s=true:=by
 have:=J6A.2 ⟨h1,h2.symm⟩
 unfold J0f J0v;rw [this];exact ⟨rfl,rfl⟩
theorem J4A {s:ByteArray} (h:∀ n,n≤1000000000→Jj (n:Nat)≠s):J0f s=0∧J0v s=false:=by
 have:J3I s=none:=by
  cases e:J3I s with
  | none=>rfl
  | some n=>exact absurd (J6A.1 e).2.symm (h n (J6A.1 e).1)
 unfold J0f J0v;rw [this];exact ⟨rfl,rfl⟩
theorem JfS {s:ByteArray} (h:∀ v,Lib.atoiAll s.data.toList≠.ok v):J0f s=0∧J0v s=false:=J4A fun n hn e=>by
 subst e
 exact h n (by rw [J3p];exact J9C hn)
theorem J9Z {s:ByteArray} {v:Int} (h:Lib.atoiAll s.data.toList=.ok v) (hv:¬ (0≤v∧v≤1000000000)∨Jj v≠s):J0f s=0∧J0v s=false:=J4A fun n hn e=>by
 subst e
 rw [J3p,J9C hn] at h
 have:(n:Int)=v:=by injection h
 subst this
 rcases hv with hv|hv
 ·omega
 exact hv rfl
theorem JgJ {s:ByteArray} {v:Int} (hv:0≤v∧v≤1000000000) (h:Jj v=s):(J0f s:Int)=v∧J0v s=true:=by
 obtain ⟨n,rfl⟩:∃ n:Nat,v=n:=⟨v.toNat,zO⟩
 obtain ⟨h1,h2⟩:=Ja1 (n:=n) zO h
 exact ⟨by rw [h1],h2⟩
def J0r (s:ByteArray):Nat→Nat
 | 0=>0
 | k+1=>10 * J0r s k+(J5 s k - 48)
theorem J8L {s:ByteArray} {k:Nat} (h:k < s.data.toList.length):J5 s k=(s.data.toList[k]).toNat:=by unfold J5;rw [List.getElem?_eq_getElem h];rfl
theorem J9x (s:ByteArray):∀ k,k≤s.data.toList.length→J0r s k=J2g (s.data.toList.take k)
 | 0,_=>rfl
 | k+1,h=>by rw [J0r,J9x s k zO,List.take_succ_eq_append_getElem zO,J9w,J8L zO]
theorem J1A (s:ByteArray):s.size=s.data.toList.length:=by rw [Array.length_toList];rfl
theorem Jg4 (s:ByteArray):J0r s s.size=J2g s.data.toList:=by rw [J9x s _ (by rw [J1A];exact Nat.le_refl _),List.take_of_length_le (by rw [J1A];exact Nat.le_refl _)]
theorem JaG (s:ByteArray):∀ k,(∀ j,j < k→J5 s j≤57)→J0r s k < 10 ^ k
 | 0,_=>by simp [J0r]
 | k+1,h=>by
  have h1:=JaG s k fun j hj=>h j zO
  have h2:=h k zO
  rw [J0r,Nat.pow_succ];omega
theorem JgW {s:ByteArray} {k:Nat} (h:∀ j,j < k→48≤J5 s j∧J5 s j≤57) (hk:k≤10):J0r s k < 10000000000:=by
 have h1:=JaG s k fun j hj=>(h j hj).2
 have h2:(10:Nat) ^ k≤10 ^ 10:=Nat.pow_le_pow_right (by decide) hk
 have h3:(10:Nat) ^ 10=10000000000:=by decide
 omega
theorem J9o {s:ByteArray} (h:s.size > 10):J0f s=0∧J0v s=false:=J4A fun n hn e=>by
 subst e
 have h1:=J6X 9 n (by have:(10:Nat) ^ (9+1)=10000000000:=(by decide);omega)
 rw [J1A,J3p] at h
 omega
theorem J9Y {s:ByteArray} {k:Nat} (hk:k < s.size) (h:¬ (48≤J5 s k∧J5 s k≤57)):J0f s=0∧J0v s=false:=J4A fun n hn e=>by
 subst e
 rw [J1A] at hk
 rw [J8L hk] at h
 have:∀ c ∈ (Jj (n:Int)).data.toList,isD c:=by rw [J3p];exact J6W n
 exact h (this _ (List.getElem_mem hk))
theorem Ja0 {s:ByteArray} (h:¬ J0r s s.size≤1000000000∨Jj (J0r s s.size)≠s):J0f s=0∧J0v s=false:=J4A fun n hn e=>by
 subst e
 have hv:J0r (Jj (n:Int)) (Jj (n:Int)).size=n:=by rw [Jg4,J3p,J6R]
 rw [hv] at h
 rcases h with h|h
 ·omega
 exact h rfl
def J2e (u:Nat):List UInt8:=if u=0 then [] else Lib.decDigits u
theorem JeP (u:Nat) (h:u≠0):J2e u=J2e (u / 10)++[UInt8.ofNat (48+u % 10)]:=by
 unfold J2e
 rw [if_neg h,Lib.decDigits]
 split
 ·rename_i h1
  rw [if_pos zO,Nat.mod_eq_of_lt h1];rfl
 rename_i h1
 rw [if_neg zO]
def decInv (n0 m:Int) (s:ByteArray):Prop:=J2e n0.natAbs=J2e m.natAbs++s.data.toList∧(0≤n0→0≤m)∧(n0≤0→m≤0)∧m.natAbs≤n0.natAbs
theorem decInv.start (n0:Int):decInv n0 n0 ⟨#[]⟩:=⟨by simp,id,id,Nat.le_refl _⟩
theorem natAbs_tdiv (m:Int):(m.tdiv 10).natAbs=m.natAbs / 10:=by rw [Int.natAbs_tdiv];rfl
theorem decInv.step {n0 m:Int} {s x:ByteArray} {d:Nat} (h:decInv n0 m s) (hm:m≠0) (hd:(d:Int)=if m.tmod 10 < 0 then - m.tmod 10 else m.tmod 10) (hx:x.data.toList=[UInt8.ofNat (48+d)]):decInv n0 (m.tdiv 10) (x++s):=by
 obtain ⟨h1,h2,h3,h4⟩:=h
 have hmod:m.natAbs % 10=d:=by
  have:(m.tmod 10).natAbs=m.natAbs % 10:=Int.natAbs_tmod ..
  split at hd <;> omega
 refine ⟨?_,fun h=>Int.tdiv_nonneg (h2 h) (by decide),fun h=>?_,by rw [natAbs_tdiv];omega⟩
 ·rw [h1,natAbs_tdiv,JeP m.natAbs zO,hmod,ByteArray.data_append,Array.toList_append,hx,List.append_assoc]
 have:=h3 h
 have e:m.tdiv 10=- ((-m).tdiv 10):=by rw [Int.neg_tdiv,Int.neg_neg]
 have:=Int.tdiv_nonneg (a:=-m) (b:=10) zO (by decide)
 omega
theorem decInv.done {n0:Int} {s:ByteArray} (h:decInv n0 0 s) (h0:n0≠0) (hn:¬ n0 < 0):s=Jj n0:=by
 obtain ⟨h1,_,_,_⟩:=h
 apply ByteArray.ext
 apply Array.toList_inj.1
 have e1:J2e 0=[]:=rfl
 rw [Int.natAbs_zero,e1,List.nil_append] at h1
 rw [← h1]
 unfold J2e Jj Lib.itoa
 rw [if_neg zO,if_neg hn]
 have:n0.natAbs=n0.toNat:=by omega
 rw [this]
theorem decInv.doneN {n0:Int} {s:ByteArray} (h:decInv n0 0 s) (hn:n0 < 0):(⟨#[45]⟩:ByteArray)++s=Jj n0:=by
 obtain ⟨h1,_,_,_⟩:=h
 apply ByteArray.ext
 apply Array.toList_inj.1
 have e1:J2e 0=[]:=rfl
 rw [Int.natAbs_zero,e1,List.nil_append] at h1
 rw [ByteArray.data_append,Array.toList_append,← h1]
 unfold J2e Jj Lib.itoa
 rw [if_neg zO,if_pos hn]
 rfl
theorem decS_zero:Jj 0=⟨#[48]⟩:=by
 unfold Jj Lib.itoa
 rw [if_neg zO]
 show (⟨(Lib.decDigits 0).toArray⟩:ByteArray)=_
 rw [Lib.decDigits,dif_pos (by decide)]
 rfl
theorem J2i (n:Int) (h:J1 n):(Jj n).size≤21:=by
 unfold J1 at h
 have:=Lib.itoa_length_le n zO zO
 rw [J1A];exact this
def JS (s:ByteArray):Nat:=if J0f s≤999 then J0f s else 0
theorem J9U (s:ByteArray):JS s≤999:=by unfold JS;split <;> omega
def fig (x:Nat):Nat:=if x < 10 then 48+x else 87+x
theorem J5y {x:Nat} (h:x < 16):fig x < 256:=by unfold fig;split <;> omega
theorem J95 {x:Nat} (h:x < 16):(Lib.Hx.digit x).toNat=fig x:=by
 have:∀ x:Fin 16,(Lib.Hx.digit x.1).toNat=fig x.1:=by decide
 exact this ⟨x,h⟩
theorem JaF {x:Nat} (h:x < 16):Lib.Hx.v (Lib.Hx.digit x)=x:=by
 have:∀ x:Fin 16,Lib.Hx.v (Lib.Hx.digit x.1)=x.1:=by decide +kernel
 exact this ⟨x,h⟩
theorem J4V (d:List UInt8):Lib.Hx.decode (Lib.Hx.encode d)=(d,.ok):=by
 induction d with
 | nil=>exact Lib.Hx.decode_nil
 | cons b d ih=>
  have hb:=b.toNat_lt
  rw [Lib.Hx.encode_cons,Lib.Hx.decode_two,JaF zO,JaF zO,if_neg zO,if_neg zO,ih]
  have e:UInt8.ofNat (b.toNat / 16 * 16+b.toNat % 16)=b:=by
   rw [show b.toNat / 16 * 16+b.toNat % 16=b.toNat by omega];exact UInt8.ofNat_toNat
  rw [e]
def Js (s:ByteArray):ByteArray:=⟨(Lib.Hx.encode s.data.toList).toArray⟩
theorem J2H (s:ByteArray):(Js s).size=2 * s.size:=by
 rw [J1A,J1A];exact Lib.Hx.encode_length _
def J37 (s:ByteArray):Option ByteArray:=if Js ⟨(Lib.Hx.decode s.data.toList).1.toArray⟩=s∧(Lib.Hx.decode s.data.toList).1.length≤20000 then some ⟨(Lib.Hx.decode s.data.toList).1.toArray⟩ else none
theorem J58 {s t:ByteArray} : J37 s=some t ↔ Js t=s∧t.size≤20000:=by
 unfold J37
 constructor
 ·intro h
  split at h
  ·rename_i h1
   rw [← Option.some.inj h]
   exact ⟨h1.1,by rw [J1A];exact h1.2⟩
  cases h
 rintro ⟨rfl,h⟩
 have e:Lib.Hx.decode (Js t).data.toList=(t.data.toList,.ok):=J4V _
 rw [e,if_pos ⟨rfl,by rw [← J1A];exact h⟩]
def JK (s:ByteArray):ByteArray:=(J37 s).getD ⟨#[]⟩
def J0k (s:ByteArray):Bool:=(J37 s).isSome
theorem J9u {s t:ByteArray} (h1:Js t=s) (h2:t.size≤20000):JK s=t∧J0k s=true:=by
 unfold JK J0k;rw [J58.2 ⟨h1,h2⟩];exact ⟨rfl,rfl⟩
theorem J43 {s:ByteArray} (h:∀ t,t.size≤20000→Js t≠s):JK s=⟨#[]⟩∧J0k s=false:=by
 have:J37 s=none:=by
  cases e:J37 s with
  | none=>rfl
  | some t=>exact absurd (J58.1 e).1 (h t (J58.1 e).2)
 unfold JK J0k;rw [this];exact ⟨rfl,rfl⟩
theorem Je1 (s:ByteArray):(JK s).size≤20000:=by
 unfold JK
 cases e:J37 s with
 | none=>exact Nat.zero_le _
 | some t=>exact (J58.1 e).2
theorem Jfj {s:ByteArray} (h:(Lib.Hx.decode s.data.toList).2≠.ok):JK s=⟨#[]⟩∧J0k s=false:=J43 fun t _ e=>by
 subst e
 exact h (by rw [show Lib.Hx.decode (Js t).data.toList=(t.data.toList,.ok) from J4V _])
theorem JeB {s:ByteArray} (h:20000 < (Lib.Hx.decode s.data.toList).1.length):JK s=⟨#[]⟩∧J0k s=false:=J43 fun t ht e=>by
 subst e
 rw [show Lib.Hx.decode (Js t).data.toList=(t.data.toList,.ok) from J4V _,← J1A] at h
 exact absurd ht (by simpa using h)
theorem JeA {s:ByteArray} (h:Js ⟨(Lib.Hx.decode s.data.toList).1.toArray⟩≠s):JK s=⟨#[]⟩∧J0k s=false:=J43 fun t ht e=>by
 subst e
 rw [show Lib.Hx.decode (Js t).data.toList=(t.data.toList,.ok) from J4V _] at h
 exact h rfl
theorem JeC {s:ByteArray} (h1:¬ 20000 < (Lib.Hx.decode s.data.toList).1.length) (h2:Js ⟨(Lib.Hx.decode s.data.toList).1.toArray⟩=s):JK s=⟨(Lib.Hx.decode s.data.toList).1.toArray⟩∧J0k s=true:=J9u h2 (by rw [J1A];exact Nat.le_of_not_lt h1)
def J2S (d:List Nat):List Nat:=d.flatMap fun x=>[fig (x / 16),fig (x % 16)]
def J3c (s:ByteArray):Nat→List Nat
 | 0=>[]
 | k+1=>J3c s k++[fig (J5 s k / 16),fig (J5 s k % 16)]
def Jb (s:ByteArray):List Nat:=s.data.toList.map (·.toNat)
theorem J0A (s:ByteArray):(Jb s).length=s.size:=by rw [J1A];exact List.length_map ..
theorem J54 (l:List Nat):(Je l).data.toList=l.map UInt8.ofNat:=by
 have h:∀ (l:List Int) (s:ByteArray),(l.foldl (fun r n=>r.push (UInt8.ofNat n.toNat)) s).data.toList=s.data.toList++l.map (fun n=>UInt8.ofNat n.toNat):=by
  intro l
  induction l with
  | nil=>intro s;simp
  | cons x l ih=>intro s;rw [List.foldl_cons,ih,ByteArray.data_push,Array.toList_push];simp
 unfold Je
 rw [h,List.map_map]
 rfl
theorem J4p (d:List Nat) (h:∀ x ∈ d,x < 256):Jb (Je d)=d:=by
 unfold Jb
 rw [J54,List.map_map]
 have:∀ l:List Nat,(∀ x ∈ l,x < 256)→l.map ((fun x:UInt8=>x.toNat) ∘ UInt8.ofNat)=l:=by
  intro l
  induction l with
  | nil=>intro _;rfl
  | cons x l ih=>
   intro h
   rw [List.map_cons,ih fun y hy=>h y (List.mem_cons_of_mem _ hy)]
   have:=h x (List.mem_cons_self ..)
   congr 1
   show (UInt8.ofNat x).toNat=x
   rw [UInt8.toNat_ofNat'];omega
 exact this d h
theorem J6t {s t:ByteArray} (h:Jb s=Jb t):s=t:=by
 apply ByteArray.ext
 apply Array.toList_inj.1
 exact (List.map_inj_right (fun _ _=>UInt8.toNat_inj.1)).1 h
theorem J6l (s:ByteArray):Jb (Js s)=J2S (Jb s):=by
 unfold Jb Js
 simp only
 induction s.data.toList with
 | nil=>rfl
 | cons b l ih=>
  have hb:=b.toNat_lt
  rw [Lib.Hx.encode_cons]
  simp only [List.map_cons]
  rw [ih,J95 zO,J95 zO]
  rfl
theorem J4k (s:ByteArray) (k:Nat):J5 s k=((Jb s)[k]?).getD 0:=by unfold J5 Jb;rw [List.getElem?_map]
theorem J99 (s:ByteArray):∀ k,k≤s.size→J3c s k=J2S ((Jb s).take k)
 | 0,_=>rfl
 | k+1,h=>by
  have hk:k < (Jb s).length:=by rw [J0A];omega
  rw [J3c,J99 s k zO,List.take_succ_eq_append_getElem hk,J4k,List.getElem?_eq_getElem hk]
  unfold J2S
  rw [List.flatMap_append];rfl
theorem J8B (s:ByteArray):∀ k,(J3c s k).length=2 * k
 | 0=>rfl
 | k+1=>by rw [J3c,List.length_append,J8B s k];((repeat (first|rw [List.length_append]|rw [List.length_cons]|rw [List.length_nil]|rw [List.length_take]|rw [List.length_drop])) <;> omega)
theorem Jgl (d:List Nat) (h:∀ x ∈ d,x < 256):∀ y ∈ J2S d,y < 256:=by
 intro y hy
 unfold J2S at hy
 obtain ⟨x,hx,hy⟩:=List.mem_flatMap.1 hy
 have:=h x hx
 rcases List.mem_cons.1 hy with rfl|hy
 ·exact J5y zO
 rw [List.mem_singleton.1 hy];exact J5y zO
theorem J2F (s:ByteArray):∀ x ∈ Jb s,x < 256:=by
 intro x hx
 obtain ⟨b,_,rfl⟩:=List.mem_map.1 hx
 exact b.toNat_lt
theorem J9M (s:ByteArray) {k:Nat} (h1:¬ k < s.size) (h2:k≤s.size):Je (J3c s k)=Js s:=by
 apply J6t
 have hk:k=(Jb s).length:=by rw [J0A];omega
 rw [J99 s k h2,List.take_of_length_le zO,J4p _ (Jgl _ (J2F s)),J6l]
def Jy (x:Nat):Int:=if 48≤x∧x≤57 then (x:Int) - 48 else if 97≤x∧x≤102 then (x:Int) - 87 else -1
theorem J1d (x:Nat) : -1≤Jy x∧Jy x≤15:=by unfold Jy;split;omega;split <;> omega
theorem J9K {x:Nat} (h:¬ Jy x < 0):fig (Jy x).toNat=x:=by
 unfold Jy at *
 unfold fig
 split at h
 ·rename_i h1;rw [if_pos h1];split <;> omega
 rename_i h1
 split at h
 ·rename_i h2;rw [if_neg h1,if_pos h2];split <;> omega
 omega
theorem Jab {x:Nat} (h:x < 16):¬ Jy (fig x) < 0:=by
 unfold Jy fig
 split
 ·rw [if_pos zO];omega
 rw [if_neg zO,if_pos zO];omega
def unInv (s:ByteArray) (k:Nat) (D:List Nat):Prop:=D.length=k∧(∀ x ∈ D,x < 256)∧J2S D=(Jb s).take (2 * k)
theorem unInv.start (s:ByteArray):unInv s 0 []:=⟨rfl,fun _ h=>absurd h List.not_mem_nil,rfl⟩
theorem unInv.step {s:ByteArray} {k:Nat} {D:List Nat} (h:unInv s k D) (hk:2 * k+1 < s.size) (h1:¬ Jy (J5 s (2 * k)) < 0) (h2:¬ Jy (J5 s (2 * k+1)) < 0):unInv s (k+1) (D++[16 * (Jy (J5 s (2 * k))).toNat+(Jy (J5 s (2 * k+1))).toNat]):=by
 obtain ⟨g1,g2,g3⟩:=h
 have b1:=J1d (J5 s (2 * k))
 have b2:=J1d (J5 s (2 * k+1))
 refine ⟨by simp [g1],fun x hx=>?_,?_⟩
 ·rcases List.mem_append.1 hx with hx|hx
  ·exact g2 x hx
  rw [List.mem_singleton.1 hx];omega
 have hl:(Jb s).length=s.size:=J0A s
 have e1:=J4k s (2 * k)
 have e2:=J4k s (2 * k+1)
 rw [List.getElem?_eq_getElem zO] at e1 e2
 simp only [Option.getD_some] at e1 e2
 unfold J2S at *
 rw [List.flatMap_append,g3,show 2 * (k+1)=2 * k+1+1 by omega,List.take_succ_eq_append_getElem zO,List.take_succ_eq_append_getElem zO,List.append_assoc]
 congr 1
 rw [← e1,← e2]
 simp only [List.flatMap_cons,List.flatMap_nil,List.append_nil,List.cons_append,List.nil_append]
 rw [show (16 * (Jy (J5 s (2 * k))).toNat+(Jy (J5 s (2 * k+1))).toNat) / 16=(Jy (J5 s (2 * k))).toNat by omega,show (16 * (Jy (J5 s (2 * k))).toNat+(Jy (J5 s (2 * k+1))).toNat) % 16=(Jy (J5 s (2 * k+1))).toNat by omega,J9K h1,J9K h2]
theorem unInv.done {s:ByteArray} {k:Nat} {D:List Nat} (h:unInv s k D) (hk:s.size≤2 * k) (hs:s.size≤40000) (he:2 * k≤s.size):JK s=Je D∧J0k s=true:=by
 obtain ⟨g1,g2,g3⟩:=h
 refine J9u ?_ ?_
 ·apply J6t
  rw [J6l,J4p _ g2,g3,List.take_of_length_le (by rw [J0A];omega)]
 rw [J1n];omega
theorem J2l {s:ByteArray} (h:s.size % 2≠0):JK s=⟨#[]⟩∧J0k s=false:=J43 fun t _ e=>by
 subst e;rw [J2H] at h;omega
theorem J2k {s:ByteArray} (h:s.size > 40000):JK s=⟨#[]⟩∧J0k s=false:=J43 fun t _ e=>by
 subst e;rw [J2H] at h;omega
theorem J0Q {s:ByteArray} {k:Nat} (hk:k < s.size) (h:Jy (J5 s k) < 0):JK s=⟨#[]⟩∧J0k s=false:=J43 fun t _ e=>by
 subst e
 have hm:J5 (Js t) k ∈ J2S (Jb t):=by
  rw [J4k,← J6l,List.getElem?_eq_getElem (by rw [J0A];exact hk)]
  exact List.getElem_mem _
 unfold J2S at hm
 obtain ⟨x,hx,hy⟩:=List.mem_flatMap.1 hm
 have:=J2F t x hx
 rcases List.mem_cons.1 hy with e|hy
 ·rw [e] at h;exact Jab zO h
 rw [List.mem_singleton.1 hy] at h;exact Jab zO h
def J39 (s:ByteArray):ByteArray:=if J0h s ⟨#[45]⟩ then JK (s.extract 1 s.size) else ⟨#[]⟩
theorem Jbz {n:Int} (h:n=0):(⟨#[48]⟩:ByteArray)=Jj n:=by subst h;exact decS_zero.symm
theorem Jhf {z:Int} (h0:0≤z) (h:z < 10):(48+z).toNat=fig z.toNat:=by unfold fig;rw [if_pos zO];omega
theorem Jhe {z:Int} (h:¬ z < 10):(87+z).toNat=fig z.toNat:=by unfold fig;rw [if_neg zO];omega
theorem J9F (d:Nat):(Je [d]).data.toList=[UInt8.ofNat d]:=J54 [d]
theorem decInv.stepA {n0 m:Int} {s:ByteArray} (h:decInv n0 m s) (hm:m≠0) (hd:¬ m.tmod 10 < 0):decInv n0 (m.tdiv 10) (Je [fig (m.tmod 10).toNat]++s):=by
 have hb : -10 < m.tmod 10∧m.tmod 10 < 10:=J79 m (c:=10) (by decide)
 refine h.step (d:=(m.tmod 10).toNat) hm (by rw [if_neg hd];omega) ?_
 rw [J9F]
 unfold fig
 rw [if_pos zO]
theorem decInv.stepB {n0 m:Int} {s:ByteArray} (h:decInv n0 m s) (hm:m≠0) (hd:m.tmod 10 < 0):decInv n0 (m.tdiv 10) (Je [fig (-(m.tmod 10)).toNat]++s):=by
 have hb : -10 < m.tmod 10∧m.tmod 10 < 10:=J79 m (c:=10) (by decide)
 refine h.step (d:=(-(m.tmod 10)).toNat) hm (by rw [if_pos hd];omega) ?_
 rw [J9F]
 unfold fig
 rw [if_pos zO]
theorem Jfr {u:Nat} (h:u < 100000000000000000000):(J2e u).length≤20:=by
 unfold J2e
 split
 ·exact Nat.zero_le _
 exact J6X 19 u (by have:(10:Nat) ^ (19+1)=100000000000000000000:=(by decide);omega)
theorem decInv.size {n0 m:Int} {s:ByteArray} (h:decInv n0 m s) (h0:J1 n0):s.size≤20:=by
 have h1:=congrArg List.length h.1
 have h2:=Jfr (u:=n0.natAbs) (by unfold J1 at h0;omega)
 rw [List.length_append] at h1
 rw [J1A];omega
theorem decInv.i64 {n0 m:Int} {s:ByteArray} (h:decInv n0 m s) (h0:J1 n0):J1 m:=by
 obtain ⟨_,h1,h2,h3⟩:=h
 unfold J1 at *
 omega
theorem decInv.end1 {n0 m:Int} {s:ByteArray} (h:decInv n0 m s) (hm:¬ m≠0) (h0:¬ n0=0) (hn:¬ n0 < 0):s=Jj n0:=by
 have:m=0:=Classical.not_not.1 hm
 subst this
 exact h.done h0 hn
theorem decInv.end2 {n0 m:Int} {s:ByteArray} (h:decInv n0 m s) (hm:¬ m≠0) (hn:n0 < 0):(⟨#[45]⟩:ByteArray)++s=Jj n0:=by
 have:m=0:=Classical.not_not.1 hm
 subst this
 exact h.doneN hn
theorem Ja7 {m:Int} (h:m≠0):(m.tdiv 10).natAbs < m.natAbs:=by rw [natAbs_tdiv];omega
def Ju (head:ByteArray) (n:Int) (tail:ByteArray):ByteArray:=head++Jj n++tail
theorem JdU (head:ByteArray) {n:Int} (tail:ByteArray) (h:J1 n):(Ju head n tail).size≤head.size+21+tail.size:=by
 have:=J2i n h
 unfold Ju
 rw [ByteArray.size_append,ByteArray.size_append];omega
def J2A (n:Int):ByteArray:=if inB n 1 999 then Jj n else ⟨#[]⟩
theorem J59 {key:ByteArray} (h:J0L key=true):key.size≤40:=by
 unfold J0L at h
 rw [Bool.and_eq_true] at h
 have:=h.2
 unfold inB at this
 have:=of_decide_eq_true this
 omega
theorem J6j {s:List CellD} {key val:ByteArray} (h:∀ c ∈ s,c.key.size≤1048576∧c.val.size≤1048576):∀ c ∈ Jp s key val,c.key.size≤1048576∧c.val.size≤1048576:=by
 intro c hc
 unfold Jp at hc
 split at hc
 ·rename_i hk
  split at hc
  ·exact h c (J2h.1 hc).1
  unfold J1k JL at hc
  rcases List.mem_append.1 hc with hc|hc
  ·exact h c (J2h.1 (List.mem_of_mem_take hc)).1
  rcases List.mem_cons.1 hc with rfl|hc
  ·exact ⟨Nat.le_trans (J59 hk.1) (by decide),Nat.le_trans hk.2 (by decide)⟩
  exact h c (J2h.1 (List.mem_of_mem_drop hc)).1
 exact h c hc
theorem Jeb {l:List CellD} {key:ByteArray} : Jl l key=⟨#[]⟩∨∃ c ∈ l,c.val=Jl l key:=by
 unfold Jl
 cases h:l.find? (fun c:CellD=>decide (c.key=key)) with
 | none=>exact .inl rfl
 | some c=>exact .inr ⟨c,List.mem_of_find?_eq_some h,rfl⟩
theorem JgB {v:ByteArray} (h:¬ J0f v > 999):J0f v=JS v:=(if_pos (Nat.le_of_not_lt h)).symm
theorem JgA {v:ByteArray} (h:J0f v > 999):0=JS v:=(if_neg (Nat.not_le_of_gt h)).symm
theorem JfH {v:ByteArray} (h:(!J0v v)=true):0=JS v:=by
 unfold J0v at h
 unfold JS J0f
 cases e:J3I v with
 | none=>rfl
 | some n=>rw [e] at h;simp at h
theorem toList_append (a b:ByteArray):(a++b).data.toList=a.data.toList++b.data.toList:=by
 rw [ByteArray.data_append,Array.toList_append]
theorem J8g {a b c:ByteArray} (h:a++b=a++c):b=c:=by
 have:=congrArg (fun s:ByteArray=>s.data.toList) h
 simp only [toList_append] at this
 exact ByteArray.ext (Array.toList_inj.1 (List.append_cancel_left this))
theorem J8f (a b c:ByteArray):a++b++c=a++(b++c):=by
 apply ByteArray.ext;apply Array.toList_inj.1
 simp only [toList_append,List.append_assoc]
theorem J68 {a b:ByteArray} (h:0 < a.size):J5 (a++b) 0=J5 a 0:=by
 unfold J5
 rw [toList_append,List.getElem?_append_left (by rw [← J1A];exact h)]
theorem J5i {h t:ByteArray} {n:Int} (hh:0 < h.size):J5 (Ju h n t) 0=J5 h 0:=by
 unfold Ju
 rw [J68 (by rw [ByteArray.size_append];omega),J68 hh]
theorem J0K {x a b:Int} (h:inB x a b=true):a≤x∧x≤b:=of_decide_eq_true h
set_option maxRecDepth 100000
set_option maxHeartbeats 1000000
section
variable {P:Program} {ρ:Operand→Value} {w:World} {o:Oper} {x y:Operand} {ts:Array TypeId}
theorem JhG {m n:Int} (ho:o.op=.call { callee:=.builtin .min,args:=#[x,y],argTypes:=ts }) (hx:ρ x=.int .i64 m) (hy:ρ y=.int .i64 n):(execOp ρ o).run P w=.ok (.value (.int .i64 (min m n))) w:=by
 have e:(if n < m then n else m)=min m n:=by split <;> omega
 simp [execOp,ho,hx,hy,resolve,invoke,builtin,run_min_int2,e]
theorem JhF {m n:Int} (ho:o.op=.call { callee:=.builtin .max,args:=#[x,y],argTypes:=ts }) (hx:ρ x=.int .i64 m) (hy:ρ y=.int .i64 n):(execOp ρ o).run P w=.ok (.value (.int .i64 (max m n))) w:=by
 have e:(if n > m then n else m)=max m n:=by split <;> omega
 simp [execOp,ho,hx,hy,resolve,invoke,builtin,run_max_int2,e]
end
set_option maxRecDepth 100000
set_option maxHeartbeats 1000000
theorem J8Z {α β:Type} {f:α→β} {l:List α} {k:Nat} {x:α} (hx:nth l k=some x):(l.take (k+1)).map f=(l.take k).map f++[f x]:=by
 rw [J1l hx,List.map_append];rfl
structure JouD where
 text:ByteArray
 sure:Int
def J1R (j:JouD):Bool:=decide (j.text.size≤20000) && inB j.sure 0 j.text.size
def J10 (j:JouD) (n:Int):Bool:=J1R j && decide (n ≥ 0) && decide (n≤20000 - ((j.text.size:Nat):Int))
def J0I (l:List TxD):List Int:=(l.filter fun x=>decide (x.state=1)).map (·.id)
theorem J52 (l:List TxD):(J0I l).length≤l.length:=by
 unfold J0I
 rw [List.length_map];exact List.length_filter_le _ _
theorem Jas {l:List TxH} {k:Nat} {x:TxH} (hx:nth l k=some x) (h:x.d.state=1):J0I ((l.take (k+1)).map TxH.d)=J0I ((l.take k).map TxH.d)++[x.d.id]:=by
 rw [J8Z hx]
 unfold J0I
 rw [List.filter_append,List.map_append]
 simp [h]
theorem Jar {l:List TxH} {k:Nat} {x:TxH} (hx:nth l k=some x) (h:¬ x.d.state=1):J0I ((l.take (k+1)).map TxH.d)=J0I ((l.take k).map TxH.d):=by
 rw [J8Z hx]
 unfold J0I
 rw [List.filter_append,List.map_append]
 simp [h]
theorem J8S (l:List TxH) (k:Nat):(J0I ((l.take k).map TxH.d)).length≤k:=by
 have:=J52 ((l.take k).map TxH.d)
 rw [List.length_map,List.length_take] at this;omega
theorem J6h (l:List TxH):(J0I (l.map TxH.d)).length≤l.length:=by
 have:=J52 (l.map TxH.d)
 rwa [List.length_map] at this
def J0V (l:List TxD):Nat:=4000 * (J0I l).length
def J9E (n a b:Int):Int:=max a (min n b)
def J3d (j:JouD) (l:List TxD) (n:Int):Bool:=J10 j (J9E n 0 20000+((J0V l:Nat):Int))
theorem jo_f {j:JouD} (h:¬ j.text.size≤20000):false=J1R j:=by unfold J1R;rw [decide_eq_false h];rfl
theorem jo_t {j:JouD} (h:j.text.size≤20000):inB j.sure 0 ((j.text.size:Nat):Int)=J1R j:=by unfold J1R;rw [decide_eq_true h];rfl
theorem fr_a {j:JouD} {n:Int} (h:J1R j=false):false=J10 j n:=by unfold J10;rw [h];rfl
theorem fr_b {j:JouD} {n:Int} (h:J1R j=true) (h2:¬ n ≥ 0):false=J10 j n:=by unfold J10;rw [h,decide_eq_false h2];rfl
theorem fr_c {j:JouD} {n:Int} (h:J1R j=true) (h2:n ≥ 0):decide (n≤20000 - ((j.text.size:Nat):Int))=J10 j n:=by unfold J10;rw [h,decide_eq_true h2];rfl
theorem Jfl {l:List TxD} {n:Nat} (hn:n=l.length) (h:n≤1000):J0V l≤4000000:=by
 have:=J52 l
 unfold J0V;omega
theorem J9D {l:List TxH} {n:Nat} (hn:n=l.length) (h:n≤1048576):J0V (l.map TxH.d)≤4194304000:=by
 have:=J6h l
 unfold J0V;omega
set_option maxRecDepth 100000
set_option maxHeartbeats 1000000
set_option maxRecDepth 100000
set_option maxHeartbeats 1000000
set_option maxRecDepth 100000
set_option maxHeartbeats 1000000
set_option maxRecDepth 100000
set_option maxHeartbeats 1000000
section
variable {P:Program} {ρ:Operand→Value} {w:World} {o:Oper} {x y:Operand} {t u:TypeId}
theorem JhJ {m c:Nat} {n:Int} (hn:n=(c:Int)) (hc:0 < c) (ho:o.op=.binOp .rem t x y u) (hx:ρ x=.int .i64 ((m:Nat):Int)) (hy:ρ y=.int .i64 n):(execOp ρ o).run P w=.ok (.value (.int .i64 ((m % c:Nat):Int))) w:=by
 subst hn
 have:=J7v (P:=P) (w:=w) (n:=(c:Int)) zO ho hx hy
 simpa using this
end
set_option maxRecDepth 100000
set_option maxHeartbeats 1000000
end Go.Proofs.YtipdbeklopjbmaaGreatDoor
