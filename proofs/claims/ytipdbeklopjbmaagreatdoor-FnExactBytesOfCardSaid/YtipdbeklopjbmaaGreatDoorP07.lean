/-
  Texts laid together: Tab, DatV, DatMm, DatNs, GenNsa, Law, Law3, LawNd, DatDr, DatSl, DatFo.
-/
import Derived.Lib.LaidTab
import Derived.Test.YtipdbeklopjbmaaGreatDoorP06
import Derived.Test.YtipdbeklopjbmaaGreatDoorP02
import Derived.Lib.ItoaNum
import Derived.Lib.ItoaMem
import Derived.Lib.ItoaLen
import Derived.Lib.AtoiAll
import Derived.Lib.HexFns2
import Derived.Test.YtipdbeklopjbmaaGreatDoorP04
import Derived.Stop.LaidErr
import Derived.LaidMore
import Derived.LaidHandle
import Derived.MakeChecks
import Derived.OpenShut
import Derived.Test.YtipdbeklopjbmaaGreatDoorTie
import Derived.Test.YtipdbeklopjbmaaGreatDoorCards
import Derived.Lay
set_option linter.unusedVariables false
set_option linter.unusedSimpArgs false
namespace Go.Proofs.YtipdbeklopjbmaaGreatDoor
open Go.ChangeShapes Go.WideShapes Go.ChangeAt Go.RowKit
def Ground:Nat→World→Prop
 | 0,w=>Lib.TabIs Tryz.prog w "internal/strconv.uint64pow10" .u64 Lib.pow10Tab
 | 1,w=>(∃ ev,w.cell? ⟨laysAtoi_ren.g 15,0,none⟩=some ev∧errV ev)∧∃ ev,w.cell? ⟨laysAtoi_ren.g 16,0,none⟩=some ev∧errV ev
 | _,w=>∃ ev,w.cell? ⟨laysUnhex_ren.g 0,0,none⟩=some ev∧errV ev
def GS:Nat→List Nat
 | 0=>[laysItoa_ren.g 17]
 | 1=>[laysAtoi_ren.g 15,laysAtoi_ren.g 16]
 | _=>[laysUnhex_ren.g 0]
theorem cell_same {w w':World} {g:Nat} (e:w'.heap[g]? = w.heap[g]?):w'.cell? ⟨g,0,none⟩=w.cell? ⟨g,0,none⟩:=by
 unfold World.cell?
 simp only [e]
theorem Ground.same:∀ {K:Nat} {w w':World},Ground K w→(∀ g ∈ GS K,w'.heap[g]? = w.heap[g]?)→Ground K w'
 | 0,w,w',h,e=>by
  have hg:Tryz.prog.globalNamed "internal/strconv.uint64pow10"=some (laysItoa_ren.g 17):=laysItoa.m17
  have e:=e _ (List.mem_singleton.2 rfl)
  generalize laysItoa_ren.g 17=g at hg e
  have h2:∀ v:World,v.var? Tryz.prog "internal/strconv.uint64pow10"=match v.heap[g]? with
   | some (.cells cs _ _)=>some cs
   | _=>none:=fun v=>by unfold World.var?;rw [hg];rfl
  show w'.var? _ _=_
  have h3:w.var? Tryz.prog "internal/strconv.uint64pow10"=_:=h
  rw [h2,e,← h2];exact h3
 | 1,w,w',⟨h1,h2⟩,e=>by
  have e1:=cell_same (e _ (List.mem_cons_self ..))
  have e2:=cell_same (e _ (List.mem_cons_of_mem _ (List.mem_singleton.2 rfl)))
  show (∃ ev,w'.cell? ⟨laysAtoi_ren.g 15,0,none⟩=some ev∧errV ev)∧∃ ev,w'.cell? ⟨laysAtoi_ren.g 16,0,none⟩=some ev∧errV ev
  rw [e1,e2];exact ⟨h1,h2⟩
 | _+2,w,w',h,e=>by
  have e1:=cell_same (e _ (List.mem_singleton.2 rfl))
  show ∃ ev,w'.cell? ⟨laysUnhex_ren.g 0,0,none⟩=some ev∧errV ev
  rw [e1];exact h
def Tb (K:Nat) (H:Nat→Prop) (w:World):Prop:=Ground K w∧∀ g ∈ GS K,H g∧g < w.heap.size
section
variable {K:Nat} {H:Nat→Prop} {w:World}
theorem Tb.mono {H':Nat→Prop} (h:Tb K H w) (hH:∀ b,H b→H' b):Tb K H' w:=⟨h.1,fun g hg=>⟨hH _ (h.2 g hg).1,(h.2 g hg).2⟩⟩
theorem Tb.top (h:Tb K H w):Tb K (fun _=>True) w:=h.mono fun _ _=>trivial
theorem Tb.start {L:List Atom} (h:Tb K H w) (hL:∀ b,H b→¬ fps L b):Tb K (V H w L) w:=h.1 |> fun h1=>⟨h1,fun g hg=>⟨⟨.inl (h.2 g hg).1,hL _ (h.2 g hg).1⟩,(h.2 g hg).2⟩⟩
theorem Tb.mv {G:Nat→Prop} {w0 w':World} {L L':List Atom} (h:Tb K (V G w0 L) w) (m:Mv L w L' w'):Tb K (V G w0 L') w':=
 ⟨h.1.same fun g hg=>m.kp.block g (h.2 g hg).2 (h.2 g hg).1.2,fun g hg=>by
  have h1:=h.2 g hg
  refine ⟨⟨h1.1.1,fun hf=>?_⟩,Nat.lt_of_lt_of_le h1.2 m.kp.size⟩
  rcases m.fresh g hf with h2|h2
  ·exact h1.1.2 h2
  ·omega⟩
end
theorem mv_below {w w':World} (h:Below w.heap.size w w'):Mv [] w [] w':=⟨At.nil _,fun _ h=>.inl h,⟨h.os,h.tape,h.output,h.size,fun k hk _=>h.block k hk⟩⟩
theorem below_grow (w:World) (k:Nat) (os:Array Obj):Below w.heap.size w (Sort.grow (w.drewN k) os):=⟨rfl,rfl,rfl,by simp [Sort.grow],fun i hi=>by simp [Sort.grow,Array.getElem?_append_left hi]⟩
def atoiR (s:ByteArray) (r:Int) (ev:Value):Prop:=(Lib.atoiAll s.data.toList=.ok r∧ev=.nilIface)∨((∀ v,Lib.atoiAll s.data.toList≠.ok v)∧isErr ev=true)
set_option maxRecDepth 100000
set_option maxHeartbeats 1000000
def decS (n:Int):ByteArray:=⟨(Lib.itoa n).toArray⟩
def valL (l:List UInt8):Nat:=l.foldl (fun a c=>10 * a+(c.toNat - 48)) 0
theorem valL_snoc (l:List UInt8) (c:UInt8):valL (l++[c])=10 * valL l+(c.toNat - 48):=by unfold valL;rw [List.foldl_append];rfl
theorem fig_toNat {d:Nat} (h:d < 10):(UInt8.ofNat (48+d)).toNat=48+d:=by rw [UInt8.toNat_ofNat'];omega
theorem valL_dec (u:Nat):valL (Lib.decDigits u)=u:=by
 induction u using Nat.strongRecOn with
 | ind u ih=>
  rw [Lib.decDigits]
  split
  ·rename_i h
   show 10 * 0+((UInt8.ofNat (48+u)).toNat - 48)=u
   rw [fig_toNat h];omega
  ·rename_i h
   rw [valL_snoc,ih _ (by omega),fig_toNat (by omega)];omega
def isD (c:UInt8):Prop:=48≤c.toNat∧c.toNat≤57
theorem dec_all (u:Nat):∀ c ∈ Lib.decDigits u,isD c:=by
 induction u using Nat.strongRecOn with
 | ind u ih=>
  rw [Lib.decDigits]
  split
  ·rename_i h
   intro c hc
   rw [List.mem_singleton.1 hc]
   unfold isD;rw [fig_toNat h];omega
  ·rename_i h
   intro c hc
   rcases List.mem_append.1 hc with hc|hc
   ·exact ih _ (by omega) c hc
   ·rw [List.mem_singleton.1 hc]
    unfold isD;rw [fig_toNat (by omega)];omega
theorem dec_ne (u:Nat):Lib.decDigits u≠[]:=by
 rw [Lib.decDigits];split <;> simp
theorem dec_len:∀ (k u:Nat),u < 10 ^ (k+1)→(Lib.decDigits u).length≤k+1
 | 0,u,h=>by rw [Lib.decDigits,dif_pos (by simpa using h)];simp
 | k+1,u,h=>by
  rw [Lib.decDigits]
  split
  ·simp
  ·rw [List.length_append]
   have:=dec_len k (u / 10) (by rw [Nat.pow_succ] at h;omega)
   ((repeat (first|rw [List.length_append]|rw [List.length_cons]|rw [List.length_nil]|rw [List.length_take]|rw [List.length_drop])) <;> omega)
theorem parse_step:∀ (l:List UInt8) (acc:Nat),(∀ c ∈ l,isD c)→l.foldl (fun a c=>10 * a+(c.toNat - 48)) acc < 1844674407370955162→Lib.parseUint10 acc l=.ok (l.foldl (fun a c=>10 * a+(c.toNat - 48)) acc)
 | [],acc,_,_=>rfl
 | c::l,acc,hd,h=>by
  have hc:=hd c (List.mem_cons_self ..)
  have hm:∀ (l:List UInt8) (a:Nat),a≤l.foldl (fun a (c:UInt8)=>10 * a+(c.toNat - 48)) a:=by
   intro l
   induction l with
   | nil=>intro a;exact Nat.le_refl _
   | cons d l ih=>intro a;exact Nat.le_trans (by omega) (ih (10 * a+(d.toNat - 48)))
  have h1:=hm l (10 * acc+(c.toNat - 48))
  simp only [List.foldl_cons] at h
  unfold isD at hc
  simp only [Lib.parseUint10]
  rw [if_pos hc,if_neg (by omega),if_neg (by omega),show acc * 10+(c.toNat - 48)=10 * acc+(c.toNat - 48) by omega,parse_step l _ (fun d hd'=>hd d (List.mem_cons_of_mem _ hd')) h]
  rfl
theorem atoi_dec {u:Nat} (h:u≤1000000000):Lib.atoiAll (Lib.decDigits u)=.ok (u:Int):=by
 have ha:=dec_all u
 have hv:=valL_dec u
 cases e:Lib.decDigits u with
 | nil=>exact absurd e (dec_ne u)
 | cons c r=>
  rw [e] at ha hv
  have hc:=ha c (List.mem_cons_self ..)
  unfold isD at hc
  have hp:Lib.parseMag (c::r)=.ok u:=by
   unfold Lib.parseMag
   rw [if_neg (by simp),parse_step _ 0 ha (by show valL (c::r) < _;omega)]
   exact congrArg _ hv
  unfold Lib.atoiAll
  simp only
  rw [if_neg (by omega),hp]
  simp only
  rw [if_neg (by omega),if_neg (by omega),if_neg (by omega)]
def readD (s:ByteArray):Option Nat:=if valL s.data.toList≤1000000000∧s=decS (valL s.data.toList) then some (valL s.data.toList) else none
theorem decS_toList (u:Nat):(decS (u:Int)).data.toList=Lib.decDigits u:=by
 unfold decS;rw [Lib.itoa_nonneg]
theorem readD_some {s:ByteArray} {n:Nat} : readD s=some n ↔ n≤1000000000∧s=decS n:=by
 unfold readD
 constructor
 ·intro h
  split at h
  ·rename_i h1
   rw [← Option.some.inj h];exact h1
  ·cases h
 ·rintro ⟨h1,rfl⟩
  have hv:valL (decS (n:Int)).data.toList=n:=by rw [decS_toList,valL_dec]
  rw [hv,if_pos ⟨h1,rfl⟩]
def readN (s:ByteArray):Nat:=(readD s).getD 0
def readB (s:ByteArray):Bool:=(readD s).isSome
theorem read_yes {s:ByteArray} {n:Nat} (h1:n≤1000000000) (h2:decS n=s):readN s=n∧readB s=true:=by
 have:=readD_some.2 ⟨h1,h2.symm⟩
 unfold readN readB;rw [this];exact ⟨rfl,rfl⟩
theorem read_no {s:ByteArray} (h:∀ n,n≤1000000000→decS (n:Nat)≠s):readN s=0∧readB s=false:=by
 have:readD s=none:=by
  cases e:readD s with
  | none=>rfl
  | some n=>exact absurd (readD_some.1 e).2.symm (h n (readD_some.1 e).1)
 unfold readN readB;rw [this];exact ⟨rfl,rfl⟩
theorem read_bad {s:ByteArray} (h:∀ v,Lib.atoiAll s.data.toList≠.ok v):readN s=0∧readB s=false:=read_no fun n hn e=>by
 subst e
 exact h n (by rw [decS_toList];exact atoi_dec hn)
theorem read_out {s:ByteArray} {v:Int} (h:Lib.atoiAll s.data.toList=.ok v) (hv:¬ (0≤v∧v≤1000000000)∨decS v≠s):readN s=0∧readB s=false:=read_no fun n hn e=>by
 subst e
 rw [decS_toList,atoi_dec hn] at h
 have:(n:Int)=v:=by injection h
 subst this
 rcases hv with hv|hv
 ·omega
 ·exact hv rfl
theorem read_in {s:ByteArray} {v:Int} (hv:0≤v∧v≤1000000000) (h:decS v=s):(readN s:Int)=v∧readB s=true:=by
 obtain ⟨n,rfl⟩:∃ n:Nat,v=n:=⟨v.toNat,by omega⟩
 obtain ⟨h1,h2⟩:=read_yes (n:=n) (by omega) h
 exact ⟨by rw [h1],h2⟩
def valN (s:ByteArray):Nat→Nat
 | 0=>0
 | k+1=>10 * valN s k+(byteAt s k - 48)
theorem byteAt_get {s:ByteArray} {k:Nat} (h:k < s.data.toList.length):byteAt s k=(s.data.toList[k]).toNat:=by unfold byteAt;rw [List.getElem?_eq_getElem h];rfl
theorem valN_take (s:ByteArray):∀ k,k≤s.data.toList.length→valN s k=valL (s.data.toList.take k)
 | 0,_=>rfl
 | k+1,h=>by rw [valN,valN_take s k (by omega),List.take_succ_eq_append_getElem (by omega),valL_snoc,byteAt_get (by omega)]
theorem size_toList (s:ByteArray):s.size=s.data.toList.length:=by rw [Array.length_toList];rfl
theorem valN_all (s:ByteArray):valN s s.size=valL s.data.toList:=by rw [valN_take s _ (by rw [size_toList];exact Nat.le_refl _),List.take_of_length_le (by rw [size_toList];exact Nat.le_refl _)]
theorem valN_lt (s:ByteArray):∀ k,(∀ j,j < k→byteAt s j≤57)→valN s k < 10 ^ k
 | 0,_=>by simp [valN]
 | k+1,h=>by
  have h1:=valN_lt s k fun j hj=>h j (by omega)
  have h2:=h k (by omega)
  rw [valN,Nat.pow_succ];omega
theorem valN_le {s:ByteArray} {k:Nat} (h:∀ j,j < k→48≤byteAt s j∧byteAt s j≤57) (hk:k≤10):valN s k < 10000000000:=by
 have h1:=valN_lt s k fun j hj=>(h j hj).2
 have h2:(10:Nat) ^ k≤10 ^ 10:=Nat.pow_le_pow_right (by decide) hk
 have h3:(10:Nat) ^ 10=10000000000:=by decide
 omega
theorem read_long {s:ByteArray} (h:s.size > 10):readN s=0∧readB s=false:=read_no fun n hn e=>by
 subst e
 have h1:=dec_len 9 n (by have:(10:Nat) ^ (9+1)=10000000000:=(by decide);omega)
 rw [size_toList,decS_toList] at h
 omega
theorem read_fig {s:ByteArray} {k:Nat} (hk:k < s.size) (h:¬ (48≤byteAt s k∧byteAt s k≤57)):readN s=0∧readB s=false:=read_no fun n hn e=>by
 subst e
 rw [size_toList] at hk
 rw [byteAt_get hk] at h
 have:∀ c ∈ (decS (n:Int)).data.toList,isD c:=by rw [decS_toList];exact dec_all n
 exact h (this _ (List.getElem_mem hk))
theorem read_val {s:ByteArray} (h:¬ valN s s.size≤1000000000∨decS (valN s s.size)≠s):readN s=0∧readB s=false:=read_no fun n hn e=>by
 subst e
 have hv:valN (decS (n:Int)) (decS (n:Int)).size=n:=by rw [valN_all,decS_toList,valL_dec]
 rw [hv] at h
 rcases h with h|h
 ·omega
 ·exact h rfl
def digL (u:Nat):List UInt8:=if u=0 then [] else Lib.decDigits u
theorem digL_step (u:Nat) (h:u≠0):digL u=digL (u / 10)++[UInt8.ofNat (48+u % 10)]:=by
 unfold digL
 rw [if_neg h,Lib.decDigits]
 split
 ·rename_i h1
  rw [if_pos (by omega),Nat.mod_eq_of_lt h1];rfl
 ·rename_i h1
  rw [if_neg (by omega)]
def decInv (n0 m:Int) (s:ByteArray):Prop:=digL n0.natAbs=digL m.natAbs++s.data.toList∧(0≤n0→0≤m)∧(n0≤0→m≤0)∧m.natAbs≤n0.natAbs
theorem decInv.start (n0:Int):decInv n0 n0 ⟨#[]⟩:=⟨by simp,id,id,Nat.le_refl _⟩
theorem natAbs_tdiv (m:Int):(m.tdiv 10).natAbs=m.natAbs / 10:=by rw [Int.natAbs_tdiv];rfl
theorem decInv.step {n0 m:Int} {s x:ByteArray} {d:Nat} (h:decInv n0 m s) (hm:m≠0) (hd:(d:Int)=if m.tmod 10 < 0 then - m.tmod 10 else m.tmod 10) (hx:x.data.toList=[UInt8.ofNat (48+d)]):decInv n0 (m.tdiv 10) (x++s):=by
 obtain ⟨h1,h2,h3,h4⟩:=h
 have hmod:m.natAbs % 10=d:=by
  have:(m.tmod 10).natAbs=m.natAbs % 10:=Int.natAbs_tmod ..
  split at hd <;> omega
 refine ⟨?_,fun h=>Int.tdiv_nonneg (h2 h) (by decide),fun h=>?_,by rw [natAbs_tdiv];omega⟩
 ·rw [h1,natAbs_tdiv,digL_step m.natAbs (by omega),hmod,ByteArray.data_append,Array.toList_append,hx,List.append_assoc]
 ·have:=h3 h
  have e:m.tdiv 10=- ((-m).tdiv 10):=by rw [Int.neg_tdiv,Int.neg_neg]
  have:=Int.tdiv_nonneg (a:=-m) (b:=10) (by omega) (by decide)
  omega
theorem decInv.done {n0:Int} {s:ByteArray} (h:decInv n0 0 s) (h0:n0≠0) (hn:¬ n0 < 0):s=decS n0:=by
 obtain ⟨h1,_,_,_⟩:=h
 apply ByteArray.ext
 apply Array.toList_inj.1
 have e1:digL 0=[]:=rfl
 rw [Int.natAbs_zero,e1,List.nil_append] at h1
 rw [← h1]
 unfold digL decS Lib.itoa
 rw [if_neg (by omega),if_neg hn]
 have:n0.natAbs=n0.toNat:=by omega
 rw [this]
theorem decInv.doneN {n0:Int} {s:ByteArray} (h:decInv n0 0 s) (hn:n0 < 0):(⟨#[45]⟩:ByteArray)++s=decS n0:=by
 obtain ⟨h1,_,_,_⟩:=h
 apply ByteArray.ext
 apply Array.toList_inj.1
 have e1:digL 0=[]:=rfl
 rw [Int.natAbs_zero,e1,List.nil_append] at h1
 rw [ByteArray.data_append,Array.toList_append,← h1]
 unfold digL decS Lib.itoa
 rw [if_neg (by omega),if_pos hn]
 rfl
theorem decS_zero:decS 0=⟨#[48]⟩:=by
 unfold decS Lib.itoa
 rw [if_neg (by omega)]
 show (⟨(Lib.decDigits 0).toArray⟩:ByteArray)=_
 rw [Lib.decDigits,dif_pos (by decide)]
 rfl
theorem decS_size (n:Int) (h:i64ok n):(decS n).size≤21:=by
 unfold i64ok at h
 have:=Lib.itoa_length_le n (by omega) (by omega)
 rw [size_toList];exact this
def numOf (s:ByteArray):Nat:=if readN s≤999 then readN s else 0
theorem numOf_le (s:ByteArray):numOf s≤999:=by unfold numOf;split <;> omega
def fig (x:Nat):Nat:=if x < 10 then 48+x else 87+x
theorem fig_lt {x:Nat} (h:x < 16):fig x < 256:=by unfold fig;split <;> omega
theorem digit_fig {x:Nat} (h:x < 16):(Lib.Hx.digit x).toNat=fig x:=by
 have:∀ x:Fin 16,(Lib.Hx.digit x.1).toNat=fig x.1:=by decide
 exact this ⟨x,h⟩
theorem v_digit {x:Nat} (h:x < 16):Lib.Hx.v (Lib.Hx.digit x)=x:=by
 have:∀ x:Fin 16,Lib.Hx.v (Lib.Hx.digit x.1)=x.1:=by decide +kernel
 exact this ⟨x,h⟩
theorem decode_encode (d:List UInt8):Lib.Hx.decode (Lib.Hx.encode d)=(d,.ok):=by
 induction d with
 | nil=>exact Lib.Hx.decode_nil
 | cons b d ih=>
  have hb:=b.toNat_lt
  rw [Lib.Hx.encode_cons,Lib.Hx.decode_two,v_digit (by omega),v_digit (by omega),if_neg (by omega),if_neg (by omega),ih]
  have e:UInt8.ofNat (b.toNat / 16 * 16+b.toNat % 16)=b:=by
   rw [show b.toNat / 16 * 16+b.toNat % 16=b.toNat by omega];exact UInt8.ofNat_toNat
  rw [e]
def hexS (s:ByteArray):ByteArray:=⟨(Lib.Hx.encode s.data.toList).toArray⟩
theorem hexS_size (s:ByteArray):(hexS s).size=2 * s.size:=by
 rw [size_toList,size_toList];exact Lib.Hx.encode_length _
def unhexO (s:ByteArray):Option ByteArray:=if hexS ⟨(Lib.Hx.decode s.data.toList).1.toArray⟩=s∧(Lib.Hx.decode s.data.toList).1.length≤20000 then some ⟨(Lib.Hx.decode s.data.toList).1.toArray⟩ else none
theorem unhexO_some {s t:ByteArray} : unhexO s=some t ↔ hexS t=s∧t.size≤20000:=by
 unfold unhexO
 constructor
 ·intro h
  split at h
  ·rename_i h1
   rw [← Option.some.inj h]
   exact ⟨h1.1,by rw [size_toList];exact h1.2⟩
  ·cases h
 ·rintro ⟨rfl,h⟩
  have e:Lib.Hx.decode (hexS t).data.toList=(t.data.toList,.ok):=decode_encode _
  rw [e,if_pos ⟨rfl,by rw [← size_toList];exact h⟩]
def unhexT (s:ByteArray):ByteArray:=(unhexO s).getD ⟨#[]⟩
def unhexB (s:ByteArray):Bool:=(unhexO s).isSome
theorem unhex_yes {s t:ByteArray} (h1:hexS t=s) (h2:t.size≤20000):unhexT s=t∧unhexB s=true:=by
 unfold unhexT unhexB;rw [unhexO_some.2 ⟨h1,h2⟩];exact ⟨rfl,rfl⟩
theorem unhex_no {s:ByteArray} (h:∀ t,t.size≤20000→hexS t≠s):unhexT s=⟨#[]⟩∧unhexB s=false:=by
 have:unhexO s=none:=by
  cases e:unhexO s with
  | none=>rfl
  | some t=>exact absurd (unhexO_some.1 e).1 (h t (unhexO_some.1 e).2)
 unfold unhexT unhexB;rw [this];exact ⟨rfl,rfl⟩
theorem unhexT_size (s:ByteArray):(unhexT s).size≤20000:=by
 unfold unhexT
 cases e:unhexO s with
 | none=>exact Nat.zero_le _
 | some t=>exact (unhexO_some.1 e).2
theorem unhex_err {s:ByteArray} (h:(Lib.Hx.decode s.data.toList).2≠.ok):unhexT s=⟨#[]⟩∧unhexB s=false:=unhex_no fun t _ e=>by
 subst e
 exact h (by rw [show Lib.Hx.decode (hexS t).data.toList=(t.data.toList,.ok) from decode_encode _])
theorem unhex_long {s:ByteArray} (h:20000 < (Lib.Hx.decode s.data.toList).1.length):unhexT s=⟨#[]⟩∧unhexB s=false:=unhex_no fun t ht e=>by
 subst e
 rw [show Lib.Hx.decode (hexS t).data.toList=(t.data.toList,.ok) from decode_encode _,← size_toList] at h
 exact absurd ht (by simpa using h)
theorem unhex_back {s:ByteArray} (h:hexS ⟨(Lib.Hx.decode s.data.toList).1.toArray⟩≠s):unhexT s=⟨#[]⟩∧unhexB s=false:=unhex_no fun t ht e=>by
 subst e
 rw [show Lib.Hx.decode (hexS t).data.toList=(t.data.toList,.ok) from decode_encode _] at h
 exact h rfl
theorem unhex_well {s:ByteArray} (h1:¬ 20000 < (Lib.Hx.decode s.data.toList).1.length) (h2:hexS ⟨(Lib.Hx.decode s.data.toList).1.toArray⟩=s):unhexT s=⟨(Lib.Hx.decode s.data.toList).1.toArray⟩∧unhexB s=true:=unhex_yes h2 (by rw [size_toList];exact Nat.le_of_not_lt h1)
def hexL (d:List Nat):List Nat:=d.flatMap fun x=>[fig (x / 16),fig (x % 16)]
def hexN (s:ByteArray):Nat→List Nat
 | 0=>[]
 | k+1=>hexN s k++[fig (byteAt s k / 16),fig (byteAt s k % 16)]
def bytesN (s:ByteArray):List Nat:=s.data.toList.map (·.toNat)
theorem bytesN_length (s:ByteArray):(bytesN s).length=s.size:=by rw [size_toList];exact List.length_map ..
theorem bstr_toList (l:List Nat):(bstr l).data.toList=l.map UInt8.ofNat:=by
 have h:∀ (l:List Int) (s:ByteArray),(l.foldl (fun r n=>r.push (UInt8.ofNat n.toNat)) s).data.toList=s.data.toList++l.map (fun n=>UInt8.ofNat n.toNat):=by
  intro l
  induction l with
  | nil=>intro s;simp
  | cons x l ih=>intro s;rw [List.foldl_cons,ih,ByteArray.data_push,Array.toList_push];simp
 unfold bstr
 rw [h,List.map_map]
 rfl
theorem bytesN_bstr (d:List Nat) (h:∀ x ∈ d,x < 256):bytesN (bstr d)=d:=by
 unfold bytesN
 rw [bstr_toList,List.map_map]
 have:∀ l:List Nat,(∀ x ∈ l,x < 256)→l.map ((fun x:UInt8=>x.toNat) ∘ UInt8.ofNat)=l:=by
  intro l
  induction l with
  | nil=>intro _;rfl
  | cons x l ih=>
   intro h
   rw [List.map_cons,ih fun y hy=>h y (List.mem_cons_of_mem _ hy)]
   have:=h x (List.mem_cons_self ..)
   congr 1
   show (UInt8.ofNat x).toNat=x
   rw [UInt8.toNat_ofNat'];omega
 exact this d h
theorem bytesN_inj {s t:ByteArray} (h:bytesN s=bytesN t):s=t:=by
 apply ByteArray.ext
 apply Array.toList_inj.1
 exact (List.map_inj_right (fun _ _=>UInt8.toNat_inj.1)).1 h
theorem bytesN_hexS (s:ByteArray):bytesN (hexS s)=hexL (bytesN s):=by
 unfold bytesN hexS
 simp only
 induction s.data.toList with
 | nil=>rfl
 | cons b l ih=>
  have hb:=b.toNat_lt
  rw [Lib.Hx.encode_cons]
  simp only [List.map_cons]
  rw [ih,digit_fig (by omega),digit_fig (by omega)]
  rfl
theorem byteAt_bytesN (s:ByteArray) (k:Nat):byteAt s k=((bytesN s)[k]?).getD 0:=by unfold byteAt bytesN;rw [List.getElem?_map]
theorem hexN_take (s:ByteArray):∀ k,k≤s.size→hexN s k=hexL ((bytesN s).take k)
 | 0,_=>rfl
 | k+1,h=>by
  have hk:k < (bytesN s).length:=by rw [bytesN_length];omega
  rw [hexN,hexN_take s k (by omega),List.take_succ_eq_append_getElem hk,byteAt_bytesN,List.getElem?_eq_getElem hk]
  unfold hexL
  rw [List.flatMap_append];rfl
theorem hexN_length (s:ByteArray):∀ k,(hexN s k).length=2 * k
 | 0=>rfl
 | k+1=>by rw [hexN,List.length_append,hexN_length s k];((repeat (first|rw [List.length_append]|rw [List.length_cons]|rw [List.length_nil]|rw [List.length_take]|rw [List.length_drop])) <;> omega)
theorem hexL_lt (d:List Nat) (h:∀ x ∈ d,x < 256):∀ y ∈ hexL d,y < 256:=by
 intro y hy
 unfold hexL at hy
 obtain ⟨x,hx,hy⟩:=List.mem_flatMap.1 hy
 have:=h x hx
 rcases List.mem_cons.1 hy with rfl|hy
 ·exact fig_lt (by omega)
 ·rw [List.mem_singleton.1 hy];exact fig_lt (by omega)
theorem bytesN_lt (s:ByteArray):∀ x ∈ bytesN s,x < 256:=by
 intro x hx
 obtain ⟨b,_,rfl⟩:=List.mem_map.1 hx
 exact b.toNat_lt
theorem hexN_all (s:ByteArray) {k:Nat} (h1:¬ k < s.size) (h2:k≤s.size):bstr (hexN s k)=hexS s:=by
 apply bytesN_inj
 have hk:k=(bytesN s).length:=by rw [bytesN_length];omega
 rw [hexN_take s k h2,List.take_of_length_le (by omega),bytesN_bstr _ (hexL_lt _ (bytesN_lt s)),bytesN_hexS]
def vlow (x:Nat):Int:=if 48≤x∧x≤57 then (x:Int) - 48 else if 97≤x∧x≤102 then (x:Int) - 87 else -1
theorem vlow_bd (x:Nat) : -1≤vlow x∧vlow x≤15:=by unfold vlow;split;omega;split <;> omega
theorem fig_vlow {x:Nat} (h:¬ vlow x < 0):fig (vlow x).toNat=x:=by
 unfold vlow at *
 unfold fig
 split at h
 ·rename_i h1;rw [if_pos h1];split <;> omega
 ·rename_i h1
  split at h
  ·rename_i h2;rw [if_neg h1,if_pos h2];split <;> omega
  ·omega
theorem vlow_fig {x:Nat} (h:x < 16):¬ vlow (fig x) < 0:=by
 unfold vlow fig
 split
 ·rw [if_pos (by omega)];omega
 ·rw [if_neg (by omega),if_pos (by omega)];omega
def unInv (s:ByteArray) (k:Nat) (D:List Nat):Prop:=D.length=k∧(∀ x ∈ D,x < 256)∧hexL D=(bytesN s).take (2 * k)
theorem unInv.start (s:ByteArray):unInv s 0 []:=⟨rfl,fun _ h=>absurd h List.not_mem_nil,rfl⟩
theorem unInv.step {s:ByteArray} {k:Nat} {D:List Nat} (h:unInv s k D) (hk:2 * k+1 < s.size) (h1:¬ vlow (byteAt s (2 * k)) < 0) (h2:¬ vlow (byteAt s (2 * k+1)) < 0):unInv s (k+1) (D++[16 * (vlow (byteAt s (2 * k))).toNat+(vlow (byteAt s (2 * k+1))).toNat]):=by
 obtain ⟨g1,g2,g3⟩:=h
 have b1:=vlow_bd (byteAt s (2 * k))
 have b2:=vlow_bd (byteAt s (2 * k+1))
 refine ⟨by simp [g1],fun x hx=>?_,?_⟩
 ·rcases List.mem_append.1 hx with hx|hx
  ·exact g2 x hx
  ·rw [List.mem_singleton.1 hx];omega
 ·have hl:(bytesN s).length=s.size:=bytesN_length s
  have e1:=byteAt_bytesN s (2 * k)
  have e2:=byteAt_bytesN s (2 * k+1)
  rw [List.getElem?_eq_getElem (by omega)] at e1 e2
  simp only [Option.getD_some] at e1 e2
  unfold hexL at *
  rw [List.flatMap_append,g3,show 2 * (k+1)=2 * k+1+1 by omega,List.take_succ_eq_append_getElem (by omega),List.take_succ_eq_append_getElem (by omega),List.append_assoc]
  congr 1
  rw [← e1,← e2]
  simp only [List.flatMap_cons,List.flatMap_nil,List.append_nil,List.cons_append,List.nil_append]
  rw [show (16 * (vlow (byteAt s (2 * k))).toNat+(vlow (byteAt s (2 * k+1))).toNat) / 16=(vlow (byteAt s (2 * k))).toNat by omega,show (16 * (vlow (byteAt s (2 * k))).toNat+(vlow (byteAt s (2 * k+1))).toNat) % 16=(vlow (byteAt s (2 * k+1))).toNat by omega,fig_vlow h1,fig_vlow h2]
theorem unInv.done {s:ByteArray} {k:Nat} {D:List Nat} (h:unInv s k D) (hk:s.size≤2 * k) (hs:s.size≤40000) (he:2 * k≤s.size):unhexT s=bstr D∧unhexB s=true:=by
 obtain ⟨g1,g2,g3⟩:=h
 refine unhex_yes ?_ ?_
 ·apply bytesN_inj
  rw [bytesN_hexS,bytesN_bstr _ g2,g3,List.take_of_length_le (by rw [bytesN_length];omega)]
 ·rw [bstr_size];omega
theorem unhex_odd {s:ByteArray} (h:s.size % 2≠0):unhexT s=⟨#[]⟩∧unhexB s=false:=unhex_no fun t _ e=>by
 subst e;rw [hexS_size] at h;omega
theorem unhex_big {s:ByteArray} (h:s.size > 40000):unhexT s=⟨#[]⟩∧unhexB s=false:=unhex_no fun t _ e=>by
 subst e;rw [hexS_size] at h;omega
theorem unhex_fig {s:ByteArray} {k:Nat} (hk:k < s.size) (h:vlow (byteAt s k) < 0):unhexT s=⟨#[]⟩∧unhexB s=false:=unhex_no fun t _ e=>by
 subst e
 have hm:byteAt (hexS t) k ∈ hexL (bytesN t):=by
  rw [byteAt_bytesN,← bytesN_hexS,List.getElem?_eq_getElem (by rw [bytesN_length];exact hk)]
  exact List.getElem_mem _
 unfold hexL at hm
 obtain ⟨x,hx,hy⟩:=List.mem_flatMap.1 hm
 have:=bytesN_lt t x hx
 rcases List.mem_cons.1 hy with e|hy
 ·rw [e] at h;exact vlow_fig (by omega) h
 ·rw [List.mem_singleton.1 hy] at h;exact vlow_fig (by omega) h
def msgOf (s:ByteArray):ByteArray:=if begins s ⟨#[45]⟩ then unhexT (s.extract 1 s.size) else ⟨#[]⟩
theorem dec0 {n:Int} (h:n=0):(⟨#[48]⟩:ByteArray)=decS n:=by subst h;exact decS_zero.symm
theorem fig_lo {z:Int} (h0:0≤z) (h:z < 10):(48+z).toNat=fig z.toNat:=by unfold fig;rw [if_pos (by omega)];omega
theorem fig_hi {z:Int} (h:¬ z < 10):(87+z).toNat=fig z.toNat:=by unfold fig;rw [if_neg (by omega)];omega
theorem bstr_one (d:Nat):(bstr [d]).data.toList=[UInt8.ofNat d]:=bstr_toList [d]
theorem decInv.stepA {n0 m:Int} {s:ByteArray} (h:decInv n0 m s) (hm:m≠0) (hd:¬ m.tmod 10 < 0):decInv n0 (m.tdiv 10) (bstr [fig (m.tmod 10).toNat]++s):=by
 have hb : -10 < m.tmod 10∧m.tmod 10 < 10:=tmod_bd m (c:=10) (by decide)
 refine h.step (d:=(m.tmod 10).toNat) hm (by rw [if_neg hd];omega) ?_
 rw [bstr_one]
 unfold fig
 rw [if_pos (by omega)]
theorem decInv.stepB {n0 m:Int} {s:ByteArray} (h:decInv n0 m s) (hm:m≠0) (hd:m.tmod 10 < 0):decInv n0 (m.tdiv 10) (bstr [fig (-(m.tmod 10)).toNat]++s):=by
 have hb : -10 < m.tmod 10∧m.tmod 10 < 10:=tmod_bd m (c:=10) (by decide)
 refine h.step (d:=(-(m.tmod 10)).toNat) hm (by rw [if_pos hd];omega) ?_
 rw [bstr_one]
 unfold fig
 rw [if_pos (by omega)]
theorem digL_len {u:Nat} (h:u < 100000000000000000000):(digL u).length≤20:=by
 unfold digL
 split
 ·exact Nat.zero_le _
 ·exact dec_len 19 u (by have:(10:Nat) ^ (19+1)=100000000000000000000:=(by decide);omega)
theorem decInv.size {n0 m:Int} {s:ByteArray} (h:decInv n0 m s) (h0:i64ok n0):s.size≤20:=by
 have h1:=congrArg List.length h.1
 have h2:=digL_len (u:=n0.natAbs) (by unfold i64ok at h0;omega)
 rw [List.length_append] at h1
 rw [size_toList];omega
theorem decInv.i64 {n0 m:Int} {s:ByteArray} (h:decInv n0 m s) (h0:i64ok n0):i64ok m:=by
 obtain ⟨_,h1,h2,h3⟩:=h
 unfold i64ok at *
 omega
theorem decInv.end1 {n0 m:Int} {s:ByteArray} (h:decInv n0 m s) (hm:¬ m≠0) (h0:¬ n0=0) (hn:¬ n0 < 0):s=decS n0:=by
 have:m=0:=Classical.not_not.1 hm
 subst this
 exact h.done h0 hn
theorem decInv.end2 {n0 m:Int} {s:ByteArray} (h:decInv n0 m s) (hm:¬ m≠0) (hn:n0 < 0):(⟨#[45]⟩:ByteArray)++s=decS n0:=by
 have:m=0:=Classical.not_not.1 hm
 subst this
 exact h.doneN hn
theorem tdiv_dec {m:Int} (h:m≠0):(m.tdiv 10).natAbs < m.natAbs:=by rw [natAbs_tdiv];omega
def keyNum (head:ByteArray) (n:Int) (tail:ByteArray):ByteArray:=head++decS n++tail
theorem keyNum_size (head:ByteArray) {n:Int} (tail:ByteArray) (h:i64ok n):(keyNum head n tail).size≤head.size+21+tail.size:=by
 have:=decS_size n h
 unfold keyNum
 rw [ByteArray.size_append,ByteArray.size_append];omega
def numV (n:Int):ByteArray:=if inB n 1 999 then decS n else ⟨#[]⟩
theorem keyOk_size {key:ByteArray} (h:keyOk key=true):key.size≤40:=by
 unfold keyOk at h
 rw [Bool.and_eq_true] at h
 have:=h.2
 unfold inB at this
 have:=of_decide_eq_true this
 omega
theorem getKey_mem {l:List CellD} {key:ByteArray} : getKey l key=⟨#[]⟩∨∃ c ∈ l,c.val=getKey l key:=by
 unfold getKey
 cases h:l.find? (fun c:CellD=>decide (c.key=key)) with
 | none=>exact .inl rfl
 | some c=>exact .inr ⟨c,List.mem_of_find?_eq_some h,rfl⟩
theorem numOf_t {v:ByteArray} (h:¬ readN v > 999):readN v=numOf v:=(if_pos (Nat.le_of_not_lt h)).symm
theorem numOf_f {v:ByteArray} (h:readN v > 999):0=numOf v:=(if_neg (Nat.not_le_of_gt h)).symm
theorem numOf_no {v:ByteArray} (h:(!readB v)=true):0=numOf v:=by
 unfold readB at h
 unfold numOf readN
 cases e:readD v with
 | none=>rfl
 | some n=>rw [e] at h;simp at h
theorem toList_append (a b:ByteArray):(a++b).data.toList=a.data.toList++b.data.toList:=by
 rw [ByteArray.data_append,Array.toList_append]
theorem append_cancel {a b c:ByteArray} (h:a++b=a++c):b=c:=by
 have:=congrArg (fun s:ByteArray=>s.data.toList) h
 simp only [toList_append] at this
 exact ByteArray.ext (Array.toList_inj.1 (List.append_cancel_left this))
theorem append_assoc' (a b c:ByteArray):a++b++c=a++(b++c):=by
 apply ByteArray.ext;apply Array.toList_inj.1
 simp only [toList_append,List.append_assoc]
theorem byteAt_append {a b:ByteArray} (h:0 < a.size):byteAt (a++b) 0=byteAt a 0:=by
 unfold byteAt
 rw [toList_append,List.getElem?_append_left (by rw [← size_toList];exact h)]
theorem byte_num {h t:ByteArray} {n:Int} (hh:0 < h.size):byteAt (keyNum h n t) 0=byteAt h 0:=by
 unfold keyNum
 rw [byteAt_append (by rw [ByteArray.size_append];omega),byteAt_append hh]
theorem inB_bd {x a b:Int} (h:inB x a b=true):a≤x∧x≤b:=of_decide_eq_true h
set_option maxRecDepth 100000
set_option maxHeartbeats 1000000
section
end
set_option maxRecDepth 100000
set_option maxHeartbeats 1000000
set_option maxRecDepth 100000
set_option maxHeartbeats 1000000
section
variable {P:Program} {W:World} {T e:TypeId} {cs:List Value} {α:Type} {k:Nat} {enc:α→List Value} {ok:α→Prop}
theorem rdA_of (ht:P.underlying T=some (.slice e)) (hk:P.cellsOf e=k) (hk0:0 < k) (hrow:∀ row,row.length=k→Reads P W e row→∃ x,row=enc x∧ok x) (h:Reads P W T cs) :
 ∃ a n c l,cs=[.slice a n c]∧RdA k enc ok (fun _=>True) W (.slice a n c) l:=by
 obtain ⟨v,l,rfl,hr⟩:=Reads.slice (R:=Enc enc ok) ht hk hk0 (fun row h1 h2=>hrow row h1 h2) h
 obtain ⟨a,cap,rfl,_⟩:=hr.inv
 exact ⟨a,_,cap,l,rfl,hr,fun _ _ _ _ _=>trivial⟩
theorem str_row (ht:P.underlying e=some .string):∀ row,row.length=1→Reads P W e row→∃ x,row=encS x∧okS x:=fun row _ hr=>by
 obtain ⟨s,rfl,hm⟩:=hr.string ht
 exact ⟨s,rfl,maxLen_le hm⟩
theorem cell_row {fs:Array Field} {f0 f1:Field} (ht:P.underlying e=some (.struct fs)) (h0:fs[0]? = some f0) (h1:fs[1]? = some f1) (o0:f0.offset=0) (o1:f1.offset=1) (c0:P.cellsOf f0.type=1) (c1:P.cellsOf f1.type=1)
 (u0:P.underlying f0.type=some .string) (u1:P.underlying f1.type=some .string):∀ row,row.length=2→Reads P W e row→∃ x,row=encC x∧okC x:=fun row hl hr=>by
 obtain ⟨_,hf⟩:=hr.struct ht
 match row,hl with
 | [a,b],_=>
  have g0:=hf 0 f0 h0
  have g1:=hf 1 f1 h1
  rw [o0,c0] at g0
  rw [o1,c1] at g1
  obtain ⟨s,e0,hm0⟩:=Reads.string u0 g0
  obtain ⟨t,e1,hm1⟩:=Reads.string u1 g1
  simp at e0 e1
  subst e0;subst e1
  exact ⟨⟨s,t⟩,rfl,maxLen_le hm0,maxLen_le hm1⟩
end
theorem law_contractW {P:Program} {f:FuncId} {fn:Func} {s:ChangeSpec} {tb:TypeId}
 (hl:laidOutB P=true) (hr:∀ t ∈ fn.params.toList,P.readableRec t=true∧t < P.types.size) (htb:P.underlying tb=some .bool) (hres:fn.resultTypes=#[tb]) (hv:s.vars=[])
 (hs:∀ (H:Type) (ds:List (DataW H)),ds.length=fn.params.size→s.fn H ds={ results:=[.lit (.bool true)],args:=ds })
 (H:Type) (enc:TypeId × Value→H) (apart fresh handsOn again:Bool) (W:World) (args:Array Value) (ds gs:List (DataW H)) (before:List MemPlace)
 (walk:ArgsRead P W fn.params.toList args.toList→Calls P f args W fun e W'=>e=.returned (.bool true)∧Bl W W')
 (hval:∀ (j:Nat) t v,fn.params[j]? = some t→args[j]? = some v→Value.okWide P W .any 0 t v)
 (hW:DataW.Whole enc P fn.params.toList s.vars apart W args.toList ds gs before) :
 Calls P f args W fun e W'=>∃ v,e=.returned v∧s.post enc P fn apart fresh handsOn again W args v W':=by
 have hW0:=hW
 obtain ⟨p,q,hA,hV,rfl,hz,hn⟩:=hW
 obtain ⟨g1,g2,g3⟩:=argsRead_of hA
 refine (walk ⟨g1,fun j t v ht hv=>⟨g3 j t v ht hv,hval j t v (by simpa using ht) (by simpa using hv)⟩⟩).mono ?_
 rintro e W' ⟨rfl,hb⟩
 exact ⟨_,rfl,law_post hl hr htb hres hv hW0 (hs H ds (by simpa using g2)) hb⟩
theorem var_cell {P:Program} {W:World} {n:String} {g tp:Nat} {a:Addr} (hg:P.globalNamed n=some g) (h:W.var? P n=some #[.iface tp (.pointer (some a))]):W.cell? ⟨g,0,none⟩=some (.iface tp (.pointer (some a))):=by
 have:=World.var?_cell hg h 0
 simpa using this
section
variable {P:Program} {W:World} {T e:TypeId} {cs:List Value} {α:Type} {k:Nat} {enc:α→List Value} {ok:α→Prop}
theorem int_row (ht:P.underlying e=some (.int .i64)):∀ row,row.length=1→Reads P W e row→∃ x,row=encI x∧okI x:=fun row _ hr=>by
 obtain ⟨n,rfl,h0,h1⟩:=hr.i64 ht
 exact ⟨n,rfl,h0,h1⟩
theorem ans_row {fs:Array Field} {f0 f1 f2:Field} (ht:P.underlying e=some (.struct fs)) (h0:fs[0]? = some f0) (h1:fs[1]? = some f1) (h2:fs[2]? = some f2) (o0:f0.offset=0) (o1:f1.offset=1) (o2:f2.offset=2) (c0:P.cellsOf f0.type=1) (c1:P.cellsOf f1.type=1) (c2:P.cellsOf f2.type=1)
 (u0:P.underlying f0.type=some (.int .i64)) (u1:P.underlying f1.type=some (.int .i64)) (u2:P.underlying f2.type=some .string):∀ row,row.length=3→Reads P W e row→∃ x,row=encR x∧okR x:=fun row hl hr=>by
 obtain ⟨_,hf⟩:=hr.struct ht
 match row,hl with
 | [a,b,c],_=>
  have g0:=hf 0 f0 h0
  have g1:=hf 1 f1 h1
  have g2:=hf 2 f2 h2
  rw [o0,c0] at g0
  rw [o1,c1] at g1
  rw [o2,c2] at g2
  obtain ⟨x0,e0,l0,m0⟩:=Reads.i64 u0 g0
  obtain ⟨x1,e1,l1,m1⟩:=Reads.i64 u1 g1
  obtain ⟨x2,e2,m2⟩:=Reads.string u2 g2
  simp at e0 e1 e2
  subst e0;subst e1;subst e2
  exact ⟨⟨x0,x1,x2⟩,rfl,⟨l0,m0⟩,⟨l1,m1⟩,maxLen_le m2⟩
theorem call_row {fs:Array Field} {f0 f1 f2 f3 f4 f5:Field} (ht:P.underlying e=some (.struct fs)) (h0:fs[0]? = some f0) (h1:fs[1]? = some f1) (h2:fs[2]? = some f2) (h3:fs[3]? = some f3) (h4:fs[4]? = some f4) (h5:fs[5]? = some f5)
 (o0:f0.offset=0) (o1:f1.offset=1) (o2:f2.offset=2) (o3:f3.offset=3) (o4:f4.offset=4) (o5:f5.offset=5) (c0:P.cellsOf f0.type=1) (c1:P.cellsOf f1.type=1) (c2:P.cellsOf f2.type=1) (c3:P.cellsOf f3.type=1) (c4:P.cellsOf f4.type=1) (c5:P.cellsOf f5.type=1)
 (u0:P.underlying f0.type=some (.int .i64)) (u1:P.underlying f1.type=some .string) (u2:P.underlying f2.type=some .string) (u3:P.underlying f3.type=some (.int .i64)) (u4:P.underlying f4.type=some (.int .i64)) (u5:P.underlying f5.type=some .string):∀ row,row.length=6→Reads P W e row→∃ x,row=encK x∧okK x:=fun row hl hr=>by
 obtain ⟨_,hf⟩:=hr.struct ht
 match row,hl with
 | [a,b,c,d,p,q],_=>
  have g0:=hf 0 f0 h0
  have g1:=hf 1 f1 h1
  have g2:=hf 2 f2 h2
  have g3:=hf 3 f3 h3
  have g4:=hf 4 f4 h4
  have g5:=hf 5 f5 h5
  rw [o0,c0] at g0
  rw [o1,c1] at g1
  rw [o2,c2] at g2
  rw [o3,c3] at g3
  rw [o4,c4] at g4
  rw [o5,c5] at g5
  obtain ⟨x0,e0,l0,m0⟩:=Reads.i64 u0 g0
  obtain ⟨x1,e1,m1⟩:=Reads.string u1 g1
  obtain ⟨x2,e2,m2⟩:=Reads.string u2 g2
  obtain ⟨x3,e3,l3,m3⟩:=Reads.i64 u3 g3
  obtain ⟨x4,e4,l4,m4⟩:=Reads.i64 u4 g4
  obtain ⟨x5,e5,m5⟩:=Reads.string u5 g5
  simp at e0 e1 e2 e3 e4 e5
  subst e0;subst e1;subst e2;subst e3;subst e4;subst e5
  exact ⟨⟨x0,x1,x2,x3,x4,x5⟩,rfl,⟨l0,m0⟩,maxLen_le m1,maxLen_le m2,⟨l3,m3⟩,⟨l4,m4⟩,maxLen_le m5⟩
end
set_option maxRecDepth 100000
set_option maxHeartbeats 1000000
set_option maxRecDepth 100000
set_option maxHeartbeats 1000000
section
variable {P:Program} {ρ:Operand→Value} {w:World} {o:Oper} {x y:Operand} {t u:TypeId}
theorem r_remC {m c:Nat} {n:Int} (hn:n=(c:Int)) (hc:0 < c) (ho:o.op=.binOp .rem t x y u) (hx:ρ x=.int .i64 ((m:Nat):Int)) (hy:ρ y=.int .i64 n):(execOp ρ o).run P w=.ok (.value (.int .i64 ((m % c:Nat):Int))) w:=by
 subst hn
 have:=r_remN (P:=P) (w:=w) (n:=(c:Int)) (by omega) ho hx hy
 simpa using this
end
set_option maxRecDepth 100000
set_option maxHeartbeats 1000000
end Go.Proofs.YtipdbeklopjbmaaGreatDoor
