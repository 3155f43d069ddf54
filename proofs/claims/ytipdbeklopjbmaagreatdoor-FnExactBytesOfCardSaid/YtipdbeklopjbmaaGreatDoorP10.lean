/-
  Texts laid together: DatCc, DatCd, DatCe, Eng17.
-/
import Derived.Test.YtipdbeklopjbmaaGreatDoorP09
import Derived.Test.YtipdbeklopjbmaaGreatDoorP02
import Derived.Test.YtipdbeklopjbmaaGreatDoorP03
set_option linter.unusedVariables false
set_option linter.unusedSimpArgs false
namespace Go.Proofs.YtipdbeklopjbmaaGreatDoor
open Go.ChangeShapes Go.WideShapes Go.ChangeAt Go.RowKit
def callOk (c:CallD):Bool:=inB c.kind 1 22 && (decide (((c.name.size:Nat):Int)≤20) && (decide (((c.to_.size:Nat):Int)≤20) && decide (((c.text.size:Nat):Int)≤64)))
def doS (D:List CellD) (P:Int) (c:CallD):List CellD:=
 if numI D (kR P (⟨#[47,115]⟩:ByteArray))≠1 then D else if callOk c=false then D
 else if c.kind=1 then mkS D c.name else if c.kind=2 then lkS D c.name c.to_ else if c.kind=3 then ulS D c.name else if c.kind=4 then rnS D c.name c.to_
 else if c.kind=7 then (if fileI D c.name=0 then D else wfF D (fileI D c.name) c.a c.text)
 else if c.kind=8 then (if fileI D c.name=0 then D else ctF D (fileI D c.name) c.a)
 else if c.kind=9 then mpS D else if c.kind=10 then ppS D c.a c.text else if c.kind=11 then tpS D c.a
 else if c.kind=12 then (if (spF D P).1.2=0 then fkS (spF D P).2 P (spF D P).1.1 else (spF D P).2)
 else if c.kind=13 then (if (enF D P c.a).1=0 then wipeS (enF D P c.a).2 (kPg P) else (enF D P c.a).2)
 else if c.kind=14 then rpS D P c.a else if c.kind=16 then sgS D c.a c.b else if c.kind=17 then tsS D P else if c.kind=18 then tmS D P c.a else if c.kind=19 then tkS D c.a
 else if c.kind=20 then gpS D P c.a c.text else if c.kind=22 then poS D c.text else D
section
variable {D:List CellD} {P:Int} {c:CallD}
theorem do_n (h:numI D (kR P (⟨#[47,115]⟩:ByteArray))≠1):D=doS D P c:=(if_pos h).symm
theorem ite_ite {α:Sort _} {p q:Prop} [Decidable p] [Decidable q] {x y:α} (h:q):x=if p then x else if q then x else y:=by
 split <;> first|rfl|rw [if_pos h]
theorem do_k (h:callOk c=false):D=doS D P c:=ite_ite h
theorem do_y (h1:¬ numI D (kR P (⟨#[47,115]⟩:ByteArray))≠1) (h2:callOk c=true) {x:List CellD} {k:Int} (hk:c.kind=k)
 (h:(if k=1 then mkS D c.name else if k=2 then lkS D c.name c.to_ else if k=3 then ulS D c.name else if k=4 then rnS D c.name c.to_
 else if k=7 then (if fileI D c.name=0 then D else wfF D (fileI D c.name) c.a c.text)
 else if k=8 then (if fileI D c.name=0 then D else ctF D (fileI D c.name) c.a)
 else if k=9 then mpS D else if k=10 then ppS D c.a c.text else if k=11 then tpS D c.a
 else if k=12 then (if (spF D P).1.2=0 then fkS (spF D P).2 P (spF D P).1.1 else (spF D P).2)
 else if k=13 then (if (enF D P c.a).1=0 then wipeS (enF D P c.a).2 (kPg P) else (enF D P c.a).2)
 else if k=14 then rpS D P c.a else if k=16 then sgS D c.a c.b else if k=17 then tsS D P else if k=18 then tmS D P c.a else if k=19 then tkS D c.a
 else if k=20 then gpS D P c.a c.text else if k=22 then poS D c.text else D)=x):x=doS D P c:=by
 subst hk
 unfold doS
 rw [if_neg h1,if_neg (by rw [h2];decide)];exact h.symm
def flS (D:List CellD) (c:CallD):List CellD:=if fileI D c.name=0 then D else if c.kind=6 then D else if c.kind=7 then wfF D (fileI D c.name) c.a c.text else ctF D (fileI D c.name) c.a
theorem fl_6 (h:c.kind=6):D=flS D c:=by
 unfold flS
 rw [if_pos h]
 split <;> rfl
theorem fl_7 (h:c.kind=7):(if fileI D c.name=0 then D else wfF D (fileI D c.name) c.a c.text)=flS D c:=by
 unfold flS
 rw [h];rfl
theorem fl_8 (h:c.kind=8):(if fileI D c.name=0 then D else ctF D (fileI D c.name) c.a)=flS D c:=by
 unfold flS
 rw [h];rfl
def prS (D:List CellD) (P:Int) (c:CallD):List CellD:=if c.kind=12 then (if (spF D P).1.2=0 then fkS (spF D P).2 P (spF D P).1.1 else (spF D P).2)
 else if c.kind=13 then (if (enF D P c.a).1=0 then wipeS (enF D P c.a).2 (kPg P) else (enF D P c.a).2) else if c.kind=14 then rpS D P c.a else D
theorem do_p (h1:¬ numI D (kR P (⟨#[47,115]⟩:ByteArray))≠1) (h2:callOk c=true) (h:c.kind=12∨c.kind=13∨c.kind=14∨c.kind=15):prS D P c=doS D P c:=by
 rcases h with h|h|h|h
 ·exact do_y h1 h2 h (by unfold prS;rw [h];rfl)
 ·exact do_y h1 h2 h (by unfold prS;rw [h];rfl)
 ·exact do_y h1 h2 h (by unfold prS;rw [h];rfl)
 ·exact do_y h1 h2 h (by unfold prS;rw [h];rfl)
theorem callOk_bd (h:callOk c=true):1≤c.kind∧c.kind≤22∧c.name.size≤20∧c.to_.size≤20∧c.text.size≤64:=by
 unfold callOk inB at h
 simp only [Bool.and_eq_true,decide_eq_true_eq] at h
 exact ⟨h.1.1,h.1.2,by omega,by omega,by omega⟩
theorem spF_ok (h:(spF D P).1.2=0):1≤(spF D P).1.1∧(spF D P).1.1≤12:=by
 unfold spF at h ⊢
 split at h
 ·simp at h
 ·rename_i h1
  rw [if_neg h1]
  dsimp only
  unfold bumpF
  have h0:0≤numI D (⟨#[99,47,112,114,111,99]⟩:ByteArray):=by unfold numI;omega
  rw [if_neg (by omega)]
  dsimp only
  omega
end
theorem cutSuf_leK (s p:ByteArray):(cutSuf s p).size≤s.size:=by
 unfold cutSuf
 split
 ·rw [ByteArray.size_extract];omega
 ·exact Nat.le_refl _
theorem cutSuf_5K {x:ByteArray} (h:x.size ≥ 5):3≤(cutSuf x (⟨#[47,112]⟩:ByteArray)).size:=by
 have e:((⟨#[47,112]⟩:ByteArray)).size=2:=rfl
 unfold cutSuf
 split
 ·rw [ByteArray.size_extract];omega
 ·omega
def runS (D:List CellD) (P:Int) (cs:List CallD):List CellD:=cs.foldl (fun D c=>doS D P c) D
theorem runS_step {D:List CellD} {P:Int} {cs:List CallD} {k:Nat} {c:CallD} (h:nth cs k=some c):doS (runS D P (cs.take k)) P c=runS D P (cs.take (k+1)):=by
 rw [nth_take_snoc h];unfold runS;rw [List.foldl_append];rfl
def changesD (a b:List CellD):List CellD:=(diffL a b).map fun k=>⟨k,getKey b k⟩
def ddp:List ByteArray→List ByteArray
 | []=>[]
 | x::l=>if (ddp l).any (fun y=>decide (y=x))=true then ddp l else x::ddp l
theorem ddp_any {x:ByteArray} {l:List ByteArray} : l.any (fun y=>decide (y=x))=true ↔ x ∈ l:=by simp
theorem ddp_mem {x:ByteArray} : ∀ {l:List ByteArray},x ∈ ddp l ↔ x ∈ l
 | []=>Iff.rfl
 | y::l=>by
  rw [ddp]
  split
  ·rename_i h
   rw [ddp_mem,List.mem_cons]
   constructor
   ·exact .inr
   ·rintro (rfl|h1)
    ·exact ddp_mem.1 (ddp_any.1 h)
    ·exact h1
  ·rw [List.mem_cons,List.mem_cons,ddp_mem]
theorem ddp_nodup:∀ l:List ByteArray,(ddp l).Nodup
 | []=>List.nodup_nil
 | y::l=>by
  rw [ddp]
  split
  ·exact ddp_nodup l
  ·rename_i h;exact List.nodup_cons.2 ⟨fun hm=>h (ddp_any.2 hm),ddp_nodup l⟩
theorem ddp_len:∀ l:List ByteArray,(ddp l).length≤l.length
 | []=>Nat.le_refl _
 | y::l=>by
  rw [ddp]
  have:=ddp_len l
  split
  ·rw [List.length_cons];omega
  ·rw [List.length_cons,List.length_cons];omega
theorem split47:∀ {a b x y:List UInt8},(∀ q ∈ a,q≠47)→(∀ q ∈ b,q≠47)→a++47::x=b++47::y→x=y
 | [],[],_,_,_,_,h=>by simpa using h
 | [],q::b,_,_,_,hb,h=>absurd (by simpa using (List.cons.inj h).1.symm) (hb q (List.mem_cons_self ..))
 | q::a,[],_,_,ha,_,h=>absurd (by simpa using (List.cons.inj h).1) (ha q (List.mem_cons_self ..))
 | q::a,r::b,_,_,ha,hb,h=>split47 (fun z hz=>ha z (List.mem_cons_of_mem _ hz)) (fun z hz=>hb z (List.mem_cons_of_mem _ hz)) (List.cons.inj h).2
theorem digit47 (u:Nat):∀ q ∈ Lib.decDigits u,q≠47:=fun q hq e=>by
 have:=dec_all u q hq
 unfold isD at this
 subst e
 revert this;decide
theorem decS_47 (n:Int):∀ q ∈ (decS n).data.toList,q≠47:=fun q hq=>by
 unfold decS Lib.itoa at hq
 split at hq
 ·have hq':q ∈ (45::Lib.decDigits n.natAbs):=by simpa using hq
  rcases List.mem_cons.1 hq' with rfl|h
  ·decide
  ·exact digit47 _ q h
 ·exact digit47 _ q (by simpa using hq)
theorem kPg_inj {t P:Int} {s s':ByteArray} (h:kPg t++s=kPg P++s'):s=s':=by
 have h1:=congrArg (fun x:ByteArray=>x.data.toList) h
 unfold kPg keyNum at h1
 simp only [ByteArray.data_append,Array.toList_append,List.append_assoc] at h1
 have h2:(decS t).data.toList++47::s.data.toList=(decS P).data.toList++47::s'.data.toList:=by
  have:=List.append_cancel_left h1
  simpa using this
 exact ByteArray.ext (Array.toList_inj.1 (split47 (decS_47 t) (decS_47 P) h2))
def uS (D:List CellD) (P:Int):List ByteArray:=D.filterMap (fun c=>if begins c.key (kPg P) then some (c.key.extract (kPg P).size c.key.size) else none)++(List.range 4).map fun p=>decS ((p:Nat):Int)++(⟨#[]⟩:ByteArray)
def uG:List ByteArray:=(List.range 1000).flatMap fun n:Nat=>[keyNum (⟨#[114,47]⟩:ByteArray) n (⟨#[47,115]⟩:ByteArray),keyNum (⟨#[103,47]⟩:ByteArray) n (⟨#[47,116]⟩:ByteArray),keyNum (⟨#[103,47]⟩:ByteArray) n (⟨#[47,104]⟩:ByteArray)]++(List.range 1000).map fun k:Nat=>keyNum (keyNum (⟨#[103,47]⟩:ByteArray) n (⟨#[47,113,47]⟩:ByteArray)) k (⟨#[]⟩:ByteArray)
def uF (D:List CellD) (P:Int):List ByteArray:=(List.range 12).flatMap fun t=>(uS D P).map fun s=>kPg ((t+1:Nat):Int)++s
def uK (D:List CellD) (P:Int):List ByteArray:=(uS D P).map (fun s=>kPg P++s)++(uF D P++uG)
def uni0 (D:List CellD) (P:Int):Uni where
 K:=fun x=>x ∈ uK D P
 S:=fun s=>s ∈ uS D P
 P:=P
 page:=fun p h0 h3=>by
  obtain ⟨q,rfl⟩:=Int.eq_ofNat_of_zero_le h0
  exact List.mem_append.2 (.inr (List.mem_map.2 ⟨q,List.mem_range.2 (by omega),rfl⟩))
 own:=fun s h=>List.mem_append.2 (.inl (List.mem_map.2 ⟨s,h,rfl⟩))
 fork:=fun t h1 h2 s h=>by
  obtain ⟨q,rfl⟩:∃ q:Nat,t=((q+1:Nat):Int):=⟨(t - 1).toNat,by omega⟩
  exact List.mem_append.2 (.inr (List.mem_append.2 (.inl (List.mem_flatMap.2 ⟨q,List.mem_range.2 (by omega),List.mem_map.2 ⟨s,h,rfl⟩⟩))))
 inj:=fun _ _ _ _ _ h=>kPg_inj h
 sig:=fun n k hn hk=>by
  have hg:∀ x,x ∈ uG→x ∈ uK D P:=fun x hx=>List.mem_append.2 (.inr (List.mem_append.2 (.inr hx)))
  have hf:∀ x,x ∈ [keyNum (⟨#[114,47]⟩:ByteArray) n (⟨#[47,115]⟩:ByteArray),keyNum (⟨#[103,47]⟩:ByteArray) n (⟨#[47,116]⟩:ByteArray),keyNum (⟨#[103,47]⟩:ByteArray) n (⟨#[47,104]⟩:ByteArray)]++(List.range 1000).map (fun k:Nat=>keyNum (keyNum (⟨#[103,47]⟩:ByteArray) n (⟨#[47,113,47]⟩:ByteArray)) k (⟨#[]⟩:ByteArray))→x ∈ uG:=fun x hx=>List.mem_flatMap.2 ⟨n,List.mem_range.2 (by omega),hx⟩
  exact ⟨hg _ (hf _ (List.mem_append.2 (.inl (List.mem_cons_self ..)))),hg _ (hf _ (List.mem_append.2 (.inl (List.mem_cons_of_mem _ (List.mem_cons_self ..))))),hg _ (hf _ (List.mem_append.2 (.inl (List.mem_cons_of_mem _ (List.mem_cons_of_mem _ (List.mem_cons_self ..)))))),hg _ (hf _ (List.mem_append.2 (.inr (List.mem_map.2 ⟨k,List.mem_range.2 (by omega),rfl⟩))))⟩
theorem len_fm {α β:Type} {f:α→List β} {n:Nat} : ∀ {l:List α},(∀ x ∈ l,(f x).length≤n)→(l.flatMap f).length≤l.length * n
 | [],_=>by simp
 | x::l,h=>by
  rw [List.flatMap_cons,List.length_append,List.length_cons,Nat.succ_mul]
  have h1:=h x (List.mem_cons_self ..)
  have h2:=len_fm (f:=f) (n:=n) (l:=l) fun y hy=>h y (List.mem_cons_of_mem _ hy)
  omega
theorem uS_len (D:List CellD) (P:Int):(uS D P).length≤D.length+4:=by
 unfold uS
 have:=List.length_filterMap_le (fun c:CellD=>if begins c.key (kPg P) then some (c.key.extract (kPg P).size c.key.size) else none) D
 rw [List.length_append,List.length_map,List.length_range];omega
theorem uG_len:uG.length≤1003000:=by
 unfold uG
 refine Nat.le_trans (len_fm (n:=1003) fun x _=>?_) (by rw [List.length_range];decide)
 rw [List.length_append,List.length_map,List.length_range];simp
theorem uK_len (D:List CellD) (P:Int):(uK D P).length≤13 * D.length+1003052:=by
 unfold uK
 rw [List.length_append,List.length_append,List.length_map]
 have h1:=uS_len D P
 have h2:=uG_len
 have h3:(uF D P).length≤12 * (D.length+4):=by
  unfold uF
  refine Nat.le_trans (len_fm (n:=D.length+4) fun x _=>?_) (by rw [List.length_range];exact Nat.le_refl _)
  rw [List.length_map];exact h1
 omega
theorem uni0_un {D:List CellD} {P:Int} (h:cellsOk D) (hl:D.length≤1048576):Un (uni0 D P) 15800000 D [] []:=by
 refine ⟨ddp (D.map (·.key)++uK D P),?_,ddp_nodup _,fun x hx=>ddp_mem.2 (List.mem_append.2 (.inr hx)),fun _ h=>(by cases h),fun _ h=>(by cases h),List.Pairwise.nil,List.Pairwise.nil,fun c hc=>ddp_mem.2 (List.mem_append.2 (.inl (List.mem_map.2 ⟨c,hc,rfl⟩))),by omega,h,fun c hc s e=>?_⟩
 ·refine Nat.le_trans (ddp_len _) ?_
  rw [List.length_append,List.length_map]
  have:=uK_len D P
  omega
 ·refine List.mem_append.2 (.inl (List.mem_filterMap.2 ⟨c,hc,?_⟩))
  change c.key=kPg P++s at e
  have hb:begins c.key (kPg P)=true:=by
   unfold begins
   refine decide_eq_true ⟨by rw [e,ByteArray.size_append];omega,?_⟩
   rw [e,show (kPg P).size=0+(kPg P).size by omega]
   simp [ByteArray.extract_append]
  rw [if_pos hb]
  have:=begins_eq hb
  exact congrArg some (append_cancel (this.trans e))
theorem Un.base {X:Uni} {u:Nat} {D:List CellD} {R W:List ByteArray} (h:Un X u D R W):Un (X.ext (R++W)) u D [] []:=by
 obtain ⟨U,h1,h2⟩:=h
 exact ⟨U,h1,h2.nd,fun x hx=>hx.elim (h2.kn x) fun hx=>(List.mem_append.1 hx).elim (h2.rd x) (h2.wr x),fun _ h=>(by cases h),fun _ h=>(by cases h),List.Pairwise.nil,List.Pairwise.nil,h2.ks,h2.ln,h2.ok,h2.pg⟩
theorem joinL_sub {l m:List ByteArray} {x:ByteArray} (h:x ∈ joinL l m):x ∈ l∨x ∈ m:=by
 unfold joinL at h
 induction m generalizing l with
 | nil=>exact .inl h
 | cons y m ih=>
  rcases ih h with h1|h1
  ·exact (putL_mem.1 h1).imp id fun e=>by rw [e];exact List.mem_cons_self ..
  ·exact .inr (List.mem_cons_of_mem _ h1)
theorem Un.join {X:Uni} {u:Nat} {D:List CellD} {R W R' W':List ByteArray} (h:Un (X.ext (R++W)) u D R' W') (hR:srtL R) (hW:srtL W):Un X u D (joinL R R') (joinL W W'):=by
 obtain ⟨U,h1,h2⟩:=h
 exact ⟨U,h1,h2.nd,fun x hx=>h2.kn x (.inl hx),fun x hx=>(joinL_sub hx).elim (fun h=>h2.kn x (.inr (List.mem_append.2 (.inl h)))) (h2.rd x),fun x hx=>(joinL_sub hx).elim (fun h=>h2.kn x (.inr (List.mem_append.2 (.inr h)))) (h2.wr x),hR.join,hW.join,h2.ks,h2.ln,h2.ok,h2.pg⟩
theorem Un.srt {X:Uni} {u:Nat} {D:List CellD} {R W:List ByteArray} (h:Un X u D R W):srtL R∧srtL W:=let ⟨_,_,h2⟩:=h;⟨h2.rs,h2.ws⟩
theorem Un.fresh {X:Uni} {u:Nat} {D:List CellD} {R W:List ByteArray} (h:Un X u D R W):Un X u D [] []:=by
 obtain ⟨U,h1,h2⟩:=h
 exact ⟨U,h1,h2.nd,h2.kn,fun _ h=>(by cases h),fun _ h=>(by cases h),List.Pairwise.nil,List.Pairwise.nil,h2.ks,h2.ln,h2.ok,h2.pg⟩
theorem srtL_ext:∀ {l m:List ByteArray},srtL l→srtL m→(∀ x,x ∈ l ↔ x ∈ m)→l=m
 | [],[],_,_,_=>rfl
 | [],y::m,_,_,h=>absurd ((h y).2 (List.mem_cons_self ..)) (by simp)
 | x::l,[],_,_,h=>absurd ((h x).1 (List.mem_cons_self ..)) (by simp)
 | x::l,y::m,hl,hm,h=>by
  have h1:=List.pairwise_cons.1 hl
  have h2:=List.pairwise_cons.1 hm
  have e:x=y:=by
   rcases List.mem_cons.1 ((h x).1 (List.mem_cons_self ..)) with e|e
   ·exact e
   ·rcases List.mem_cons.1 ((h y).2 (List.mem_cons_self ..)) with e'|e'
    ·exact e'.symm
    ·exact absurd rfl (ltS_ne (ltS_trans (h1.1 y e') (h2.1 x e)))
  subst e
  refine congrArg _ (srtL_ext h1.2 h2.2 fun z=>?_)
  constructor
  ·intro hz
   exact (List.mem_cons.1 ((h z).1 (List.mem_cons_of_mem _ hz))).resolve_left fun e=>ltS_ne (h1.1 z hz) e.symm
  ·intro hz
   exact (List.mem_cons.1 ((h z).2 (List.mem_cons_of_mem _ hz))).resolve_left fun e=>ltS_ne (h2.1 z hz) e.symm
theorem diff_srt (a b:List CellD):∀ (l:List CellD) (o:List ByteArray),srtL o→srtL (l.foldl (diffStep a b) o)
 | [],_,h=>h
 | c::l,o,h=>diff_srt a b l _ (by unfold diffStep;split;exact h.put;exact h)
theorem diff_mem (a b:List CellD) (x:ByteArray):∀ (l:List CellD) (o:List ByteArray),x ∈ l.foldl (diffStep a b) o ↔ x ∈ o∨((∃ c ∈ l,c.key=x)∧getKey a x≠getKey b x)
 | [],o=>by simp
 | c::l,o=>by
  rw [List.foldl_cons,diff_mem a b x l]
  unfold diffStep
  constructor
  ·rintro (h|⟨⟨d,hd,e⟩,h2⟩)
   ·split at h
    ·rename_i hne
     rcases putL_mem.1 h with h|rfl
     ·exact .inl h
     ·exact .inr ⟨⟨c,List.mem_cons_self ..,rfl⟩,hne⟩
    ·exact .inl h
   ·exact .inr ⟨⟨d,List.mem_cons_of_mem _ hd,e⟩,h2⟩
  ·rintro (h|⟨⟨d,hd,e⟩,h2⟩)
   ·refine .inl ?_
    split
    ·exact putL_mem.2 (.inl h)
    ·exact h
   ·rcases List.mem_cons.1 hd with rfl|hd
    ·refine .inl ?_
     subst e
     rw [if_pos h2]
     exact putL_mem.2 (.inr rfl)
    ·exact .inr ⟨⟨d,hd,e⟩,h2⟩
theorem diffL_srt (a b:List CellD):srtL (diffL a b):=diff_srt a b _ _ List.Pairwise.nil
theorem diffL_iff {a b:List CellD} {x:ByteArray} : x ∈ diffL a b ↔ ((∃ c ∈ a,c.key=x)∨∃ c ∈ b,c.key=x)∧getKey a x≠getKey b x:=by
 unfold diffL
 rw [diff_mem]
 simp only [List.not_mem_nil,false_or,List.mem_append,or_and_right,exists_or]
def stepD (P:Int) (c:CallD):StepD:=⟨P,c⟩
def stepsD (x:TxD):List StepD:=x.calls.map (stepD x.proc)
def chgD (b:List CellD) (k:ByteArray):CellD:=⟨k,getKey b k⟩
theorem mapS {α β:Type} {f:α→β} {l:List α} {D:List β} {k:Nat} {x:α} (h:D=(l.take k).map f) (hx:nth l k=some x):D++[f x]=(l.take (k+1)).map f:=by
 rw [h,nth_take_snoc hx,List.map_append];rfl
theorem mapE {α β:Type} {f:α→β} {l:List α} {D:List β} {k:Nat} (h:D=(l.take k).map f) (hk:l.length≤k):D=l.map f:=by
 rw [h,List.take_of_length_le hk]
theorem diffL_len (a b:List CellD):(diffL a b).length≤a.length+b.length:=by
 have:=diffK_length a b (a.length+b.length)
 rwa [diffK_all (m:=a.length) (n:=b.length) rfl rfl (by omega)] at this
def bytesD (D:List CellD) (x:TxD):Nat:=(recT 100000 (changesD D (runS D x.proc x.calls))).size
set_option maxRecDepth 100000
set_option maxHeartbeats 1000000
theorem cells_of {s:List CellD} {n:Int} (hn:n≤1048576) (h:¬ subOr n (szCells s) < 0):cellsOk s∧s.length≤1048576:=by
 have h1:=sz_of h
 unfold szCells at h1
 refine ⟨fun c hc=>?_,by omega⟩
 have h2:c.key.size+c.val.size≤sumOf szCellD s:=sumOf_mem szCellD s c hc
 omega
def plainV (m:List (Nat × Value)) (o:Oper):Option Value:=
 match o.op with
 | .move x=>opd m x
 | .assign x=>opd m x
 | .extract x i=>match opd m x with
  | some (.tuple vs)=>nth vs.toList i
  | _=>none
 | .pick c x y=>match opd m c with
  | some (.bool true)=>opd m x
  | some (.bool false)=>opd m y
  | _=>none
 | .unOp .not _ x=>match opd m x with
  | some (.bool b)=>some (.bool (!b))
  | _=>none
 | .binOp op _ x y _=>match isCmp op,opd m x,opd m y with
  | true,some (.int .i64 i),some (.int .i64 j)=>some (.bool (cmpI op i j))
  | true,some (.int .u8 i),some (.int .u8 j)=>some (.bool (cmpI op i j))
  | true,some (.string i),some (.string j)=>some (.bool (cmpS op i j))
  | _,_,_=>none
 | _=>none
section
variable {P:Program} {ops:Array Oper} {Q:Exit→Act→World→Prop} {o:Oper} {rest:List Oper} {a:Act} {w:World} {d n:Nat} {m:List (Nat × Value)} {v:Value} {x y:Operand} {K:Act→World→Prop}
theorem plain_run (F:Fr n m a) (h:plainV m o=some v) (w:World):(execOp a.eval o).run P w=.ok (.value v) w:=by
 unfold plainV at h
 split at h
 ·rename_i ho;exact r_move ho (F.g h)
 ·rename_i ho;exact r_assign ho (F.g h)
 ·rename_i x i ho
  split at h
  ·rename_i vs hx;exact r_extract ho (F.g hx) (by rw [nth_eq] at h;simpa using h)
  ·cases h
 ·rename_i c x y ho
  split at h
  ·rename_i hc;exact r_pick (b:=true) ho (F.g hc) (F.g h)
  ·rename_i hc;exact r_pick (b:=false) ho (F.g hc) (F.g h)
  ·cases h
 ·rename_i t x ho
  split at h
  ·rename_i b hx;cases h;exact r_not ho (F.g hx)
  ·cases h
 ·rename_i op t x y u ho
  split at h
  ·rename_i h1 h2 h3;cases h;exact r_cmp (isCmp_or h1) ho (F.g h2) (F.g h3) rfl
  ·rename_i h1 h2 h3;cases h;exact r_cmp (isCmp_or h1) ho (F.g h2) (F.g h3) rfl
  ·rename_i h1 h2 h3;cases h;exact r_cmps (isCmp_or h1) ho (F.g h2) (F.g h3) rfl
  ·cases h
 ·cases h
theorem m_pl (F:Fr n m a) (h:plainV m o=some v) (hw:wantM ops m o=some true) (hd:o.dst=some d) (hp:Nat.blt d n=true) (k:∀ a',Fr n ((d,v)::m) a'→wpList P ops Q rest a' w):wpList P ops Q (o::rest) a w:=
 l_op (f_val F (wantM_eq F hw) hd (plain_run F h w) hp k)
def wpAnyN (P:Program) (ops:Array Oper) (Q:Exit→Act→World→Prop) (nd:Nat→Bool) (S:World→Prop):Nat→Array Bool→Act→World→Prop
 | 0,listed,a,w=>Region.ready .any ops listed=[]∧Q .normal a w
 | fuel+1,listed,a,w=>(Region.ready .any ops listed=[]→Q .normal a w) ∧
  ∀ i ∈ Region.ready .any ops listed,wpOp P ops Q i (fun a' w'=>(nd i=true→S w→S w')∧wpAnyN P ops Q nd S fuel (listed.setIfInBounds i true) a' w') a w
variable {S T:World→Prop} {nd:Nat→Bool} {ex:List Nat}
theorem wpAny_ofN:∀ (fuel:Nat) (listed:Array Bool) (a:Act) (w:World),wpAnyN P ops Q nd S fuel listed a w→wpAny P .any ops Q fuel listed a w
 | 0,_,_,_,h=>h
 | fuel+1,_,_,_,h=>⟨h.1,fun i hi=>wpOp_mono (fun a' w' h'=>wpAny_ofN fuel _ a' w' h'.2) (h.2 i hi)⟩
theorem wpAnyN_first {i:Nat} {oi:Oper} {v:Value} (hi:ops[i]? = some oi) (hsel:∀ (j:Nat) (o:Oper) cs b,ops[j]? = some o→o.op≠.select cs b)
 (hQ:∀ c a w,Q (.panic c) (a.put oi.dst v) w→Q (.panic c) a w)
 (hT:∀ j oj,ops[j]? = some oj→(∀ e ∈ oj.after,Region.binds .any e=true→e.on≠i)→∀ w w',(nd j=true→S w→S w')→T w→T w') :
 ∀ (fuel:Nat) (listed:Array Bool) (a:Act) (w:World),
  (∀ j oj,ops[j]? = some oj→j≠i→listed.getD j true=false→(∀ e ∈ oj.after,Region.binds .any e=true→e.on≠i)→oi.apart ops oj=true) →
  i ∈ Region.ready .any ops listed→YieldsIf P ops T oi v a→T w →
  wpAnyN P ops Q nd S fuel (listed.setIfInBounds i true) (a.put oi.dst v) w→wpAnyN P ops Q nd S (fuel+1) listed a w:=by
 intro fuel
 induction fuel with
 | zero=>
  intro listed a w _ hr hy hS H
  refine ⟨fun h=>(by rw [h] at hr;cases hr),fun j hj=>?_⟩
  by_cases hji:j=i
  ·subst hji;exact hy.wpOp hi hS ⟨fun _ h=>h,H⟩
  ·have:=ready_mono hj hji
   rw [H.1] at this
   cases this
 | succ fuel ih=>
  intro listed a w hfree hr hy hS H
  refine ⟨fun h=>(by rw [h] at hr;cases hr),fun j hj=>?_⟩
  by_cases hji:j=i
  ·subst hji;exact hy.wpOp hi hS ⟨fun _ h=>h,H⟩
  ·have h1:=H.2 j (ready_mono hj hji)
   obtain ⟨hjun,oj,hoj,hall⟩:=mem_ready.1 hj
   have hnot:∀ e ∈ oj.after,Region.binds .any e=true→e.on≠i:=fun e he hb heq=>by
    have h1:=hall e he hb
    have h0:=(mem_ready.1 hr).1
    rw [heq] at h1
    rcases Nat.lt_or_ge i listed.size with h'|h'
    ·simp [h'] at h0 h1;rw [h0] at h1;cases h1
    ·simp [Array.getElem?_eq_none h'] at h1
   have h2:=wpOp_putIf hoj (hfree j oj hoj hji hjun hnot) (fun cs b=>hsel i oi cs b hi) (fun cs b=>hsel j oj cs b hoj) hQ hy h1
   have hfree':∀ k ok,ops[k]? = some ok→k≠i→(listed.setIfInBounds j true).getD k true=false →
    (∀ e ∈ ok.after,Region.binds .any e=true→e.on≠i)→oi.apart ops ok=true:=fun k ok hk hki hun hno=>by
    refine hfree k ok hk hki ?_ hno
    by_cases hjk:j=k
    ·subst hjk;exact hjun
    ·rw [getD_set_ne true hjk] at hun;exact hun
   refine wpOp_mono (fun a' w' h3=>⟨h3.2.1,ih (listed.setIfInBounds j true) a' w' hfree' (ready_mono hr (Ne.symm hji)) h3.1 (hT j oj hoj hnot w w' h3.2.1 hS) ?_⟩) h2
   rw [Array.setIfInBounds_comm _ _ hji]
   exact h3.2.2
def ldOf (o:Oper):Bool:=match o.op with
 | .load _ _=>true
 | _=>false
def tkOf (o:Oper):Bool:=match o.op with
 | .move _ | .assign _ | .pick _ _ _ | .extract _ _ | .binOp _ _ _ _ _ | .unOp _ _ _ | .load _ _ | .fieldAddr _ _ _ | .indexAddr _ _ _ | .index _ _ _ | .slice _ _ _ _ _ | .nilCheck _=>true
 | .call c=>match c.callee with
  | .builtin .len=>true
  | .builtin .min=>true
  | _=>false
 | _=>false
def edgeTo (o:Oper) (i:Nat):Bool:=o.after.any fun e=>Region.binds .any e && e.on == i
def ndOf (ops:Array Oper) (ex:List Nat) (j:Nat):Bool:=match ops[j]? with
 | some oj=>(List.range ops.size).any fun i=>(match ops[i]? with
  | some oi=>ldOf oi && !ex.contains i
  | none=>false) && !edgeTo oj i
 | none=>false
theorem ndOf_of {ex:List Nat} {i j:Nat} {oi oj:Oper} (hi:ops[i]? = some oi) (hl:ldOf oi=true) (hx:ex.contains i=false) (hj:ops[j]? = some oj) (he:∀ e ∈ oj.after,Region.binds .any e=true→e.on≠i):ndOf ops ex j=true:=by
 unfold ndOf
 rw [hj]
 refine List.any_eq_true.2 ⟨i,List.mem_range.2 (Array.getElem?_eq_some_iff.1 hi).1,?_⟩
 rw [hi]
 have:edgeTo oj i=false:=by
  cases h:edgeTo oj i
  ·rfl
  ·obtain ⟨e,h1,h2⟩:=Array.any_eq_true'.1 h
   simp only [Bool.and_eq_true,beq_iff_eq] at h2
   exact absurd h2.2 (he e h1 h2.1)
 show ((ldOf oi && !ex.contains i) && !edgeTo oj i)=true
 rw [this,hl,hx];rfl
def certN (ops:Array Oper) (ex:List Nat):List Nat→Array Bool→Bool
 | [],listed=>(Region.ready .any ops listed).isEmpty
 | i::r,listed=>(match ops[i]? with
  | none=>false
  | some o=>if (tkOf o && !ex.contains i)=true then (Region.ready .any ops listed).contains i && Region.free .any ops listed i else Region.ready .any ops listed == [i]) && certN ops ex r (listed.setIfInBounds i true)
def seqN (P:Program) (ops:Array Oper) (ex:List Nat) (Q:Exit→Act→World→Prop) (S:World→Prop):List Nat→Act→World→Prop
 | [],a,w=>Q .normal a w
 | i::r,a,w=>∃ o,ops[i]? = some o∧if (tkOf o && !ex.contains i)=true then
  ∃ v,(if ldOf o=true then S w∧YieldsIf P ops S o v a else YieldsIf P ops (fun _=>True) o v a)∧seqN P ops ex Q S r (a.put o.dst v) w
  else st1 P ops Q o (fun a' w'=>(ndOf ops ex i=true→S w→S w')∧seqN P ops ex Q S r a' w') a w
theorem seqN_any (hs:Region.noSelect ops=true) (hQ:∀ c a w,¬ Q (.panic c) a w):∀ (order:List Nat) (listed:Array Bool) (a:Act) (w:World),certN ops ex order listed=true→seqN P ops ex Q S order a w→wpAnyN P ops Q (ndOf ops ex) S order.length listed a w
 | [],listed,a,w,hc,h=>⟨List.isEmpty_iff.1 hc,h⟩
 | i::r,listed,a,w,hc,h=>by
  unfold certN at hc
  rw [Bool.and_eq_true] at hc
  obtain ⟨hc1,hc2⟩:=hc
  unfold seqN at h
  obtain ⟨o,ho,h⟩:=h
  rw [ho] at hc1
  simp only at hc1
  by_cases ht:(tkOf o && !ex.contains i)=true
  ·rw [if_pos ht,Bool.and_eq_true] at hc1
   rw [if_pos ht] at h
   obtain ⟨v,hy,h⟩:=h
   have hn:=seqN_any hs hQ r _ _ w hc2 h
   by_cases hl:ldOf o=true
   ·rw [if_pos hl] at hy
    exact wpAnyN_first (T:=S) ho (Region.noSelect_spec hs) (fun c a w q=>absurd q (hQ c _ w)) (fun j oj hj he w w' hp hS=>hp (ndOf_of ho hl (by simp only [Bool.and_eq_true,Bool.not_eq_true'] at ht;exact ht.2) hj he) hS) _ _ _ _ (Region.free_spec ho hc1.2) (by simpa using hc1.1) hy.2 hy.1 hn
   ·rw [if_neg hl] at hy
    exact wpAnyN_first (T:=fun _=>True) ho (Region.noSelect_spec hs) (fun c a w q=>absurd q (hQ c _ w)) (fun _ _ _ _ _ _ _ _=>trivial) _ _ _ _ (Region.free_spec ho hc1.2) (by simpa using hc1.1) hy trivial hn
  ·rw [if_neg ht] at hc1 h
   have hr:Region.ready .any ops listed=[i]:=by simpa using hc1
   refine ⟨fun h0=>(by rw [hr] at h0;cases h0),fun j hj=>?_⟩
   rw [hr] at hj
   obtain rfl:=List.mem_singleton.1 hj
   unfold wpOp
   rw [ho]
   exact wpOp_mono' (fun a' w' h'=>⟨h'.1,seqN_any hs hQ r _ a' w' hc2 h'.2⟩) h
where
 wpOp_mono' {o:Oper} {K K':Act→World→Prop} {a:Act} {w:World} (h:∀ a w,K a w→K' a w) (hh:st1 P ops Q o K a w):st1 P ops Q o K' a w:=by
  unfold st1 at *
  split
  ·rename_i hw;rw [if_pos hw] at hh;exact hh.imp (Oper.wp_mono h) id
  ·rename_i hw;rw [if_neg hw] at hh;exact h _ _ hh
theorem x_rd {id:Nat} (ex order:List Nat) (S:World→Prop) (hm:P.follows .mixedOrders=true) (hc:(order.length == ops.size && Region.noSelect ops && certN ops ex order (Array.replicate ops.size false))=true)
 (h:seqN P ops ex (Exit.then (fun a w=>Q .normal a w) fun _ _ _=>False) S order a w.drew):(Code.region id ops true).wp P Q a w:=by
 rw [Bool.and_eq_true,Bool.and_eq_true] at hc
 have hl:order.length=ops.size:=by simpa using hc.1.1
 refine x_cut (fun a w=>Q .normal a w) (wp_region_any hm (wpAny_ofN _ _ _ _ (nd:=ndOf ops ex) (S:=S) ?_)) fun _ _ h=>h
 have:=seqN_any hc.1.2 (fun _ _ _ h=>h) order _ _ _ hc.2 h
 rw [hl] at this
 exact this
theorem n_end (h:Q .normal a w):seqN P ops ex (Exit.then (fun a w=>Q .normal a w) fun _ _ _=>False) S [] a w:=h
variable {r:List Nat} {i:Nat}
theorem n_pl (F:Fr n m a) (hi:ops[i]? = some o) (ht:((tkOf o && !ex.contains i) && !ldOf o)=true) (h:plainV m o=some v) (hw:wantM ops m o=some true) (hd:o.dst=some d) (hp:Nat.blt d n=true) (k:∀ a',Fr n ((d,v)::m) a'→seqN P ops ex Q S r a' w):seqN P ops ex Q S (i::r) a w:=by
 rw [Bool.and_eq_true] at ht
 have hl:ldOf o=false:=by simpa using ht.2
 refine ⟨o,hi,?_⟩
 rw [if_pos ht.1]
 refine ⟨v,by rw [if_neg (by rw [hl];decide)];exact .inl ⟨wantM_eq F hw,fun w _=>plain_run F h w⟩,?_⟩
 rw [hd]
 exact k _ (F.put rfl hp)
theorem n_val (F:Fr n m a) (hi:ops[i]? = some o) (ht:((tkOf o && !ex.contains i) && !ldOf o)=true) (h:∀ w,(execOp a.eval o).run P w=.ok (.value v) w) (hw:wantM ops m o=some true) (hd:o.dst=some d) (hp:Nat.blt d n=true) (k:∀ a',Fr n ((d,v)::m) a'→seqN P ops ex Q S r a' w):seqN P ops ex Q S (i::r) a w:=by
 rw [Bool.and_eq_true] at ht
 have hl:ldOf o=false:=by simpa using ht.2
 refine ⟨o,hi,?_⟩
 rw [if_pos ht.1]
 refine ⟨v,by rw [if_neg (by rw [hl];decide)];exact .inl ⟨wantM_eq F hw,fun w _=>h w⟩,?_⟩
 rw [hd]
 exact k _ (F.put rfl hp)
theorem n_op (hi:ops[i]? = some o) (ht:(tkOf o && !ex.contains i)=false) (h:st1 P ops Q o (fun a' w'=>(ndOf ops ex i=true→S w→S w')∧seqN P ops ex Q S r a' w') a w):seqN P ops ex Q S (i::r) a w:=⟨o,hi,by rw [if_neg (by rw [ht];decide)];exact h⟩
abbrev Hld:Type:=Nat × List Value × TypeId
def HdS (l:List Hld) (w:World):Prop:=∀ p ∈ l,w.heap[p.1]? = some (.cells p.2.1.toArray p.2.2 (0,0))
theorem HdS.bl {l:List Hld} {w w':World} (h:HdS l w) (hb:Bl w w'):HdS l w':=fun p hp=>(hb.block p.1 (Array.getElem?_eq_some_iff.1 (h p hp)).1).trans (h p hp)
theorem HdS.nil {w:World} : HdS [] w:=fun _ h=>by cases h
theorem HdS.cons {l:List Hld} {w:World} {L:List Atom} {b:Nat} {cs:List Value} {T:TypeId} (A:At w L) (j:Nat) (hL:nth L j=some (bx b cs T)) (h:HdS l w):HdS ((b,cs,T)::l) w:=fun p hp=>by
 rcases List.mem_cons.1 hp with rfl|hp
 ·exact A.ok _ (nth_mem hL)
 ·exact h p hp
theorem m_ld {L:List Atom} {t:TypeId} {g:Bool} {k b off:Nat} {cs vs:List Value} {T:TypeId} [I:TIc P t g k] (F:Fr n m a) (A:At w L) (q:Nat) (ho:o.op=.load t x) (hw:wantM ops m o=some true) (hx:opd m x=some (.pointer (some ⟨b,off,none⟩))) (hq:nth L q=some (bx b cs T))
 (hv:(cs.drop off).take k=vs) (hk:vs.length=k) (hg:(g || k == 1)=true) (hd:o.dst=some d) (hp:Nat.blt d n=true) (kk:∀ a',Fr n ((d,ofCells g vs)::m) a'→wpList P ops Q rest a' w):wpList P ops Q (o::rest) a w:=
 l_op (f_val F (wantM_eq F hw) hd (r_loadB A q I.h hq ho (F.g hx) hv hk (fun e=>by subst e;simpa using hg) rfl) hp kk)
end
end Go.Proofs.YtipdbeklopjbmaaGreatDoor
