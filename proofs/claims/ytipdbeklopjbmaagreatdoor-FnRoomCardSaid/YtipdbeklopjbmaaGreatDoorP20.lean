/-
  Texts laid together: DatCc, MF, MI.
-/
import Derived.Test.YtipdbeklopjbmaaGreatDoorP19
set_option linter.unusedVariables false
set_option linter.unusedSimpArgs false
namespace Go.Proofs.YtipdbeklopjbmaaGreatDoor
open Go.ChangeShapes Go.WideShapes Go.ChangeAt Go.RowKit
def J2q (c:CallD):Bool:=inB c.kind 1 22 && (decide (((c.name.size:Nat):Int)≤20) && (decide (((c.to_.size:Nat):Int)≤20) && decide (((c.text.size:Nat):Int)≤64)))
def doS (D:List CellD) (P:Int) (c:CallD):List CellD:=
 if Ja D (kR P (⟨#[47,115]⟩:ByteArray))≠1 then D else if J2q c=false then D
 else if c.kind=1 then mkS D c.name else if c.kind=2 then lkS D c.name c.to_ else if c.kind=3 then ulS D c.name else if c.kind=4 then rnS D c.name c.to_
 else if c.kind=7 then (if JV D c.name=0 then D else wfF D (JV D c.name) c.a c.text)
 else if c.kind=8 then (if JV D c.name=0 then D else ctF D (JV D c.name) c.a)
 else if c.kind=9 then mpS D else if c.kind=10 then ppS D c.a c.text else if c.kind=11 then tpS D c.a
 else if c.kind=12 then (if (spF D P).1.2=0 then fkS (spF D P).2 P (spF D P).1.1 else (spF D P).2)
 else if c.kind=13 then (if (enF D P c.a).1=0 then J1Y (enF D P c.a).2 (kPg P) else (enF D P c.a).2)
 else if c.kind=14 then rpS D P c.a else if c.kind=16 then sgS D c.a c.b else if c.kind=17 then tsS D P else if c.kind=18 then tmS D P c.a else if c.kind=19 then tkS D c.a
 else if c.kind=20 then gpS D P c.a c.text else if c.kind=22 then poS D c.text else D
section
variable {D:List CellD} {P:Int} {c:CallD}
theorem JbB (h:Ja D (kR P (⟨#[47,115]⟩:ByteArray))≠1):D=doS D P c:=(if_pos h).symm
theorem Jgn {α:Sort _} {p q:Prop} [Decidable p] [Decidable q] {x y:α} (h:q):x=if p then x else if q then x else y:=by
 split <;> first|rfl|rw [if_pos h]
theorem JbA (h:J2q c=false):D=doS D P c:=Jgn h
theorem JJ (h1:¬ Ja D (kR P (⟨#[47,115]⟩:ByteArray))≠1) (h2:J2q c=true) {x:List CellD} {k:Int} (hk:c.kind=k)
 (h:(if k=1 then mkS D c.name else if k=2 then lkS D c.name c.to_ else if k=3 then ulS D c.name else if k=4 then rnS D c.name c.to_
 else if k=7 then (if JV D c.name=0 then D else wfF D (JV D c.name) c.a c.text)
 else if k=8 then (if JV D c.name=0 then D else ctF D (JV D c.name) c.a)
 else if k=9 then mpS D else if k=10 then ppS D c.a c.text else if k=11 then tpS D c.a
 else if k=12 then (if (spF D P).1.2=0 then fkS (spF D P).2 P (spF D P).1.1 else (spF D P).2)
 else if k=13 then (if (enF D P c.a).1=0 then J1Y (enF D P c.a).2 (kPg P) else (enF D P c.a).2)
 else if k=14 then rpS D P c.a else if k=16 then sgS D c.a c.b else if k=17 then tsS D P else if k=18 then tmS D P c.a else if k=19 then tkS D c.a
 else if k=20 then gpS D P c.a c.text else if k=22 then poS D c.text else D)=x):x=doS D P c:=by
 subst hk
 unfold doS
 rw [if_neg h1,if_neg (by rw [h2];decide)];exact h.symm
def flS (D:List CellD) (c:CallD):List CellD:=if JV D c.name=0 then D else if c.kind=6 then D else if c.kind=7 then wfF D (JV D c.name) c.a c.text else ctF D (JV D c.name) c.a
theorem JbC (h:c.kind=6):D=flS D c:=by
 unfold flS
 rw [if_pos h]
 split <;> rfl
theorem JbD (h:c.kind=7):(if JV D c.name=0 then D else wfF D (JV D c.name) c.a c.text)=flS D c:=by
 unfold flS
 rw [h];rfl
theorem JbE (h:c.kind=8):(if JV D c.name=0 then D else ctF D (JV D c.name) c.a)=flS D c:=by
 unfold flS
 rw [h];rfl
def prS (D:List CellD) (P:Int) (c:CallD):List CellD:=if c.kind=12 then (if (spF D P).1.2=0 then fkS (spF D P).2 P (spF D P).1.1 else (spF D P).2)
 else if c.kind=13 then (if (enF D P c.a).1=0 then J1Y (enF D P c.a).2 (kPg P) else (enF D P c.a).2) else if c.kind=14 then rpS D P c.a else D
theorem do_p (h1:¬ Ja D (kR P (⟨#[47,115]⟩:ByteArray))≠1) (h2:J2q c=true) (h:c.kind=12∨c.kind=13∨c.kind=14∨c.kind=15):prS D P c=doS D P c:=by
 rcases h with h|h|h|h
 ·exact JJ h1 h2 h (by unfold prS;rw [h];rfl)
 ·exact JJ h1 h2 h (by unfold prS;rw [h];rfl)
 ·exact JJ h1 h2 h (by unfold prS;rw [h];rfl)
 exact JJ h1 h2 h (by unfold prS;rw [h];rfl)
theorem J4s (h:J2q c=true):1≤c.kind∧c.kind≤22∧c.name.size≤20∧c.to_.size≤20∧c.text.size≤64:=by
 unfold J2q inB at h
 simp only [Bool.and_eq_true,decide_eq_true_eq] at h
 exact ⟨h.1.1,h.1.2,zO,zO,zO⟩
theorem Jb6 (h:(spF D P).1.2=0):1≤(spF D P).1.1∧(spF D P).1.1≤12:=by
 unfold spF at h ⊢
 split at h
 ·simp at h
 rename_i h1
 rw [if_neg h1]
 dsimp only
 unfold J0R
 have h0:0≤Ja D (⟨#[99,47,112,114,111,99]⟩:ByteArray):=by unfold Ja;omega
 rw [if_neg zO]
 dsimp only
 omega
end
theorem Je6 (s p:ByteArray):(J1C s p).size≤s.size:=by
 unfold J1C
 split
 ·rw [ByteArray.size_extract];omega
 exact Nat.le_refl _
theorem JeK {x:ByteArray} (h:x.size ≥ 5):3≤(J1C x (⟨#[47,112]⟩:ByteArray)).size:=by
 have e:((⟨#[47,112]⟩:ByteArray)).size=2:=rfl
 unfold J1C
 split
 ·rw [ByteArray.size_extract];omega
 omega
def J0m (D:List CellD) (P:Int) (cs:List CallD):List CellD:=cs.foldl (fun D c=>doS D P c) D
theorem J3s {D:List CellD} {P:Int} {cs:List CallD} {k:Nat} {c:CallD} (h:nth cs k=some c):doS (J0m D P (cs.take k)) P c=J0m D P (cs.take (k+1)):=by
 rw [J1l h];unfold J0m;rw [List.foldl_append];rfl
def J3t (a b:List CellD):List CellD:=(J0Z a b).map fun k=>⟨k,Jl b k⟩
def ddp:List ByteArray→List ByteArray
 | []=>[]
 | x::l=>if (ddp l).any (fun y=>decide (y=x))=true then ddp l else x::ddp l
theorem Jag {x:ByteArray} {l:List ByteArray} : l.any (fun y=>decide (y=x))=true ↔ x ∈ l:=by simp
theorem J4v {x:ByteArray} : ∀ {l:List ByteArray},x ∈ ddp l ↔ x ∈ l
 | []=>Iff.rfl
 | y::l=>by
  rw [ddp]
  split
  ·rename_i h
   rw [J4v,List.mem_cons]
   constructor
   ·exact .inr
   rintro (rfl|h1)
   ·exact J4v.1 (Jag.1 h)
   exact h1
  rw [List.mem_cons,List.mem_cons,J4v]
theorem J6G:∀ l:List ByteArray,(ddp l).Nodup
 | []=>List.nodup_nil
 | y::l=>by
  rw [ddp]
  split
  ·exact J6G l
  rename_i h;exact List.nodup_cons.2 ⟨fun hm=>h (Jag.2 hm),J6G l⟩
theorem Jah:∀ l:List ByteArray,(ddp l).length≤l.length
 | []=>Nat.le_refl _
 | y::l=>by
  rw [ddp]
  have:=Jah l
  split
  ·rw [List.length_cons];omega
  rw [List.length_cons,List.length_cons];omega
theorem JaD:∀ {a b x y:List UInt8},(∀ q ∈ a,q≠47)→(∀ q ∈ b,q≠47)→a++47::x=b++47::y→x=y
 | [],[],_,_,_,_,h=>by simpa using h
 | [],q::b,_,_,_,hb,h=>absurd (by simpa using (List.cons.inj h).1.symm) (hb q (List.mem_cons_self ..))
 | q::a,[],_,_,ha,_,h=>absurd (by simpa using (List.cons.inj h).1) (ha q (List.mem_cons_self ..))
 | q::a,r::b,_,_,ha,hb,h=>JaD (fun z hz=>ha z (List.mem_cons_of_mem _ hz)) (fun z hz=>hb z (List.mem_cons_of_mem _ hz)) (List.cons.inj h).2
theorem Jaj (u:Nat):∀ q ∈ Lib.decDigits u,q≠47:=fun q hq e=>by
 have:=J6W u q hq
 unfold isD at this
 subst e
 revert this;decide
theorem Jai (n:Int):∀ q ∈ (Jj n).data.toList,q≠47:=fun q hq=>by
 unfold Jj Lib.itoa at hq
 split at hq
 ·have hq':q ∈ (45::Lib.decDigits n.natAbs):=by simpa using hq
  rcases List.mem_cons.1 hq' with rfl|h
  ·decide
  exact Jaj _ q h
 exact Jaj _ q (by simpa using hq)
theorem Jgp {t P:Int} {s s':ByteArray} (h:kPg t++s=kPg P++s'):s=s':=by
 have h1:=congrArg (fun x:ByteArray=>x.data.toList) h
 unfold kPg Ju at h1
 simp only [ByteArray.data_append,Array.toList_append,List.append_assoc] at h1
 have h2:(Jj t).data.toList++47::s.data.toList=(Jj P).data.toList++47::s'.data.toList:=by
  have:=List.append_cancel_left h1
  simpa using this
 exact ByteArray.ext (Array.toList_inj.1 (JaD (Jai t) (Jai P) h2))
def uS (D:List CellD) (P:Int):List ByteArray:=D.filterMap (fun c=>if J0h c.key (kPg P) then some (c.key.extract (kPg P).size c.key.size) else none)++(List.range 4).map fun p=>Jj ((p:Nat):Int)++(⟨#[]⟩:ByteArray)
def uG:List ByteArray:=(List.range 1000).flatMap fun n:Nat=>[Ju (⟨#[114,47]⟩:ByteArray) n (⟨#[47,115]⟩:ByteArray),Ju (⟨#[103,47]⟩:ByteArray) n (⟨#[47,116]⟩:ByteArray),Ju (⟨#[103,47]⟩:ByteArray) n (⟨#[47,104]⟩:ByteArray)]++(List.range 1000).map fun k:Nat=>Ju (Ju (⟨#[103,47]⟩:ByteArray) n (⟨#[47,113,47]⟩:ByteArray)) k (⟨#[]⟩:ByteArray)
def uF (D:List CellD) (P:Int):List ByteArray:=(List.range 12).flatMap fun t=>(uS D P).map fun s=>kPg ((t+1:Nat):Int)++s
def uK (D:List CellD) (P:Int):List ByteArray:=(uS D P).map (fun s=>kPg P++s)++(uF D P++uG)
def J2f (D:List CellD) (P:Int):Uni where
 K:=fun x=>x ∈ uK D P
 S:=fun s=>s ∈ uS D P
 P:=P
 page:=fun p h0 h3=>by
  obtain ⟨q,rfl⟩:=Int.eq_ofNat_of_zero_le h0
  exact List.mem_append.2 (.inr (List.mem_map.2 ⟨q,List.mem_range.2 zO,rfl⟩))
 own:=fun s h=>List.mem_append.2 (.inl (List.mem_map.2 ⟨s,h,rfl⟩))
 fork:=fun t h1 h2 s h=>by
  obtain ⟨q,rfl⟩:∃ q:Nat,t=((q+1:Nat):Int):=⟨(t - 1).toNat,zO⟩
  exact List.mem_append.2 (.inr (List.mem_append.2 (.inl (List.mem_flatMap.2 ⟨q,List.mem_range.2 zO,List.mem_map.2 ⟨s,h,rfl⟩⟩))))
 inj:=fun _ _ _ _ _ h=>Jgp h
 sig:=fun n k hn hk=>by
  have hg:∀ x,x ∈ uG→x ∈ uK D P:=fun x hx=>List.mem_append.2 (.inr (List.mem_append.2 (.inr hx)))
  have hf:∀ x,x ∈ [Ju (⟨#[114,47]⟩:ByteArray) n (⟨#[47,115]⟩:ByteArray),Ju (⟨#[103,47]⟩:ByteArray) n (⟨#[47,116]⟩:ByteArray),Ju (⟨#[103,47]⟩:ByteArray) n (⟨#[47,104]⟩:ByteArray)]++(List.range 1000).map (fun k:Nat=>Ju (Ju (⟨#[103,47]⟩:ByteArray) n (⟨#[47,113,47]⟩:ByteArray)) k (⟨#[]⟩:ByteArray))→x ∈ uG:=fun x hx=>List.mem_flatMap.2 ⟨n,List.mem_range.2 zO,hx⟩
  exact ⟨hg _ (hf _ (List.mem_append.2 (.inl (List.mem_cons_self ..)))),hg _ (hf _ (List.mem_append.2 (.inl (List.mem_cons_of_mem _ (List.mem_cons_self ..))))),hg _ (hf _ (List.mem_append.2 (.inl (List.mem_cons_of_mem _ (List.mem_cons_of_mem _ (List.mem_cons_self ..)))))),hg _ (hf _ (List.mem_append.2 (.inr (List.mem_map.2 ⟨k,List.mem_range.2 zO,rfl⟩))))⟩
theorem J7o {α β:Type} {f:α→List β} {n:Nat} : ∀ {l:List α},(∀ x ∈ l,(f x).length≤n)→(l.flatMap f).length≤l.length * n
 | [],_=>by simp
 | x::l,h=>by
  rw [List.flatMap_cons,List.length_append,List.length_cons,Nat.succ_mul]
  have h1:=h x (List.mem_cons_self ..)
  have h2:=J7o (f:=f) (n:=n) (l:=l) fun y hy=>h y (List.mem_cons_of_mem _ hy)
  omega
theorem Ji5 (D:List CellD) (P:Int):(uS D P).length≤D.length+4:=by
 unfold uS
 have:=List.length_filterMap_le (fun c:CellD=>if J0h c.key (kPg P) then some (c.key.extract (kPg P).size c.key.size) else none) D
 rw [List.length_append,List.length_map,List.length_range];omega
theorem Ji3:uG.length≤1003000:=by
 unfold uG
 refine Nat.le_trans (J7o (n:=1003) fun x _=>?_) (by rw [List.length_range];decide)
 rw [List.length_append,List.length_map,List.length_range];simp
theorem Ji4 (D:List CellD) (P:Int):(uK D P).length≤13 * D.length+1003052:=by
 unfold uK
 rw [List.length_append,List.length_append,List.length_map]
 have h1:=Ji5 D P
 have h2:=Ji3
 have h3:(uF D P).length≤12 * (D.length+4):=by
  unfold uF
  refine Nat.le_trans (J7o (n:=D.length+4) fun x _=>?_) (by rw [List.length_range];exact Nat.le_refl _)
  rw [List.length_map];exact h1
 omega
theorem J48 {D:List CellD} {P:Int} (h:J0t D) (hl:D.length≤1048576):Un (J2f D P) 15800000 D [] []:=by
 refine ⟨ddp (D.map (·.key)++uK D P),?_,J6G _,fun x hx=>J4v.2 (List.mem_append.2 (.inr hx)),fun _ h=>(by cases h),fun _ h=>(by cases h),List.Pairwise.nil,List.Pairwise.nil,fun c hc=>J4v.2 (List.mem_append.2 (.inl (List.mem_map.2 ⟨c,hc,rfl⟩))),zO,h,fun c hc s e=>?_⟩
 ·refine Nat.le_trans (Jah _) ?_
  rw [List.length_append,List.length_map]
  have:=Ji4 D P
  omega
 refine List.mem_append.2 (.inl (List.mem_filterMap.2 ⟨c,hc,?_⟩))
 change c.key=kPg P++s at e
 have hb:J0h c.key (kPg P)=true:=by
  unfold J0h
  refine decide_eq_true ⟨by rw [e,ByteArray.size_append];omega,?_⟩
  rw [e,show (kPg P).size=0+(kPg P).size by omega]
  simp [ByteArray.extract_append]
 rw [if_pos hb]
 have:=J92 hb
 exact congrArg some (J8g (this.trans e))
theorem Un.base {X:Uni} {u:Nat} {D:List CellD} {R W:List ByteArray} (h:Un X u D R W):Un (X.ext (R++W)) u D [] []:=by
 obtain ⟨U,h1,h2⟩:=h
 exact ⟨U,h1,h2.nd,fun x hx=>hx.elim (h2.kn x) fun hx=>(List.mem_append.1 hx).elim (h2.rd x) (h2.wr x),fun _ h=>(by cases h),fun _ h=>(by cases h),List.Pairwise.nil,List.Pairwise.nil,h2.ks,h2.ln,h2.ok,h2.pg⟩
theorem J9c {l m:List ByteArray} {x:ByteArray} (h:x ∈ J0p l m):x ∈ l∨x ∈ m:=by
 unfold J0p at h
 induction m generalizing l with
 | nil=>exact .inl h
 | cons y m ih=>
  rcases ih h with h1|h1
  ·exact (J3y.1 h1).imp id fun e=>by rw [e];exact List.mem_cons_self ..
  exact .inr (List.mem_cons_of_mem _ h1)
theorem Un.join {X:Uni} {u:Nat} {D:List CellD} {R W R' W':List ByteArray} (h:Un (X.ext (R++W)) u D R' W') (hR:srtL R) (hW:srtL W):Un X u D (J0p R R') (J0p W W'):=by
 obtain ⟨U,h1,h2⟩:=h
 exact ⟨U,h1,h2.nd,fun x hx=>h2.kn x (.inl hx),fun x hx=>(J9c hx).elim (fun h=>h2.kn x (.inr (List.mem_append.2 (.inl h)))) (h2.rd x),fun x hx=>(J9c hx).elim (fun h=>h2.kn x (.inr (List.mem_append.2 (.inr h)))) (h2.wr x),hR.join,hW.join,h2.ks,h2.ln,h2.ok,h2.pg⟩
theorem Un.srt {X:Uni} {u:Nat} {D:List CellD} {R W:List ByteArray} (h:Un X u D R W):srtL R∧srtL W:=let ⟨_,_,h2⟩:=h;⟨h2.rs,h2.ws⟩
theorem Un.fresh {X:Uni} {u:Nat} {D:List CellD} {R W:List ByteArray} (h:Un X u D R W):Un X u D [] []:=by
 obtain ⟨U,h1,h2⟩:=h
 exact ⟨U,h1,h2.nd,h2.kn,fun _ h=>(by cases h),fun _ h=>(by cases h),List.Pairwise.nil,List.Pairwise.nil,h2.ks,h2.ln,h2.ok,h2.pg⟩
theorem Ja5:∀ {l m:List ByteArray},srtL l→srtL m→(∀ x,x ∈ l ↔ x ∈ m)→l=m
 | [],[],_,_,_=>rfl
 | [],y::m,_,_,h=>absurd ((h y).2 (List.mem_cons_self ..)) (by simp)
 | x::l,[],_,_,h=>absurd ((h x).1 (List.mem_cons_self ..)) (by simp)
 | x::l,y::m,hl,hm,h=>by
  have h1:=List.pairwise_cons.1 hl
  have h2:=List.pairwise_cons.1 hm
  have e:x=y:=by
   rcases List.mem_cons.1 ((h x).1 (List.mem_cons_self ..)) with e|e
   ·exact e
   rcases List.mem_cons.1 ((h y).2 (List.mem_cons_self ..)) with e'|e'
   ·exact e'.symm
   exact absurd rfl (J5A (J6H (h1.1 y e') (h2.1 x e)))
  subst e
  refine congrArg _ (Ja5 h1.2 h2.2 fun z=>?_)
  constructor
  ·intro hz
   exact (List.mem_cons.1 ((h z).1 (List.mem_cons_of_mem _ hz))).resolve_left fun e=>J5A (h1.1 z hz) e.symm
  intro hz
  exact (List.mem_cons.1 ((h z).2 (List.mem_cons_of_mem _ hz))).resolve_left fun e=>J5A (h2.1 z hz) e.symm
theorem J9J (a b:List CellD):∀ (l:List CellD) (o:List ByteArray),srtL o→srtL (l.foldl (J1N a b) o)
 | [],_,h=>h
 | c::l,o,h=>J9J a b l _ (by unfold J1N;split;exact h.put;exact h)
theorem J9I (a b:List CellD) (x:ByteArray):∀ (l:List CellD) (o:List ByteArray),x ∈ l.foldl (J1N a b) o ↔ x ∈ o∨((∃ c ∈ l,c.key=x)∧Jl a x≠Jl b x)
 | [],o=>by simp
 | c::l,o=>by
  rw [List.foldl_cons,J9I a b x l]
  unfold J1N
  constructor
  ·rintro (h|⟨⟨d,hd,e⟩,h2⟩)
   ·split at h
    ·rename_i hne
     rcases J3y.1 h with h|rfl
     ·exact .inl h
     exact .inr ⟨⟨c,List.mem_cons_self ..,rfl⟩,hne⟩
    exact .inl h
   exact .inr ⟨⟨d,List.mem_cons_of_mem _ hd,e⟩,h2⟩
  rintro (h|⟨⟨d,hd,e⟩,h2⟩)
  ·refine .inl ?_
   split
   ·exact J3y.2 (.inl h)
   exact h
  rcases List.mem_cons.1 hd with rfl|hd
  ·refine .inl ?_
   subst e
   rw [if_pos h2]
   exact J3y.2 (.inr rfl)
  exact .inr ⟨⟨d,hd,e⟩,h2⟩
theorem JeO (a b:List CellD):srtL (J0Z a b):=J9J a b _ _ List.Pairwise.nil
theorem JeN {a b:List CellD} {x:ByteArray} : x ∈ J0Z a b ↔ ((∃ c ∈ a,c.key=x)∨∃ c ∈ b,c.key=x)∧Jl a x≠Jl b x:=by
 unfold J0Z
 rw [J9I]
 simp only [List.not_mem_nil,false_or,List.mem_append,or_and_right,exists_or]
theorem J5I:okS ⟨#[]⟩:=by unfold okS;decide
theorem J7G:J1 0:=⟨by decide,by decide⟩
theorem Jiu:J1 2:=⟨by decide,by decide⟩
theorem Jiv:J1 4:=⟨by decide,by decide⟩
structure GL (α:Type) where
 a:Option Addr
 n:Nat
 c:Nat
 l:List α
abbrev GL.val {α:Type} (x:GL α):Value:=.slice x.a x.n x.c
abbrev owG {α:Type} (e k:Nat) (enc:α→List Value) (ok:α→Prop) (x:GL α):Atom:=ow e k enc ok (.slice x.a x.n x.c) x.l
section
variable {P:Program} {ops:Array Oper} {Q:Exit→Act→World→Prop} {K:Act→World→Prop} {o o1 o2:Oper} {rest:List Oper} {a:Act} {w:World} {d d1 d2 t t2 n i:Nat} {x y:Operand} {m:List (Nat × Value)} {L:List Atom} {α:Type} {enc:α→List Value} {ok:α→Prop}
theorem kBd {ps:Array (Nat × Operand)} {places:List (Nat × Nat)} {z out:List Value} (F:Fr n m a) (B:BI P t places z) (ho:o.op=.build t ps:=by exact rfl) (hs:ps.toList.all (fun p=>(opd m p.2).isSome)=true:=by exact rfl) (hf:J4a places z (ps.toList.map fun p=>(p.1,((opd m p.2).getD undef).cells.toList))=some out:=by exact rfl)
 (hd:o.dst=some d:=by exact rfl) (hw:J8 ops m o=some true:=by exact rfl) (hp:Nat.blt d n=true:=by exact rfl) (k:∀ a',Fr n ((d,.agg out.toArray)::m) a'→K a' w):st1 P ops Q o K a w:=by
 have e:ps.toList.map (fun p=>(p.1,a.eval p.2))=ps.toList.map fun p=>(p.1,(opd m p.2).getD undef):=List.map_congr_left fun p hp=>by
  obtain ⟨v,hv⟩:=Option.isSome_iff_exists.1 (List.all_eq_true.1 hs p hp)
  rw [hv,F.g hv];rfl
 exact Jf F (Jk F hw) hd (J06 B ho e (by rw [List.map_map];exact hf)) hp k
theorem JbI {t:Nat} {lo:Operand} {s:ByteArray} {z1:Int} [I:UTc P t .string] (F:Fr n m a) (l:Nat) (ho:o.op=.slice t x (some lo) none none:=by exact rfl) (hx:opd m x=some (.string s):=by exact rfl) (h1:opd m lo=some (iV z1):=by exact rfl) (hz1:z1=((l:Nat):Int):=by exact yBp) (hl:l≤s.size:=by omega) (hd:o.dst=some d:=by exact rfl) (hw:J8 ops m o=some true:=by exact rfl) (hp:Nat.blt d n=true:=by exact rfl)
 (kk:(s.extract l s.size).size=s.size - l→∀ a',Fr n ((d,.string (s.extract l s.size))::m) a'→K a' w):st1 P ops Q o K a w:=by
 subst hz1
 exact Jf F (Jk F hw) hd (J2p I.h ho (F.g hx) (F.g h1) rfl hl (Nat.le_refl _) rfl) hp (kk (by rw [ByteArray.size_extract];omega))
theorem J72 {e k:Nat} (A:At w L):Mv L w (ow e k enc ok (sN) ([]:List α)::L) w:=by
 have hM:=At.frame (New:=[ow e k enc ok (sN) ([]:List α)]) A [] rfl (Mv.same (At.one (J75 w _ _ _ _) fun b hb=>by cases hb) fun b hb=>by rw [J1b] at hb;cases hb)
 rw [J19] at hM
 exact hM
theorem J4b {e k bytes:Nat} {z0:Value} (F:Fr n m a) (A:At w L) (E:ElemT P t e z0 k bytes enc)
 (ho:o.op=.buildSlice t 0 #[]:=by exact rfl) (hd:o.dst=some d:=by exact rfl) (hw:J8 ops m o=some true:=by exact rfl) (hp:Nat.blt d n=true:=by exact rfl)
 (kk:∀ b w',Mv L w (ow e k enc ok (.slice (aO b) 0 0) []::L) w'→∀ a',Fr n ((d,.slice (aO b) 0 0)::m) a'→K a' w'):st1 P ops Q o K a w:=
 J02 (ok:=ok) (vs:=[]) F A [] E (Jk F hw) hd ho rfl (by simp) hp rfl rfl rfl (by intro x hx;cases hx) fun b a1 w1 F1 M1=>kk b w1 M1 a1 F1
theorem J1P {e k bytes:Nat} {z0:Value} {s v:Operand} {sv xv:Value} {l:List α} (F:Fr n m a) (A:At w L) (j:Nat) (x1:α) (E:ElemT P t e z0 k bytes enc)
 (hsm:Nat.ble (1 * k) 16777216=true:=by exact rfl)
 (hL:nth L j=some (ow e k enc ok sv l):=by exact rfl) (hsel:JP L.length [j]=true:=by exact rfl) (hlen:(l.length+1) * bytes≤140737488355328:=by omega) (hx:ok x1:=by assumption)
 (ho1:o1.op=.buildSlice t 1 #[(0,v)]:=by exact rfl) (hv:opd m v=some xv:=by exact rfl) (hc:xv.cells.toList=enc x1:=by exact rfl) (hd1:o1.dst=some d1:=by exact rfl) (hw1:J8 ops m o1=some true:=by exact rfl) (hp1:Nat.blt d1 n=true:=by exact rfl)
 (ho2:o2.op=.call { callee:=.builtin .append,args:=#[s,.tmp d1],argTypes:=#[t,t] }:=by exact rfl) (hs:∀ u,opd ((d1,u)::m) s=some sv:=by intro _;exact rfl) (hd2:o2.dst=some d2:=by exact rfl) (hw2:∀ u,J8 ops ((d1,u)::m) o2=some true:=by intro _;exact rfl) (hp2:Nat.blt d2 n=true:=by exact rfl)
 (kk:∀ b q c u w',q=l.length+1→Mv L w ([ow e k enc ok (.slice b q c) (l++[x1])]++del L [j]) w'→∀ a',Fr n ((d2,.slice b q c)::(d1,u)::m) a'→wpList P ops Q rest a' w'):wpList P ops Q (o1::o2::rest) a w:=by
 refine J0 (J02 (ok:=ok) (vs:=[xv]) F A [x1] E (Jk F hw1) hd1 ho1 rfl hsm hp1 (by simp [F.g hv]) rfl (by simp [hc]) (by intro x h;rw [List.mem_singleton.1 h];exact hx) fun b a1 w1 F1 M1=>?_)
 have R1:RSl k (Enc enc ok) w1 (.slice (aO b) 1 1) [x1]:=(At.rd M1.at' E.hk 0 rfl).1
 have M2:Mv L w L w1:=M1.trans (by
  have:=M1.at'.drop 0
  rw [J2G] at this
  exact this)
 refine J0 (Jv F1 M2.at' j E hL hsel (Jk F1 (hw2 _)) hd2 ho2 hp2 (F1.g (hs _)) (F1.g (by show look _ d1=_;unfold look;rw [Nat.beq_refl])) R1 (by simpa using hlen) fun b' q c a2 w2 F2 M3 hq=>?_)
 exact kk b' q c _ w2 (by simpa using hq) (M2.trans M3) a2 F2
end
section
variable {X:Uni} {w w' w0:World} {L L0:List Atom} {b u u':Nat} {v v':MV} {D D':List CellD} {H:Nat→Prop} {α:Type} {e k:Nat} {enc:α→List Value} {ok:α→Prop} {q:GL α→Prop}
def PIL {α:Type} (X:Uni) (b:Nat) (v:MV) (D:List CellD) (u:Nat) (w:World) (e k:Nat) (enc:α→List Value) (ok:α→Prop) (q:GL α→Prop) (D':List CellD) (u':Nat) (en:Ending) (w':World):Prop:=
 ∃ v' s,en=.returned (GL.val s)∧Mv [mB X b v D u] w [owG e k enc ok s,mB X b v' D' u'] w'∧q s
def PSL {α:Type} (X:Uni) (H:Nat→Prop) (w:World) (e k:Nat) (enc:α→List Value) (ok:α→Prop) (q:GL α→Prop) (D':List CellD) (u':Nat) (en:Ending) (w':World):Prop:=
 ∃ v' s,en=.returned (.tuple #[MV.val v',GL.val s])∧Mv [] w [owG e k enc ok s] w'∧RM X (V H w [owG e k enc ok s]) w' v' D' u'∧q s
theorem J7X {s:GL α} (M:St [mB X b v D u] w (owG e k enc ok s::mB X b v' D' u'::L) w') {D1:List CellD} {u1:Nat} (hq:q s) (e1:D1=D') (hu:u'≤u1:=by omega):PIL X b v D u w e k enc ok q D1 u1 (.returned (GL.val s)) w':=by
 subst e1
 refine ⟨v',s,rfl,?_,hq⟩
 have m:=M.mv.pick [0,1] (by rfl)
 have h2:=At.frame (New:=[mB X b v' D1 u1]) m.at' [1] rfl (Jat (by exact m.at'.pick (is:=[1]) rfl) hu)
 exact m.trans (h2.pick [1,0] rfl)
theorem Jc2 {s:GL α} (M:Sp X H w (owG e k enc ok s::L) w' v' D' u') {D1:List CellD} {u1:Nat} (hq:q s) (e1:D1=D') (hu:u'≤u1:=by omega):PSL X H w e k enc ok q D1 u1 (.returned (.tuple #[MV.val v',GL.val s])) w':=by
 subst e1
 refine ⟨v',s,rfl,M.st.mv.pick [0] rfl,(M.v.le hu).mono fun c hc=>⟨hc.1,fun hf=>hc.2 ?_⟩,hq⟩
 exact J0T.2 (.inl (J1b.1 hf))
variable {P:Program} {ops:Array Oper} {Q:Exit→Act→World→Prop} {K:Act→World→Prop} {o:Oper} {a:Act} {d n:Nat} {m:List (Nat × Value)}
theorem kLI {f:Nat} {vs:List Value} [I:CFc P f] (F:Fr n m a) (M:St L0 w0 (mB X b v D u::L) w)
 (hx:J1u m o=vs:=by exact rfl) (hf:J1v o=f:=by exact rfl) (ho:J1E m o=true:=by exact rfl) (hd:o.dst=some d:=by exact rfl) (hw:J8 ops m o=some true:=by exact rfl) (hp:Nat.blt d n=true:=by exact rfl)
 (hc:Calls P f vs.toArray w (PIL X b v D u w e k enc ok q D' u'))
 (kk:∀ v' s w',q s→St L0 w0 (owG e k enc ok s::mB X b v' D' u'::L) w'→∀ a',Fr n ((d,GL.val s)::m) a'→K a' w'):st1 P ops Q o K a w:=
 J0D F hc hx hf ho hd hw hp fun _ w' ⟨v',s,h1,h2,h3⟩=>⟨_,h1,kk v' s w' h3 (M.then (by
  have:=At.frame (New:=[owG e k enc ok s,mB X b v' D' u']) M.mv.at' [0] rfl h2
  rw [J2G] at this
  exact this))⟩
theorem kLS {f:Nat} {vs:List Value} [I:CFc P f] (F:Fr n m a) (M:Sp X H w0 L w v D u)
 (hx:J1u m o=vs:=by exact rfl) (hf:J1v o=f:=by exact rfl) (ho:J1E m o=true:=by exact rfl) (hd:o.dst=some d:=by exact rfl) (hw:J8 ops m o=some true:=by exact rfl) (hp:Nat.blt d n=true:=by exact rfl)
 (hc:Calls P f vs.toArray w (PSL X (V H w0 L) w e k enc ok q D' u'))
 (kk:∀ v' s w',q s→Sp X H w0 (owG e k enc ok s::L) w' v' D' u'→∀ a',Fr n ((d,.tuple #[MV.val v',GL.val s])::m) a'→K a' w'):st1 P ops Q o K a w:=
 J0D F hc hx hf ho hd hw hp fun _ w' ⟨v',s,h1,h2,h3,h4⟩=>⟨_,h1,kk v' s w' h4 (M.callN h2 h3)⟩
theorem GL.inv {s:GL α} (A:At w L) (j:Nat) (hL:nth L j=some (owG e k enc ok s)) (hk:∀ x,(enc x).length=k):s.n=s.l.length:=(Rd.inv (At.rd A hk j hL)).1
end
section
variable {P:Program} {ops:Array Oper} {Q:Exit→Act→World→Prop} {K:Act→World→Prop} {o o1 o2:Oper} {rest:List Oper} {a:Act} {w:World} {d d1 d2 t t2 n i:Nat} {x y:Operand} {m:List (Nat × Value)} {L:List Atom} {α:Type} {enc:α→List Value} {ok:α→Prop}
theorem J5R {k bytes e:Nat} {z:Value} {g:Bool} {ad:Option Addr} {q c:Nat} {l:List α} (I:TI P t2 g k) (F:Fr n m a) (R:RSl k (Enc enc ok) w (.slice ad q c) l) (E:ElemT P t e z k bytes enc) (i:Nat) (ev:α→Value) (hi:i < q)
 (ho1:o1.op=.indexAddr t x y:=by exact rfl) (hx:opd m x=some (.slice ad q c):=by exact rfl) (hy:opd m y=some (nV i):=by exact rfl) (hd1:o1.dst=some d1:=by exact rfl) (hw1:J8 ops m o1=some true:=by exact rfl) (hp1:Nat.blt d1 n=true:=by exact rfl)
 (ho2:o2.op=.load t2 (.tmp d1):=by exact rfl) (hd2:o2.dst=some d2:=by exact rfl) (hg2:o2.guard=none:=by exact rfl) (hp2:Nat.blt d2 n=true:=by exact rfl) (hg:(g || k == 1)=true:=by exact rfl) (hev:∀ x,J1O g (enc x)=ev x:=by intro _;rfl)
 (kk:∀ x p,nth l i=some x→ok x→∀ a',Fr n ((d2,ev x)::(d1,p)::m) a'→wpList P ops Q rest a' w):wpList P ops Q (o1::o2::rest) a w:=by
 have R':Rd k enc ok (fun _=>True) w (.slice ad q c) l:=⟨R,fun _ _ _ _ _=>trivial⟩
 obtain ⟨B,O,x1,had,hxn,hok,hlen,cl⟩:=R'.at i hi
 refine J0 (Jf F (Jk F hw1) hd1 (JB (i:=i) E ho1 ((F.g hx).trans (by rw [had])) (F.g hy) rfl zO) hp1 fun a1 F1=>?_)
 refine J0 (Jf F1 (Jk F1 (by unfold J8;rw [hg2])) hd2 (JD (cs:=enc x1) I ho2 (F1.g (by show look _ d1=_;unfold look;rw [Nat.beq_refl])) hlen (fun e=>by subst e;rw [hlen];simpa using hg) cl) hp2 fun a2 F2=>?_)
 rw [hev] at F2
 exact kk x1 _ hxn hok a2 F2
end
section
variable {P:Program} {ops:Array Oper} {Q:Exit→Act→World→Prop} {K:Act→World→Prop} {o1 o2 o3:Oper} {a:Act} {w:World} {d1 d2 d3 t t2 n:Nat} {x y:Operand} {m:List (Nat × Value)} {α:Type} {enc:α→List Value} {ok:α→Prop} {rl ex:List Nat} {i1 i2 i3:Nat} {hl:List Hld} {kl:List RdX}
theorem JbP {k bytes e:Nat} {z:Value} {g:Bool} {ad:Option Addr} {q c:Nat} {l:List α} (I:TI P t2 g k) (F:Fr n m a) (hS:HdK hl kl w) (E:ElemT P t e z k bytes enc) (j i:Nat) (ev:α→Value) (hi:i < q) (hL:nth kl j=some (rdx k enc ok (.slice ad q c) l):=by exact rfl)
 (hi1:ops[i1]? = some o1:=by exact rfl) (hi2:ops[i2]? = some o2:=by exact rfl) (hx1:ex.contains i1=false:=by exact rfl) (hx2:ex.contains i2=false:=by exact rfl)
 (ho1:o1.op=.indexAddr t x y:=by exact rfl) (hx:opd m x=some (.slice ad q c):=by exact rfl) (hy:opd m y=some (nV i):=by exact rfl) (hd1:o1.dst=some d1:=by exact rfl) (hw1:J8 ops m o1=some true:=by exact rfl) (hp1:Nat.blt d1 n=true:=by exact rfl)
 (ho2:o2.op=.load t2 (.tmp d1):=by exact rfl) (hd2:o2.dst=some d2:=by exact rfl) (hg2:o2.guard=none:=by exact rfl) (hp2:Nat.blt d2 n=true:=by exact rfl) (hg:(g || k == 1)=true:=by exact rfl) (hev:∀ x,J1O g (enc x)=ev x:=by intro _;rfl)
 (kk:∀ x p,nth l i=some x→ok x→∀ a',Fr n ((d2,ev x)::(d1,p)::m) a'→Ji P ops ex Q (HdK hl kl) rl a' w):Ji P ops ex Q (HdK hl kl) (i1::i2::rl) a w:=by
 have hrd:∀ w',HdK hl kl w'→Rd k enc ok (fun _=>True) w' (.slice ad q c) l:=fun w' h'=>⟨h'.2 _ (Jm hL),fun _ _ _ _ _=>trivial⟩
 obtain ⟨B,O,x1,had,hxn,hok,hlen,_⟩:=(hrd w hS).at i hi
 have t1:JT o1=true:=by unfold JT;rw [ho1]
 have t2':JT o2=true:=by unfold JT;rw [ho2]
 have l1:JM o1=false:=by unfold JM;rw [ho1]
 have l2:JM o2=true:=by unfold JM;rw [ho2]
 refine ⟨o1,hi1,?_⟩
 rw [if_pos (by rw [t1,hx1];rfl)]
 refine ⟨_,by rw [if_neg (by rw [l1];decide)];exact .inl ⟨Jk F hw1,fun w' _=>JB (i:=i) E ho1 ((F.g hx).trans (by rw [had])) (F.g hy) rfl zO⟩,?_⟩
 rw [hd1]
 have F1:=F.put (d:=d1) rfl hp1 (v:=.pointer (some ⟨B,O+i * k,none⟩))
 refine ⟨o2,hi2,?_⟩
 rw [if_pos (by rw [t2',hx2];rfl)]
 refine ⟨ev x1,?_,?_⟩
 ·rw [if_pos l2]
  refine ⟨hS,.inl ⟨Jk F1 (by unfold J8;rw [hg2]),fun w' h'=>?_⟩⟩
  obtain ⟨B',O',x',ad',hxn',_,hlen',cl'⟩:=(hrd w' h').at i hi
  rw [had] at ad'
  cases ad'
  rw [hxn] at hxn'
  cases hxn'
  rw [← hev]
  exact JD (cs:=enc x1) I ho2 (F1.g (by show look _ d1=_;unfold look;rw [Nat.beq_refl])) hlen' (fun e=>by subst e;rw [hlen'];simpa using hg) cl'
 rw [hd2]
 exact kk x1 _ hxn hok _ (F1.put rfl hp2)
theorem JbO {k bytes e off fi T:Nat} {z:Value} {g:Bool} {kq:Nat} {ad:Option Addr} {q c:Nat} {l:List α} (I:TI P t2 g kq) (J:FI P T fi off) (F:Fr n m a) (hS:HdK hl kl w) (E:ElemT P t e z k bytes enc) (j i:Nat) (hi:i < q) (pv:α→List Value) (hpv:∀ x,((enc x).drop off).take kq=pv x:=by intro _;rfl) (hpl:∀ x,(pv x).length=kq:=by intro _;rfl) (hL:nth kl j=some (rdx k enc ok (.slice ad q c) l):=by exact rfl)
 (hi1:ops[i1]? = some o1:=by exact rfl) (hi2:ops[i2]? = some o2:=by exact rfl) (hi3:ops[i3]? = some o3:=by exact rfl) (hx1:ex.contains i1=false:=by exact rfl) (hx2:ex.contains i2=false:=by exact rfl) (hx3:ex.contains i3=false:=by exact rfl)
 (ho1:o1.op=.indexAddr t x y:=by exact rfl) (hx:opd m x=some (.slice ad q c):=by exact rfl) (hy:opd m y=some (nV i):=by exact rfl) (hd1:o1.dst=some d1:=by exact rfl) (hw1:J8 ops m o1=some true:=by exact rfl) (hp1:Nat.blt d1 n=true:=by exact rfl)
 (ho2:o2.op=.fieldAddr T (.tmp d1) fi:=by exact rfl) (hd2:o2.dst=some d2:=by exact rfl) (hg2:o2.guard=none:=by exact rfl) (hp2:Nat.blt d2 n=true:=by exact rfl)
 (ho3:o3.op=.load t2 (.tmp d2):=by exact rfl) (hd3:o3.dst=some d3:=by exact rfl) (hg3:o3.guard=none:=by exact rfl) (hp3:Nat.blt d3 n=true:=by exact rfl) (hg:(g || kq == 1)=true:=by exact rfl)
 (kk:∀ x p p2,nth l i=some x→ok x→∀ a',Fr n ((d3,J1O g (pv x))::(d2,p2)::(d1,p)::m) a'→Ji P ops ex Q (HdK hl kl) rl a' w):Ji P ops ex Q (HdK hl kl) (i1::i2::i3::rl) a w:=by
 have hrd:∀ w',HdK hl kl w'→Rd k enc ok (fun _=>True) w' (.slice ad q c) l:=fun w' h'=>⟨h'.2 _ (Jm hL),fun _ _ _ _ _=>trivial⟩
 obtain ⟨B,O,x1,had,hxn,hok,hlen,_⟩:=(hrd w hS).at i hi
 have t1:JT o1=true:=by unfold JT;rw [ho1]
 have t2':JT o2=true:=by unfold JT;rw [ho2]
 have t3':JT o3=true:=by unfold JT;rw [ho3]
 have l1:JM o1=false:=by unfold JM;rw [ho1]
 have l2:JM o2=false:=by unfold JM;rw [ho2]
 have l3:JM o3=true:=by unfold JM;rw [ho3]
 refine ⟨o1,hi1,?_⟩
 rw [if_pos (by rw [t1,hx1];rfl)]
 refine ⟨_,by rw [if_neg (by rw [l1];decide)];exact .inl ⟨Jk F hw1,fun w' _=>JB (i:=i) E ho1 ((F.g hx).trans (by rw [had])) (F.g hy) rfl zO⟩,?_⟩
 rw [hd1]
 have F1:=F.put (d:=d1) rfl hp1 (v:=.pointer (some ⟨B,O+i * k,none⟩))
 refine ⟨o2,hi2,?_⟩
 rw [if_pos (by rw [t2',hx2];rfl)]
 refine ⟨_,by rw [if_neg (by rw [l2];decide)];exact .inl ⟨Jk F1 (by unfold J8;rw [hg2]),fun w' _=>J13 J ho2 (F1.g (by show look _ d1=_;unfold look;rw [Nat.beq_refl])) rfl⟩,?_⟩
 rw [hd2]
 have F2:=F1.put (d:=d2) rfl hp2 (v:=.pointer (some ⟨B,O+i * k+off,none⟩))
 refine ⟨o3,hi3,?_⟩
 rw [if_pos (by rw [t3',hx3];rfl)]
 refine ⟨J1O g (pv x1),?_,?_⟩
 ·rw [if_pos l3]
  refine ⟨hS,.inl ⟨Jk F2 (by unfold J8;rw [hg3]),fun w' h'=>?_⟩⟩
  obtain ⟨B',O',x',ad',hxn',_,hlen',cl'⟩:=(hrd w' h').at i hi
  rw [had] at ad'
  cases ad'
  rw [hxn] at hxn'
  cases hxn'
  refine JD (cs:=pv x1) I ho3 (F2.g (by show look _ d2=_;unfold look;rw [Nat.beq_refl])) (hpl x1) (fun e=>by subst e;rw [hpl];simpa using hg) fun j v hj=>?_
  rw [← hpv,List.getElem?_take] at hj
  split at hj
  ·rw [List.getElem?_drop] at hj
   have:=cl' (off+j) v hj
   rw [J0a] at this ⊢
   rw [show O+i * k+off+j=O+i * k+(off+j) by omega]
   exact this
  cases hj
 rw [hd3]
 exact kk x1 _ _ hxn hok _ (F2.put rfl hp3)
end
theorem J0c {P:Program} {ops:Array Oper} {Q:Exit→Act→World→Prop} {o:Oper} {a:Act} {w:World} {d n i fi s off b c c':Nat} {x:Operand} {m:List (Nat × Value)} {S:World→Prop} {r ex:List Nat} [I:FIc P s fi off] (F:Fr n m a) (hi:ops[i]? = some o) (ht:((JT o && !ex.contains i) && !JM o)=true) (ho:o.op=.fieldAddr s x fi) (hw:J8 ops m o=some true) (hx:opd m x=some (.pointer (some ⟨b,c,none⟩))) (hc:c+off=c') (hd:o.dst=some d) (hp:Nat.blt d n=true)
 (k:∀ a',Fr n ((d,.pointer (some ⟨b,c',none⟩))::m) a'→Ji P ops ex Q S r a' w):Ji P ops ex Q S (i::r) a w:=J2w F hi ht (fun _=>J13 I.h ho (F.g hx) hc) hw hd hp k
end Go.Proofs.YtipdbeklopjbmaaGreatDoor
