/-
  The ground of this seat's proofs: what a world keeps (Below, KeepBut), how a slice reads (RSl), how a law's arguments are read, and the frame of a law's statement. Nothing here speaks of one function.
-/
import Derived.Test.YtipdbeklopjbmaaGreatDoorRows
import Derived.WalkKit
import Derived.ProofKit
import Derived.OpenShut
import Derived.BigQuiet
import Derived.Lib.Hide
import Derived.Lib.SmallJoins
import Derived.WalkLawsBesides
import Derived.WalkSpells
import Derived.Deep.QuietTactic
import Derived.Deep.RegionWith
import Derived.Deep.DeepFit
set_option linter.unusedVariables false
set_option linter.unusedSimpArgs false
namespace Go.Proofs.YtipdbeklopjbmaaGreatDoor
open Go.ChangeShapes Go.WideShapes Go.ChangeAt Go.RowKit
abbrev pT (b:Nat) : Value:=.pointer (some ⟨b,0,none⟩)
abbrev pP (b k:Nat) : Value:=.pointer (some ⟨b,k,none⟩)
abbrev aO (b:Nat) : Option Addr:=some ⟨b,0,none⟩
abbrev sN : Value:=.slice none 0 0
abbrev nV (n:Nat) : Value:=.int .i64 (n:Int)
abbrev iV (n:Int) : Value:=.int .i64 n
abbrev bA (l:List UInt8) : ByteArray:=⟨l.toArray⟩
theorem zA {p:Prop} (h:p:=by assumption) : p:=h
theorem zO {p:Prop} (h:p:=by omega) : p:=h
theorem zK {p:Prop} (h:p:=by kernel_rfl) : p:=h
theorem ya {p:Prop} (h:p:=by first|(unfold J1;omega)|exact Jbe (by assumption)|exact J7m zO) : p:=h
theorem yb {p:Prop} (h:p:=by first|assumption|omega|(simp <;> omega)) : p:=h
theorem yc {p:Prop} (h:p:=by first|assumption|exact J7G|exact Jiu|exact Jiv|exact Jbe (by assumption)) : p:=h
theorem yd {p:Prop} (h:p:=by first|assumption|exact J7y _|exact ⟨zO,zO⟩|(unfold J1 at *;omega)) : p:=h
theorem ye {p:Prop} (h:p:=by first|assumption|exact J5I|exact (show okS g.1.2 from by unfold okS;omega)|exact (show okS g1.1.2 from by unfold okS;omega)) : p:=h
theorem yf {p:Prop} (h:p:=by first|assumption|exact ⟨zO,zO⟩|(unfold J1 at *;omega)|(simp only [J1];omega)) : p:=h
theorem yg {p:Prop} (h:p:=by first|assumption|exact ⟨zO,zO⟩|(unfold J1 at *;omega)) : p:=h
theorem yh {p:Prop} (h:p:=by first|rw [(Jbu zA).1]|rw [(Jbv zA zA).1]|(rw [(J7L zA zA zA).1];exact Jix zA)|(rw [(J7L zA zA zA).1])|exact (Jbu zA).2|exact (Jbv zA zA).2|(rw [(J7L zA zA zA).2];exact congrArg (fun n:Nat=>(n:Int)) (Jhq zA))) : p:=h
theorem yi {p:Prop} (h:p:=by first|assumption|(unfold okS;omega)|exact zU|exact J1c (by first|omega|(simp only [sz0,sz1,sz2];omega))) : p:=h
theorem yj {p:Prop} (h:p:=by first|exact J2b (nt zA)|exact J0J hx1 (J27 zA)|exact J0J hx1 (J28 zA)|exact J22 (congrArg List.length hk_1) zO|exact J25 (by rw [← J05 hk_1 zO];assumption)|(rw [J05 hk_1 zO];exact J26 (nf zA) (fun j hj=>hk_2 j zO) (by rw [← J05 hk_1 zO];assumption))) : p:=h
theorem yk {p:Prop} (h:p:=by first|assumption|exact J7y _|omega|(unfold J1;omega)) : p:=h
theorem yl {p:Prop} (h:p:=by first|exact J09 (J2k zA)|exact J08 (J2k zA)|exact J09 (J2l zA)|exact J08 (J2l zA)|exact J09 (J0Q (k:=2 * k) zO zA)|exact J08 (J0Q (k:=2 * k) zO zA)|exact J09 (J0Q (k:=2 * k+1) zO zA)|exact J08 (J0Q (k:=2 * k+1) zO zA)|exact (J2D (k:=k) hk_1 zA zO zO).1|exact (J2D (k:=k) hk_1 zA zO zO).2) : p:=h
theorem ym {p:Prop} (h:p:=by first|assumption|(unfold J1 at *;omega)) : p:=h
theorem yn {p:Prop} (h:p:=by first|assumption|(unfold J1;dsimp only;omega)|(unfold J1;omega)) : p:=h
theorem yo {p:Prop} (h:p:=by first|exact rz (J9o zA)|exact rzB (J9o zA)|exact rz (J9Y (k:=k) zO zO)|exact rzB (J9Y (k:=k) zO zO)|exact rz (JbZ (k:=k) zA zO zA)|exact rzB (JbZ (k:=k) zA zO zA)|exact rz (Jc0 (k:=k) zA zO zA)|exact rzB (Jc0 (k:=k) zA zO zA)|exact Jiq (Jc1 (k:=k) zA zO zA zA).1|exact (Jc1 (k:=k) zA zO zA zA).2.symm) : p:=h
theorem yp {p:Prop} (h:p:=by first|omega|((repeat (first|rw [List.length_append]|rw [List.length_cons]|rw [List.length_nil]|rw [List.length_take]|rw [List.length_drop])) <;> omega)) : p:=h
theorem yq {p:Prop} (h:p:=by first|assumption|omega) : p:=h
theorem ys {p:Prop} (h:p:=by first|exact J09 (J3h zA zA)|exact J08 (J3h zA zA)|exact J09 (J3j zA zA)|exact J08 (J3j zA zA)|exact J09 (J3i zA)|exact J08 (J3i zA)|exact (J3k zA zA zA).1|exact (J3k zA zA zA).2) : p:=h
theorem yt {p:Prop} (h:p:=by first|exact rz (JbV zA zA)|exact rzB (JbV zA zA)|exact rz (JbW zA zA zA)|exact rzB (JbW zA zA zA)|exact rz (JbX zA zA zA)|exact rzB (JbX zA zA zA)|exact (JbY zA zA).1.symm|exact (JbY zA zA).2.symm) : p:=h
theorem yu {p:Prop} (h:p:=by first|exact JhA hk_1 hx1 zA zA zA|exact Jb0 hk_1 hx1 (.inl zA) zA|exact Jb0 hk_1 hx1 (.inr zA) zA|exact Jb1 hk_1 hx1 (.inl zA) zA|exact Jb1 hk_1 hx1 (.inr zA) zA|exact JhB hk_1 hx1 zA zA zA) : p:=h
theorem yv {p:Prop} (h:p:=by exact congrArg Value.bool (by unfold J2q;simp only [*,decide_true,decide_false,Bool.true_and,Bool.false_and,Bool.and_true,Bool.and_false];try rfl)) : p:=h
theorem yw {p:Prop} (h:p:=by first|(simp only [List.length_append,List.length_singleton];omega)|(dsimp only;omega)) : p:=h
theorem yx {p:Prop} (h:p:=by first|exact (List.nil_append _).trans (J5h (.inl (nt zA))).symm|exact (List.nil_append _).trans (J5h (.inr zO)).symm|(rw [← JfL hk_1 zO (nf zA) zO];first|rw [if_pos (nt zA)]|rw [if_neg (ne_false_of_eq_true (nf zA)),List.append_nil])) : p:=h
theorem yy {p:Prop} (h:p:=by first|exact (J5h (.inl (nt zA))).symm|exact (J5h (.inr zO)).symm|exact (J5b (nf zA) zA).symm|(rw [J6z (nf zA) zO zA];first|exact Jgm rfl zO|exact Jfy zO zO)) : p:=h
theorem yz {p:Prop} (h:p:=by first|decide|assumption|exact ksz (by first|assumption|(unfold J1 at *;omega)) (by decide)) : p:=h
theorem yBa {p:Prop} (h:p:=by first|assumption|exact J7y _|(unfold J1;dsimp only;omega)) : p:=h
theorem yBb {p:Prop} (h:p:=by first|omega|(unfold J1 at *;omega)) : p:=h
theorem yBd {p:Prop} (h:p:=by first|exact Jbm (nf zA)|exact J4c (nt zA)|exact J4O zA|exact J4c zA|exact J4O (nf zA)|exact J4c (nt zA)|exact msg_a zA zA|exact msg_b zA|exact msg_c zA) : p:=h
theorem yBe {p:Prop} (h:p:=by first|assumption|exact ⟨zO,zO⟩) : p:=h
theorem yBf {p:Prop} (h:p:=by first|exact (nt zA).symm|exact (nf zA).symm|exact (JeL (nt zA)).symm|exact (Je7 (nf zA)).symm) : p:=h
theorem yBg {p:Prop} (h:p:=by first|exact (J6y (j:=k) zO (by unfold nb;exact decide_eq_false zO)).symm|exact (J6x (fun j hj=>hk_1 j zO)).symm) : p:=h
theorem yBh {p:Prop} (h:p:=by first|exact JaP (J9T hx1) zA|exact JaO (J9T hx1) zA|exact JaP (J9j ln_a zA hx1) zA|exact JaO (J9j ln_a zA hx1) zA) : p:=h
theorem yBi {p:Prop} (h:p:=by first|rw [hk_1,Jas hx1 (of_decide_eq_true zA)]|rw [hk_1,Jar hx1 (of_decide_eq_false zA)]|rw [hk_1,Jas hx1 zA]|rw [hk_1,Jar hx1 zA]) : p:=h
theorem yBj {p:Prop} (h:p:=by first|omega|exact J42 (by assumption)|(simp only [sz0,sz1,sz2] at *;omega)) : p:=h
theorem yBk {p:Prop} (h:p:=by first|exact J9H (nf zA)|exact Jfo (nt zA)|exact (nf zA).symm|exact (nt zA).symm) : p:=h
theorem yBl {p:Prop} (h:p:=by first|exact J1V zO|(dsimp only;exact J1V zO)) : p:=h
theorem yBm {p:Prop} (h:p:=by first|exact (J9e (j:=k) zO (by unfold kb;exact decide_eq_false zO)).symm|exact (J9d (fun j hj=>hk_1 j zO)).symm) : p:=h
theorem yBn {p:Prop} (h:p:=by exact (J8O _ s k _ (by rw [← JO];exact hx1) (by first|assumption|exact decide_eq_true zA) (fun q hq y hy=>hk_1 q hq y (by rw [JO];exact hy))).symm) : p:=h
theorem yBo {p:Prop} (h:p:=by first|assumption|exact zU) : p:=h
theorem yBp {p:Prop} (h:p:=by first|rfl|omega) : p:=h
theorem yBq {p:Prop} (h:p:=by first|exact numZ (JgB zA)|exact Jbo (JgA zA)|exact Jbo (JfH zA)) : p:=h
theorem yBr {p:Prop} (h:p:=by first|omega|(have:=J1B text k;omega)) : p:=h
theorem yBs {p:Prop} (h:p:=by first|exact zU|(unfold okS;rw [J1n];omega)) : p:=h
theorem yBt {p:Prop} (h:p:=by first|exact (J9e (j:=k) zO (by rw [Jbi];simp_all)).symm|exact (J9d (fun j hj=>hk_1 j zO)).symm) : p:=h
theorem yBu {p:Prop} (h:p:=by first|exact fr_a zA|exact fr_b zA zA|exact fr_c zA zA) : p:=h
theorem yBv {p:Prop} (h:p:=by exact (J9b _ s (fun q hq y hy=>hk_1 q zO y (by rw [JO];exact hy))).symm) : p:=h
theorem yBw {p:Prop} (h:p:=by simp [Value.ownBlock]) : p:=h
theorem yBx {p:Prop} (h:p:=by first|rfl|assumption) : p:=h
theorem yBy {p:Prop} (h:p:=by first|decide|exact J1B _ _) : p:=h
theorem yBz {p:Prop} (h:p:=by simp [Act.eval,Act.put]) : p:=h
theorem yCa {p:Prop} (h:p:=by first|omega|rw [J9M text zA zO]) : p:=h
theorem yCb {p:Prop} (h:p:=by first|exact List.nil_append _|simp) : p:=h
theorem yCc {p:Prop} (h:p:=by first|omega|rw [J8z]) : p:=h
theorem yCd {p:Prop} (h:p:=by exact congrArg (Value.int .i64) zO) : p:=h
theorem yCe {p:Prop} (h:p:=by first|exact jo_t zA|exact jo_f zA) : p:=h
theorem yCf {p:Prop} (h:p:=by first|exact zU|(unfold okS;omega)) : p:=h
theorem yCg {p:Prop} (h:p:=by simp [Act.eval]) : p:=h
theorem JaA {k:IntKind} {a b:Int} (h:a=b):Ending.returned (.int k a)=.returned (.int k b):=by rw [h]
theorem JfU {a b:Bool} (h:a=b):Ending.returned (.bool a)=.returned (.bool b):=by rw [h]
theorem J3O (s:ByteArray):s.toList=s.data.toList:=ByteArray.toList_eq s
theorem J5c (a b:ByteArray):(a.toList == b.toList)=decide (a=b):=by
 rw [J3O,J3O]
 by_cases h:a=b
 ·subst h;simp
 have:¬ a.data=b.data:=fun e=>h (by cases a;cases b;simpa using e)
 simp [h,this]
abbrev Bl (w w':World):Prop:=Below w.heap.size w w'
theorem Bl.refl (w:World):Bl w w:=Below.refl _ _
theorem Bl.trans {a b c:World} (h:Bl a b) (k:Bl b c):Bl a c:=Below.trans h (Below.mono k h.size)
theorem Bl.alloc {a w:World} (h:Bl a w) (o:Obj):Bl a (w.alloc o):=Below.alloc h h.size o
theorem Bl.drew {a w:World} (h:Bl a w):Bl a w.drew:=Below.drew h
theorem Bl.drewN {a w:World} (h:Bl a w) (n:Nat):Bl a (w.drewN n):=h.trans ⟨rfl,rfl,rfl,Nat.le_refl _,fun _ _=>rfl⟩
theorem Bl.cellOf {w w':World} (h:Bl w w') {p:Addr} {v:Value} (hc:w.cell? p=some v):w'.cell? p=some v:=by
 rw [h.cell (World.block_lt_of_cell? w p hc)];exact hc
structure KeepBut (S:List Nat) (w w':World):Prop where
 os:w'.os=w.os
 tape:w'.tape=w.tape
 output:w'.output=w.output
 size:w.heap.size≤w'.heap.size
 block:∀ k,k < w.heap.size→k ∉ S→w'.heap[k]? = w.heap[k]?
theorem Bl.keep {w w':World} (h:Bl w w') (S:List Nat):KeepBut S w w':=⟨h.os,h.tape,h.output,h.size,fun k hk _=>h.block k hk⟩
theorem KeepBut.bl {w w':World} (h:KeepBut [] w w'):Bl w w':=⟨h.os,h.tape,h.output,h.size,fun k hk=>h.block k hk (by simp)⟩
theorem KeepBut.refl (S:List Nat) (w:World):KeepBut S w w:=(Bl.refl w).keep S
theorem KeepBut.trans {S T:List Nat} {a b c:World} (h:KeepBut S a b) (k:KeepBut T b c) (hT:∀ x ∈ T,x ∈ S∨a.heap.size≤x):KeepBut S a c:=
 ⟨k.os.trans h.os,k.tape.trans h.tape,k.output.trans h.output,Nat.le_trans h.size k.size,fun i hi hS=>
  (k.block i (Nat.lt_of_lt_of_le hi h.size) (fun hx=>(hT i hx).elim hS (by omega))).trans (h.block i hi hS)⟩
theorem KeepBut.under {S:List Nat} {a b c:World} (k:KeepBut S b c) (h:Bl a b) (hS:∀ x ∈ S,a.heap.size≤x):Bl a c:=
 (KeepBut.trans (h.keep []) k (fun x hx=>.inr (hS x hx))).bl
theorem KeepBut.cellOf {S:List Nat} {w w':World} (h:KeepBut S w w') {p:Addr} {v:Value} (hc:w.cell? p=some v) (hS:p.block ∉ S):w'.cell? p=some v:=by
 rw [World.cell?_of_block (w:=w) (h.block p.block (World.block_lt_of_cell? w p hc) hS)];exact hc
theorem KeepBut.heapOf {S:List Nat} {w w':World} (h:KeepBut S w w') {k:Nat} {o:Obj} (hc:w.heap[k]? = some o) (hS:k ∉ S):w'.heap[k]? = some o:=by
 rw [h.block k (Array.getElem?_eq_some_iff.1 hc).1 hS];exact hc
theorem KeepBut.drew {S:List Nat} {a w:World} (h:KeepBut S a w):KeepBut S a w.drew:=h.trans (((Bl.refl w).drew).keep S) fun _x hx=>.inl hx
theorem KeepBut.grown {S:List Nat} {a w w':World} {row:Option Nat} (h:KeepBut S a w) (hg:w.grownBy w' row) (hr:∀ k,row=some k→k ∈ S∨a.heap.size≤k):KeepBut S a w':=
 h.trans (T:=row.toList) ⟨hg.os,hg.tape,hg.output,hg.size,fun k hk hn=>hg.block k hk (fun e=>hn (by simp [← e]))⟩ (by intro x hx;exact hr x (by cases row <;> simp_all))
def RArg {α:Type} (k:Nat) (R:World→List Value→α→Prop) (w:World) (v:Value) (l:List α):Prop:=
 ∃ a cap,v=.slice a l.length cap∧l.length≤cap∧cap≤maxLen∧(a=none→l=[]∧cap=0) ∧
  (0 < l.length→∃ b off,a=some ⟨b,off,none⟩ ∧
   ∀ i x,l[i]? = some x→∃ row,row.length=k∧R w row x∧∀ j u,row[j]? = some u→w.cell? ⟨b,off+i * k+j,none⟩=some u)
def RSl {α:Type} (k:Nat) (R:World→List Value→α→Prop) (w:World) (v:Value) (l:List α):Prop:=
 RArg k R w v l∧∀ ad n cap,v=.slice (some ad) n cap→ad.spot=none
def J7d {α:Type} (R:World→List Value→α→Prop):Prop:=∀ w w' row x,R w row x→Bl w w'→R w' row x
section
variable {α:Type} {k:Nat} {R:World→List Value→α→Prop} {w w':World} {v:Value} {l:List α}
theorem RArg.below (hR:J7d R) (h:RArg k R w v l) (hb:Bl w w'):RArg k R w' v l:=by
 obtain ⟨a,cap,rfl,h1,h2,h3,h4⟩:=h
 refine ⟨a,cap,rfl,h1,h2,h3,fun hn=>?_⟩
 obtain ⟨b,off,rfl,hc⟩:=h4 hn
 refine ⟨b,off,rfl,fun i x hx=>?_⟩
 obtain ⟨row,hl,hr,hcs⟩:=hc i x hx
 exact ⟨row,hl,hR _ _ _ _ hr hb,fun j u hj=>hb.cellOf (hcs j u hj)⟩
theorem RSl.below (hR:J7d R) (h:RSl k R w v l) (hb:Bl w w'):RSl k R w' v l:=⟨h.1.below hR hb,h.2⟩
theorem RArg.inv (h:RArg k R w v l) :
 ∃ a cap,v=.slice a l.length cap∧l.length≤cap∧l.length≤9223372036854775807∧cap≤9223372036854775807∧(a=none→l=[]∧cap=0):=by
 obtain ⟨a,cap,rfl,h1,h2,h3,_⟩:=h
 unfold maxLen at h2
 exact ⟨a,cap,rfl,h1,by omega,by omega,h3⟩
theorem RSl.inv (h:RSl k R w v l) :
 ∃ a cap,v=.slice a l.length cap∧l.length≤cap∧l.length≤9223372036854775807∧cap≤9223372036854775807∧(a=none→l=[]∧cap=0):=h.1.inv
theorem RSl.plain {ad:Addr} {n cap:Nat} (h:RSl k R w (.slice (some ad) n cap) l):∃ b off,ad=⟨b,off,none⟩:=by
 have:=h.2 ad n cap rfl
 obtain ⟨b,off,s⟩:=ad
 simp only at this
 exact ⟨b,off,by rw [this]⟩
theorem RArg.at {a:Option Addr} {n cap:Nat} (h:RArg k R w (.slice a n cap) l) (i:Nat) (hi:i < n) :
 ∃ b off x row,a=some ⟨b,off,none⟩∧l[i]? = some x∧row.length=k∧R w row x∧∀ j u,row[j]? = some u→w.cell? ⟨b,off+i * k+j,none⟩=some u:=by
 obtain ⟨a',cap',hv,h1,h2,h3,h4⟩:=h
 cases hv
 obtain ⟨b,off,rfl,hc⟩:=h4 (by omega)
 have hx:l[i]? = some l[i]:=by simp [hi]
 obtain ⟨row,hl,hr,hcs⟩:=hc i _ hx
 exact ⟨b,off,l[i],row,rfl,hx,hl,hr,hcs⟩
theorem RSl.at {a:Option Addr} {n cap:Nat} (h:RSl k R w (.slice a n cap) l) (i:Nat) (hi:i < n) :
 ∃ b off x row,a=some ⟨b,off,none⟩∧l[i]? = some x∧row.length=k∧R w row x∧∀ j u,row[j]? = some u→w.cell? ⟨b,off+i * k+j,none⟩=some u:=h.1.at i hi
theorem RArg.nil (k:Nat) (R:World→List Value→α→Prop) (w:World):RArg k R w (.slice none 0 0) ([]:List α):=
 ⟨none,0,rfl,Nat.le_refl _,by unfold maxLen;omega,fun _=>⟨rfl,rfl⟩,fun h=>by simp at h⟩
theorem RSl.nil (k:Nat) (R:World→List Value→α→Prop) (w:World):RSl k R w (.slice none 0 0) ([]:List α):=⟨RArg.nil _ _ _,fun _ _ _ h=>by cases h⟩
theorem RSl.mk (b off cap:Nat) (hv:v=.slice (some ⟨b,off,none⟩) l.length cap) (h1:l.length≤cap) (h2:cap≤maxLen)
 (h:∀ i x,l[i]? = some x→∃ row,row.length=k∧R w row x∧∀ j u,row[j]? = some u→w.cell? ⟨b,off+i * k+j,none⟩=some u):RSl k R w v l:=by
 subst hv
 exact ⟨⟨_,cap,rfl,h1,h2,fun h=>(by cases h),fun _=>⟨b,off,rfl,h⟩⟩,fun _ _ _ e=>by cases e;rfl⟩
end
def Enc {α:Type} (enc:α→List Value) (ok:α→Prop):World→List Value→α→Prop:=fun _ row x=>row=enc x∧ok x
theorem Enc.stable {α:Type} (enc:α→List Value) (ok:α→Prop):J7d (Enc enc ok):=fun _ _ _ _ h _=>h
def J4 {α:Type} (enc:α→List Value) (l:List α):List Value:=l.flatMap enc
theorem J0d {α:Type} {enc:α→List Value} {k:Nat} (hk:∀ x,(enc x).length=k) (l:List α):(J4 enc l).length=l.length * k:=by
 induction l with
 | nil=>simp [J4]
 | cons x l ih=>simp only [J4,List.flatMap_cons,List.length_append,hk,List.length_cons] at *;rw [ih,Nat.add_mul,Nat.one_mul,Nat.add_comm]
theorem J18 {α:Type} (enc:α→List Value) (l m:List α):J4 enc (l++m)=J4 enc l++J4 enc m:=by simp [J4]
theorem J36 {α:Type} {enc:α→List Value} {k:Nat} (hk:∀ x,(enc x).length=k) (l:List α) (i:Nat) (x:α) (h:l[i]? = some x) (j:Nat) (hj:j < k):(J4 enc l)[i * k+j]? = (enc x)[j]?:=by
 induction l generalizing i with
 | nil=>simp at h
 | cons y l ih=>
  cases i with
  | zero=>simp at h;subst h;simp [J4,List.getElem?_append_left (show j < (enc y).length by rw [hk];exact hj)]
  | succ i=>
   have:=ih i (by simpa using h)
   rw [← this]
   simp only [J4,List.flatMap_cons]
   rw [List.getElem?_append_right (by rw [hk,Nat.add_mul];omega),hk]
   congr 1
   rw [Nat.add_mul];omega
def Own {α:Type} (e k:Nat) (enc:α→List Value) (ok:α→Prop) (w:World) (v:Value) (l:List α):Prop:=
 w.ownsRow 0 e k v l.length (J4 enc l)∧∀ x ∈ l,ok x
theorem Own.rd {α:Type} {e k:Nat} {enc:α→List Value} {ok:α→Prop} (hk:∀ x,(enc x).length=k) {w:World} {v:Value} {l:List α} (h:Own e k enc ok w v l):RSl k (Enc enc ok) w v l:=by
 obtain ⟨h,hok⟩:=h
 have hcells:∀ g,v.ownBlock=some g→∀ j u,(J4 enc l)[j]? = some u→w.cell? ((⟨g,0,none⟩:Addr).add j)=some u:=fun g hg=>h.cells hg
 obtain ⟨hl,h|h⟩:=h
 ·obtain ⟨rfl,h0⟩:=h
  obtain rfl:l=[]:=List.eq_nil_of_length_eq_zero h0
  exact RSl.nil _ _ _
 obtain ⟨g,cap,cur,rfl,-,hg,hc,hm,hs,ht⟩:=h
 refine RSl.mk g 0 cap rfl hc hm fun i x hx=>⟨enc x,hk x,⟨rfl,hok x (List.mem_of_getElem? hx)⟩,fun j u hj=>?_⟩
 have hjk:j < k:=by rw [← hk x];exact (List.getElem?_eq_some_iff.1 hj).1
 have:=hcells g rfl (i * k+j) u (by rw [J36 hk l i x hx j hjk];exact hj)
 have e:(Addr.add ⟨g,0,none⟩ (i * k+j))=⟨g,0+i * k+j,none⟩:=by
  unfold Addr.add
  split
  ·rename_i h0;rw [Nat.zero_add,h0]
  simp
 rw [e] at this
 exact this
theorem Own.lt {α:Type} {e k:Nat} {enc:α→List Value} {ok:α→Prop} {w:World} {v:Value} {l:List α} (h:Own e k enc ok w v l):∀ b ∈ v.ownBlock.toList,b < w.heap.size:=by
 intro b hb
 exact (h.1.lt b (by cases hv:v.ownBlock <;> simp_all)).2
theorem Own.keep {α:Type} {e k:Nat} {enc:α→List Value} {ok:α→Prop} {w w':World} {v:Value} {l:List α} {S:List Nat} (h:Own e k enc ok w v l) (hb:KeepBut S w w') (hS:∀ b ∈ v.ownBlock.toList,b ∉ S):Own e k enc ok w' v l:=by
 refine ⟨h.1.1,?_⟩ |> fun x=>⟨x,h.2⟩
 rcases h.1.2 with hn|⟨g,cap,cur,rfl,hb0,hgg,rest⟩
 ·exact .inl hn
 exact .inr ⟨g,cap,cur,rfl,hb0,hb.heapOf hgg (hS g (by simp [Value.ownBlock])),rest⟩
theorem Own.below {α:Type} {e k:Nat} {enc:α→List Value} {ok:α→Prop} {w w':World} {v:Value} {l:List α} (h:Own e k enc ok w v l) (hb:Bl w w'):Own e k enc ok w' v l:=h.keep (hb.keep []) (by simp)
def Reads (P:Program) (w:World) (t:TypeId) (cs:List Value):Prop:=
 ∃ (H:Type) (enc:TypeId × Value→H) (base:Nat) (spare:Nat→Bool) (held:Bool) (fuel:Nat) (x:DataW H × List MemPlace),DataW.trod enc P w base spare held fuel t cs=some x
section
variable {P:Program} {w:World} {t:TypeId} {cs:List Value}
theorem Reads.int {k:IntKind} (ht:P.underlying t=some (.int k)) (h:Reads P w t cs):∃ n,cs=[.int k n]∧(Lit.int k n).wf=true:=by
 obtain ⟨H,enc,base,spare,held,fuel,x,h⟩:=h
 obtain ⟨n,h1,_,h2⟩:=DataW.trod_int ht h
 exact ⟨n,h1,h2⟩
theorem Reads.u8 (ht:P.underlying t=some (.int .u8)) (h:Reads P w t cs):∃ n,cs=[.int .u8 n]∧0≤n∧n≤255:=by
 obtain ⟨n,h1,h2⟩:=h.int ht
 exact ⟨n,h1,bounds_u8 h2⟩
theorem J8T {w:World} {a:Addr} : ∀ (n m:Nat) (row:List Value),((List.range' m n).mapM fun i=>w.cell? (a.add i))=some row→row.length=n∧∀ j u,row[j]? = some u→w.cell? (a.add (m+j))=some u
 | 0,m,row,h=>by simp at h;subst h;simp
 | n+1,m,row,h=>by
  simp only [List.range'_succ,List.mapM_cons,Option.bind_eq_bind,Option.bind_eq_some_iff] at h
  obtain ⟨u0,h0,r,hr,he⟩:=h
  simp at he
  subst he
  obtain ⟨h1,h2⟩:=J8T n (m+1) r hr
  refine ⟨by simp [h1],fun j u hj=>?_⟩
  cases j with
  | zero=>simp at hj;subst hj;simpa using h0
  | succ j=>have:=h2 j u (by simpa using hj);rw [show m+(j+1)=m+1+j by omega];exact this
theorem JdM {α:Type} (n:Nat) (p:Nat→α→Prop) (h:∀ i,i < n→∃ x,p i x):∃ l:List α,l.length=n∧∀ i x,l[i]? = some x→p i x:=by
 induction n with
 | zero=>exact ⟨[],rfl,by simp⟩
 | succ n ih=>
  obtain ⟨l,h1,h2⟩:=ih fun i hi=>h i (by omega)
  obtain ⟨x,hx⟩:=h n (by omega)
  refine ⟨l++[x],by simp [h1],fun i y hy=>?_⟩
  by_cases hi:i < l.length
  ·rw [List.getElem?_append_left hi] at hy;exact h2 i y hy
  rw [List.getElem?_append_right (by omega)] at hy
  have:i - l.length=0:=by
   rcases Nat.eq_zero_or_pos (i - l.length) with h|h
   ·exact h
   rw [List.getElem?_eq_none (by simp;omega)] at hy;cases hy
  rw [this] at hy
  simp at hy;subst hy
  have:i=n:=by omega
  subst this;exact hx
theorem Reads.slice {α:Type} {e:TypeId} {k:Nat} {R:World→List Value→α→Prop} (ht:P.underlying t=some (.slice e)) (hk:P.cellsOf e=k) (hk0:0 < k)
 (hR:∀ row,row.length=k→Reads P w e row→∃ x,R w row x) (h:Reads P w t cs):∃ v l,cs=[v]∧RArg k R w v l:=by
 obtain ⟨H,enc,base,spare,held,fuel,x,h⟩:=h
 rcases DataW.trod_slice ht h with ⟨h1,_⟩|⟨a,len,cap,elems,rest,n,h1,h2,h3,h4,h5,h6,h7,h8,_⟩
 ·exact ⟨_,[],h1,RArg.nil _ _ _⟩
 subst h2
 have key:∀ i,i < len→∃ row,row.length=k∧(∀ j u,row[j]? = some u→w.cell? ((a.add (i * k)).add j)=some u)∧∃ x,R w row x:=by
  intro i hi
  have:=h8 i hi
  rw [List.getElem?_eq_getElem (by omega),Option.bind_eq_some_iff] at this
  obtain ⟨row,hr,hx⟩:=this
  unfold World.cells? at hr
  split at hr
  ·rw [List.range_eq_range',hk] at hr
   obtain ⟨g1,g2⟩:=J8T k 0 row hr
   refine ⟨row,g1,fun j u hj=>by simpa using g2 j u hj,hR row g1 ⟨H,enc,base,spare,held,n,_,hx⟩⟩
  cases hr
 obtain ⟨l,hl,hp⟩:=JdM len (fun i x=>∃ row,row.length=k∧(∀ j u,row[j]? = some u→w.cell? ((a.add (i * k)).add j)=some u)∧R w row x)
  (fun i hi=>by obtain ⟨row,h1,h2,x,h3⟩:=key i hi;exact ⟨x,row,h1,h2,h3⟩)
 subst hl
 refine ⟨_,l,rfl,some a,cap,rfl,h5,h6,fun h=>(by cases h),fun hn=>?_⟩
 have hspot:a.spot=none:=by
  obtain ⟨row,g1,g2,_⟩:=hp 0 l[0] (by simp [hn])
  have:=g2 0 row[0] (by simp [g1,hk0])
  simp [Addr.add,World.cell?] at this
  split at this
  ·cases hs:a.spot <;> simp_all
  cases this
 obtain ⟨b,off,spot⟩:=a
 simp only at hspot
 subst hspot
 refine ⟨b,off,rfl,fun i x hx=>?_⟩
 obtain ⟨row,g1,g2,g3⟩:=hp i x hx
 refine ⟨row,g1,g3,fun j u hj=>?_⟩
 have:=g2 j u hj
 have e:(Addr.add ⟨b,off,none⟩ (i * k)).add j=⟨b,off+i * k+j,none⟩:=by
  unfold Addr.add
  split <;> split <;> simp_all
 rw [e] at this
 exact this
end
theorem J8o {H:Type} {enc:TypeId × Value→H} {P:Program} (hl:laidOutB P=true) {W W':World} (hb:Bl W W') {sp:Nat→Bool} :
 ∀ {ts:List TypeId} {vs:List Value} {ds:List (DataW H)} {ps:List MemPlace},(∀ t ∈ ts,P.readableRec t=true∧t < P.types.size) →
  DataW.TrodAll enc P W 0 (fun _=>true) true ts vs ds ps→(∀ x ∈ ps,x.block < W.heap.size)→(∀ x ∈ ps,sp x.block=true)→DataW.TrodAll enc P W' 0 sp true ts vs ds ps
 | [],vs,ds,ps,_,h,_,_=>by
  obtain ⟨rfl,rfl,rfl⟩:=trodAll_nil h
  exact trodAll_mk0
 | t::ts,vs,ds,ps,hr,h,hlt,hsp=>by
  obtain ⟨v,vs',d,ds',p,q,rfl,rfl,rfl,h0,h1⟩:=trodAll_cons h
  obtain ⟨r1,r2⟩:=hr t (by simp)
  exact trodAll_cons_mk (WideElems.Trod_stays hl r1 r2 h0 (fun x hx=>hb.same (hlt x (by simp [hx]))) (fun x hx=>hsp x (by simp [hx])))
   (J8o hl hb (fun t ht=>hr t (by simp [ht])) h1 (fun x hx=>hlt x (by simp [hx])) (fun x hx=>hsp x (by simp [hx])))
theorem Jfz {H:Type} {enc:TypeId × Value→H} {P:Program} {f:Func} {s:ChangeSpec} {apart fresh handsOn again:Bool} {W W':World} {args:Array Value} {ds gs:List (DataW H)} {before:List MemPlace} {tb:TypeId}
 (hl:laidOutB P=true) (hr:∀ t ∈ f.params.toList,P.readableRec t=true∧t < P.types.size) (htb:P.underlying tb=some .bool) (hres:f.resultTypes=#[tb]) (hv:s.vars=[])
 (hW:DataW.Whole enc P f.params.toList s.vars apart W args.toList ds gs before) (hs:s.fn H ds={ results:=[.lit (.bool true)],args:=ds }) (hb:Bl W W') :
 s.post enc P f apart fresh handsOn again W args (.bool true) W':=by
 have hlt:=hW.lt
 have hW0:=hW
 obtain ⟨p,q,hA,hV,rfl,hz,hn⟩:=hW
 rw [hv] at hV
 obtain ⟨rfl,rfl⟩:=trodVars_none hV
 simp only [List.append_nil] at *
 have hargs:∀ sp:Nat→Bool,(∀ x ∈ p,sp x.block=true)→DataW.TrodAll enc P W' 0 sp true f.params.toList args.toList ds p:=fun sp hsp=>J8o hl hb hr hA hlt hsp
 have hres':∀ (b:Nat) (sp:Nat→Bool) (hd:Bool),DataW.TrodAll enc P W' b sp hd f.resultTypes.toList ((Value.bool true).resultList f.resultTypes.size) [.lit (.bool true)] []:=by
  intro b sp hd
  rw [hres]
  exact trodAll_mk1 (shut_bool htb true)
 have hvars:∀ sp:Nat→Bool,DataW.TrodVars enc P W' sp s.vars ([]:List (DataW H)) []:=by intro sp;rw [hv];rfl
 refine ⟨ds,[],p,[],p,[],hW0,?_,?_,?_,World.keptBut_mono (fun x hx=>⟨hx,.inr (.inl hx)⟩) (hb.frame (· ∈ p)),fun _=>?_⟩
 ·rw [List.append_nil,hs];exact hres' _ _ _
 ·rw [List.append_nil,hs];exact hargs _ (fun x hx=>by simpa using hlt x hx)
 ·rw [List.append_nil,hs];exact hvars _
 refine ⟨ok_one hres rfl (okWide_bool_mk htb _),?_⟩
 refine ⟨_,_,([]++p)++[],⟨[]++p,[],trodAll_append (hargs _ (fun _ _=>rfl)) (hres' _ _ _),hvars _,rfl,?_,?_⟩,?_⟩
 ·intro b off hp
  have hp':MemPlace.cell b off ∈ p:=by simpa using hp
  rw [hb.frozen (p:=⟨b,off,none⟩) (hlt _ hp')]
  exact hz b off hp'
 ·intro ha
  simpa using hn ha
 intro x hx _
 simpa using hx
def J9z (P:Program) (W:World) (ts:List TypeId) (args:List Value):Prop:=
 args.length=ts.length∧∀ (j:Nat) t v,ts[j]? = some t→args[j]? = some v→Reads P W t v.cells.toList∧Value.okWide P W .any 0 t v
theorem J8y {H:Type} {enc:TypeId × Value→H} {P:Program} {W:World} : ∀ {ts:List TypeId} {vs:List Value} {ds:List (DataW H)} {ps:List MemPlace},
 DataW.TrodAll enc P W 0 (fun _=>true) true ts vs ds ps→vs.length=ts.length∧ds.length=ts.length∧∀ (j:Nat) t v,ts[j]? = some t→vs[j]? = some v→Reads P W t v.cells.toList
 | [],vs,ds,ps,h=>by
  obtain ⟨rfl,rfl,rfl⟩:=trodAll_nil h
  simp
 | t::ts,vs,ds,ps,h=>by
  obtain ⟨v,vs',d,ds',p,q,rfl,rfl,rfl,h0,h1⟩:=trodAll_cons h
  obtain ⟨g1,g2,g3⟩:=J8y h1
  refine ⟨by simp [g1],by simp [g2],fun j t' v' ht hv=>?_⟩
  cases j with
  | zero=>
   simp at ht hv;subst ht;subst hv
   obtain ⟨n,hn⟩:=h0
   exact ⟨H,enc,_,_,_,n,_,hn⟩
  | succ j=>exact g3 j t' v' (by simpa using ht) (by simpa using hv)
theorem JdC {P:Program} {W:World} {t:TypeId} {v:Value} {d:TypeDesc} (ht:P.underlying t=some d) (hd:match d with | .struct _ | .array _ _=>False|_=>True) (h:Value.okWide P W .any 0 t v):v.cells.toList=[v]:=by
 unfold Value.okWide at h
 rw [ht] at h
 cases d <;> simp at hd <;> cases v <;> first|rfl|(simp [Cell.okWide,Cell.ok,ht] at h)
theorem Jf8 {P:Program} {W:World} {t:TypeId} {v:Value} {d:TypeDesc} (ht:P.underlying t=some d) (hd:match d with | .struct _ | .array _ _=>False|_=>True) (h:Value.okWide P W .any 0 t v) (hr:Reads P W t v.cells.toList):Reads P W t [v]:=by
 rw [JdC ht hd h] at hr;exact hr
theorem J9h {n:Nat} (h:n≤maxLen):n≤9223372036854775807:=by unfold maxLen at h;omega
end Go.Proofs.YtipdbeklopjbmaaGreatDoor
