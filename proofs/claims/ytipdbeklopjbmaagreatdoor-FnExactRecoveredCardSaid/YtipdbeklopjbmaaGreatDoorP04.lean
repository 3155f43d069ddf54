/-
  Texts laid together: Eng10, Touch, Touch2, Cells, Nest, Eng14, Facts.
-/
import Derived.Test.YtipdbeklopjbmaaGreatDoorP03
import Derived.Test.YtipdbeklopjbmaaGreatDoorP02
/-
  Slices of structs that hold slices.
-/

namespace Go.Proofs.YtipdbeklopjbmaaGreatDoor
open Go.ChangeShapes Go.WideShapes Go.ChangeAt Go.RowKit

structure Inn where
  atom : Atom
  rd : (Nat → Prop) → World → Prop
  ra : (Nat → Prop) → World → Prop
  off : ∀ {S : Nat → Prop} {w : World}, atom.ok w → (∀ b, atom.fp b → S b) → rd S w
  rdM : ∀ {H H' : Nat → Prop} {w : World}, rd H w → (∀ b, H b → H' b) → rd H' w
  raM : ∀ {H H' : Nat → Prop} {w : World}, ra H w → (∀ b, H b → H' b) → ra H' w
  rdV : ∀ {G : Nat → Prop} {w0 w w' : World} {L L' : List Atom}, rd (V G w0 L) w → Mv L w L' w' → rd (V G w0 L') w'
  raV : ∀ {G : Nat → Prop} {w0 w w' : World} {L L' : List Atom}, ra (V G w0 L) w → Mv L w L' w' → ra (V G w0 L') w'
def inn {α : Type} (e k : Nat) (enc : α → List Value) (ok : α → Prop) (hk : ∀ x, (enc x).length = k) (h0 : 0 < k) (v : Value) (l : List α) : Inn where
  atom := ow e k enc ok v l
  rd := fun H w => Rd k enc ok H w v l
  ra := fun H w => RdA k enc ok H w v l
  off := fun h hS => ⟨Own.rd hk h, fun _ _ _ e' _ => hS _ (by subst e'; rfl)⟩
  rdM := fun h hH => h.mono hH
  raM := fun h hH => h.mono hH
  rdV := fun h m => h.mv h0 m
  raV := fun h m => h.mv h0 m

section
variable {α : Type} {inns : α → List Inn} {D : List α}
def NRd (inns : α → List Inn) (H : Nat → Prop) (w : World) (D : List α) : Prop := ∀ x ∈ D, ∀ I ∈ inns x, I.rd H w
def NRa (inns : α → List Inn) (H : Nat → Prop) (w : World) (D : List α) : Prop := ∀ x ∈ D, ∀ I ∈ inns x, I.ra H w
variable {G H H' : Nat → Prop} {w0 w w' : World} {L L' : List Atom}
theorem NRd.mv (h : NRd inns (V G w0 L) w D) (m : Mv L w L' w') : NRd inns (V G w0 L') w' D := fun x hx I hI => I.rdV (h x hx I hI) m
theorem NRa.mv (h : NRa inns (V G w0 L) w D) (m : Mv L w L' w') : NRa inns (V G w0 L') w' D := fun x hx I hI => I.raV (h x hx I hI) m
theorem NRd.mono (h : NRd inns H w D) (hH : ∀ b, H b → H' b) : NRd inns H' w D := fun x hx I hI => I.rdM (h x hx I hI) hH
theorem NRa.mono (h : NRa inns H w D) (hH : ∀ b, H b → H' b) : NRa inns H' w D := fun x hx I hI => I.raM (h x hx I hI) hH
theorem NRd.top (h : NRd inns H w D) : NRd inns (fun _ => True) w D := h.mono fun _ _ => trivial
theorem NRa.top (h : NRa inns H w D) : NRa inns (fun _ => True) w D := h.mono fun _ _ => trivial
theorem NRd.start (h : NRd inns H w0 D) (hL : ∀ b, H b → ¬ fps L b) : NRd inns (V H w0 L) w0 D := h.mono fun b hb => ⟨.inl hb, hL b hb⟩
theorem NRa.start (h : NRa inns H w0 D) (hL : ∀ b, H b → ¬ fps L b) : NRa inns (V H w0 L) w0 D := h.mono fun b hb => ⟨.inl hb, hL b hb⟩
theorem NRd.get (h : NRd inns H w D) {i j : Nat} {x : α} {I : Inn} (hx : nth D i = some x) (hI : nth (inns x) j = some I) : I.rd H w := h x (nth_mem hx) I (nth_mem hI)
theorem NRa.get (h : NRa inns H w D) {i j : Nat} {x : α} {I : Inn} (hx : nth D i = some x) (hI : nth (inns x) j = some I) : I.ra H w := h x (nth_mem hx) I (nth_mem hI)
theorem NRd.nil : NRd inns H w ([] : List α) := fun _ h => by cases h
theorem NRd.sub {D' : List α} (h : NRd inns H w D) (hs : ∀ x ∈ D', x ∈ D) : NRd inns H w D' := fun x hx => h x (hs x hx)
theorem NRd.take (h : NRd inns H w D) (n : Nat) : NRd inns H w (D.take n) := h.sub fun _ hx => List.mem_of_mem_take hx
theorem NRa.nil : NRa inns H w ([] : List α) := fun _ h => by cases h

def pcs (inns : α → List Inn) (x : α) : List Atom := (inns x).map Inn.atom
def grx (inns : α → List Inn) (D : List α) (i : Nat) : Atom where
  fp := fun b => ∃ j x, j ≠ i ∧ nth D j = some x ∧ fps (pcs inns x) b
  ok := fun w => (∀ j x, j ≠ i → nth D j = some x → (∀ A ∈ pcs inns x, A.ok w) ∧ (pcs inns x).Pairwise fun (A B : Atom) => ∀ b : Nat, A.fp b → ¬ B.fp b) ∧ ∀ j j' x x', j ≠ i → j' ≠ i → j ≠ j' → nth D j = some x → nth D j' = some x' → ∀ b, fps (pcs inns x) b → ¬ fps (pcs inns x') b
  st := fun w w' hb h => ⟨fun j x hj hx => ⟨fun A hA => A.st w w' (fun b hA' => hb b ⟨j, x, hj, hx, A, hA, hA'⟩) ((h.1 j x hj hx).1 A hA), (h.1 j x hj hx).2⟩, h.2⟩
def gr (inns : α → List Inn) (D : List α) : Atom := grx inns D D.length
theorem nth_ne {j : Nat} {x : α} (h : nth D j = some x) : j ≠ D.length := by have := nth_lt h; omega
theorem Mv.same (h : At w L') (hf : ∀ b, fps L' b → fps L b) : Mv L w L' w := ⟨h, fun b hb => .inl (hf b hb), Kp.refl _ _⟩
theorem fps_one {A : Atom} {b : Nat} : fps [A] b ↔ A.fp b := by simp [fps]
theorem gr_open1 (A : At w [gr inns D]) {i : Nat} {x : α} (hx : nth D i = some x) : Mv [gr inns D] w (pcs inns x ++ [grx inns D i]) w := by
  have hg : (gr inns D).ok w := A.ok _ (List.mem_singleton.2 rfl)
  have hsub : ∀ b, fps (pcs inns x ++ [grx inns D i]) b → fps [gr inns D] b := fun b hb => by
    rw [fps_one]
    rcases fps_append.1 hb with h | h
    · exact ⟨i, x, nth_ne hx, hx, h⟩
    · obtain ⟨j, y, _, hy, h2⟩ := fps_one.1 h
      exact ⟨j, y, nth_ne hy, hy, h2⟩
  refine Mv.same ⟨fun B hB => ?_, fun b hb => A.lt b (hsub b hb), ?_⟩ hsub
  · rcases List.mem_append.1 hB with h | h
    · exact (hg.1 i x (nth_ne hx) hx).1 B h
    · rw [List.mem_singleton.1 h]
      exact ⟨fun j y _ hy => hg.1 j y (nth_ne hy) hy, fun j j' y y' _ _ hne hy hy' => hg.2 j j' y y' (nth_ne hy) (nth_ne hy') hne hy hy'⟩
  · refine List.pairwise_append.2 ⟨(hg.1 i x (nth_ne hx) hx).2, List.pairwise_singleton _ _, fun B hB C hC b hb hc => ?_⟩
    rw [List.mem_singleton.1 hC] at hc
    obtain ⟨j, y, hj, hy, h2⟩ := hc
    exact hg.2 i j x y (nth_ne hx) (nth_ne hy) (fun e => hj e.symm) hx hy b ⟨B, hB, hb⟩ h2
theorem gr_close1 {D' : List α} {x' : α} {i i0 : Nat} (A : At w (pcs inns x' ++ [grx inns D i0])) (h : ∀ j y, nth D' j = some y → (j = i ∧ y = x') ∨ (j ≠ i ∧ j ≠ i0 ∧ nth D j = some y)) :
    Mv (pcs inns x' ++ [grx inns D i0]) w [gr inns D'] w := by
  have hg : (grx inns D i0).ok w := A.ok _ (List.mem_append_right _ (List.mem_singleton.2 rfl))
  have hcross : ∀ b, fps (pcs inns x') b → ∀ j y, j ≠ i0 → nth D j = some y → ¬ fps (pcs inns y) b := fun b ⟨B, hB, hb⟩ j y hj hy h2 =>
    (List.pairwise_append.1 A.apart).2.2 B hB _ (List.mem_singleton.2 rfl) b hb ⟨j, y, hj, hy, h2⟩
  have hsub : ∀ b, fps [gr inns D'] b → fps (pcs inns x' ++ [grx inns D i0]) b := fun b hb => by
    obtain ⟨j, y, _, hy, h2⟩ := fps_one.1 hb
    rcases h j y hy with ⟨_, rfl⟩ | ⟨_, h3, h4⟩
    · exact fps_append.2 (.inl h2)
    · exact fps_append.2 (.inr (fps_one.2 ⟨j, y, h3, h4, h2⟩))
  refine Mv.same (At.one ⟨fun j y _ hy => ?_, fun j j' y y' _ _ hne hy hy' b hb hb' => ?_⟩ fun b hb => A.lt b (hsub b (fps_one.2 hb))) hsub
  · rcases h j y hy with ⟨_, rfl⟩ | ⟨_, h3, h4⟩
    · exact ⟨fun B hB => A.ok B (List.mem_append_left _ hB), (List.pairwise_append.1 A.apart).1⟩
    · exact hg.1 j y h3 h4
  · rcases h j y hy with ⟨e, rfl⟩ | ⟨h2, h3, h4⟩
    · rcases h j' y' hy' with ⟨e', _⟩ | ⟨_, h3', h4'⟩
      · exact hne (by omega)
      · exact hcross b hb j' y' h3' h4' hb'
    · rcases h j' y' hy' with ⟨e', rfl⟩ | ⟨_, h3', h4'⟩
      · exact hcross b hb' j y h3 h4 hb
      · exact hg.2 j j' y y' h3 h3' hne h4 h4' b hb hb'
theorem sel_one {β : Type} {l : List β} {i : Nat} {x : β} (h : nth l i = some x) : sel l [i] = [x] := by unfold sel; rw [h]; rfl
theorem gr_open (A : At w L) (q : Nat) (hL : nth L q = some (gr inns D)) (hq : okSel L.length [q] = true) {i : Nat} {x : α} (hx : nth D i = some x) : Mv L w ((pcs inns x ++ [grx inns D i]) ++ del L [q]) w :=
  A.frame [q] hq (by rw [sel_one hL]; exact gr_open1 (by rw [← sel_one hL]; exact A.pick hq) hx)
theorem nth_set {j i : Nat} {x y : α} (h : nth (D.set i x) j = some y) : (j = i ∧ y = x) ∨ (j ≠ i ∧ nth D j = some y) := by
  rw [nth_eq] at h ⊢
  by_cases e : j = i
  · subst e
    rcases Nat.lt_or_ge j D.length with hl | hl
    · rw [List.getElem?_set_self hl] at h; exact .inl ⟨rfl, (Option.some.inj h).symm⟩
    · rw [List.getElem?_eq_none (by rw [List.length_set]; exact hl)] at h; cases h
  · rw [List.getElem?_set_ne (fun h => e h.symm)] at h; exact .inr ⟨e, h⟩
theorem nth_snoc {j : Nat} {x y : α} (h : nth (D ++ [x]) j = some y) : (j = D.length ∧ y = x) ∨ (j ≠ D.length ∧ nth D j = some y) := by
  rw [nth_eq] at h ⊢
  rcases Nat.lt_trichotomy j D.length with hl | hl | hl
  · rw [List.getElem?_append_left hl] at h; exact .inr ⟨by omega, h⟩
  · subst hl; rw [List.getElem?_append_right (Nat.le_refl _), Nat.sub_self] at h; exact .inl ⟨rfl, (Option.some.inj h).symm⟩
  · rw [List.getElem?_eq_none (by rw [List.length_append, List.length_singleton]; omega)] at h; cases h
theorem gr_close (A : At w L) (is : List Nat) (x' : α) {i : Nat} (hs : sel L is = pcs inns x' ++ [grx inns D i]) (hq : okSel L.length is = true) : Mv L w ([gr inns (D.set i x')] ++ del L is) w :=
  A.frame is hq (by rw [hs]; exact gr_close1 (by rw [← hs]; exact A.pick hq) fun j y hy => (nth_set hy).imp id fun h => ⟨h.1, h.1, h.2⟩)
theorem gr_set (A : At w L) (is : List Nat) (x' : α) (i : Nat) (hs : sel L is = pcs inns x' ++ [gr inns D]) (hq : okSel L.length is = true) : Mv L w ([gr inns (D.set i x')] ++ del L is) w :=
  A.frame is hq (by rw [hs]; exact gr_close1 (i0 := D.length) (by rw [← show gr inns D = grx inns D D.length from rfl, ← hs]; exact A.pick hq) fun j y hy => (nth_set hy).imp id fun h => ⟨h.1, nth_ne h.2, h.2⟩)
theorem gr_push (A : At w L) (is : List Nat) (x' : α) (hs : sel L is = pcs inns x' ++ [gr inns D]) (hq : okSel L.length is = true) : Mv L w ([gr inns (D ++ [x'])] ++ del L is) w :=
  A.frame is hq (by rw [hs]; exact gr_close1 (i0 := D.length) (i := D.length) (by rw [← show gr inns D = grx inns D D.length from rfl, ← hs]; exact A.pick hq) fun j y hy => (nth_snoc hy).imp id fun h => ⟨h.1, nth_ne h.2, h.2⟩)
theorem gr_same (A : At w L) (q : Nat) (hL : nth L q = some (gr inns D)) (hq : okSel L.length [q] = true) {i : Nat} {x : α} (y : α) (hx : nth D i = some x) (hp : pcs inns y = pcs inns x) : Mv L w ([gr inns (D.set i y)] ++ del L [q]) w :=
  A.frame [q] hq (by
    rw [sel_one hL]
    have m := gr_open1 (by rw [← sel_one hL]; exact A.pick hq) hx
    refine m.trans ?_
    rw [← hp] at m ⊢
    exact gr_close1 (i := i) m.at' fun j z hz => (nth_set hz).imp id fun h => ⟨h.1, h.1, h.2⟩)
theorem gr_new (A : At w L) (D : List α) (h : ∀ x ∈ D, ∀ B ∈ pcs inns x, (∀ b, ¬ B.fp b) ∧ ∀ w, B.ok w) : Mv L w (gr inns D :: L) w := by
  have hf : ∀ b, ¬ (gr inns D).fp b := fun b ⟨j, x, _, hx, B, hB, hb⟩ => (h x (nth_mem hx) B hB).1 b hb
  refine Mv.same ⟨fun B hB => ?_, fun b hb => ?_, List.pairwise_cons.2 ⟨fun B _ b hb => (hf b hb).elim, A.apart⟩⟩ fun b hb => (fps_cons.1 hb).resolve_left (hf b)
  · rcases List.mem_cons.1 hB with rfl | hB
    · refine ⟨fun j x _ hx => ⟨fun B hB => (h x (nth_mem hx) B hB).2 w, ?_⟩, fun j j' x x' _ _ _ hx _ b ⟨B, hB, hb⟩ => ((h x (nth_mem hx) B hB).1 b hb).elim⟩
      exact List.Pairwise.imp_of_mem (fun {B C} hB _ _ b hb => ((h x (nth_mem hx) B hB).1 b hb).elim) (List.pairwise_of_forall (R := fun _ _ => True) fun _ _ => trivial)
    · exact A.ok B hB
  · exact A.lt b ((fps_cons.1 hb).resolve_left (hf b))
theorem gr_nil (A : At w L) : Mv L w (gr inns ([] : List α) :: L) w := gr_new A [] fun _ h => by cases h
theorem At.nrdS (A : At w L) (q : Nat) (hL : nth L q = some (gr inns D)) {S : Nat → Prop} (hS : ∀ b, (gr inns D).fp b → S b) : NRd inns S w D := by
  intro x hx I hI
  obtain ⟨j, hj⟩ := List.mem_iff_getElem?.1 hx
  rw [← nth_eq] at hj
  have hg : (gr inns D).ok w := A.ok _ (nth_mem hL)
  have hm : I.atom ∈ pcs inns x := List.mem_map.2 ⟨I, hI, rfl⟩
  exact I.off ((hg.1 j x (nth_ne hj) hj).1 _ hm) fun b hb => hS b ⟨j, x, nth_ne hj, hj, _, hm, hb⟩
theorem At.nrd (A : At w L) (q : Nat) (hL : nth L q = some (gr inns D)) : NRd inns (fun _ => True) w D := A.nrdS q hL fun _ _ => trivial
theorem ow_same {e k : Nat} {enc : α → List Value} {ok : α → Prop} (A : At w L) (q : Nat) {v : Value} (hL : nth L q = some (ow e k enc ok v D)) (hq : okSel L.length [q] = true) {i : Nat} {x : α} (y : α) (hx : nth D i = some x) (he : enc y = enc x) (hy : ok y) :
    Mv L w ([ow e k enc ok v (D.set i y)] ++ del L [q]) w :=
  A.frame [q] hq (by
    rw [sel_one hL]
    have hO : Own e k enc ok w v D := A.ok _ (nth_mem hL)
    have hfl : flat enc (D.set i y) = flat enc D := by
      rw [nth_eq] at hx
      obtain ⟨hi, rfl⟩ := List.getElem?_eq_some_iff.1 hx
      unfold flat
      rw [List.flatMap_def, List.flatMap_def, List.map_set, he]
      congr 1
      exact List.ext_getElem? fun j => by
        by_cases e : j = i
        · subst e; rw [List.getElem?_set_self (by simpa using hi)]; simp [hi]
        · rw [List.getElem?_set_ne (fun h => e h.symm)]
    refine Mv.same (At.one ⟨?_, fun z hz => ?_⟩ fun b hb => A.lt b ⟨_, nth_mem hL, hb⟩) fun b hb => by rw [fps_one] at hb ⊢; exact hb
    · have h1 := hO.1
      rw [hfl, List.length_set]; exact h1
    · rcases List.mem_or_eq_of_mem_set hz with h | rfl
      · exact hO.2 z h
      · exact hy)
end
end Go.Proofs.YtipdbeklopjbmaaGreatDoor
/-
  Contracts: adding a span to a list of spans (impl.addSpan in place, spec.l02Put, spec.AddSpan), access sets.
-/

namespace Go.Proofs.YtipdbeklopjbmaaGreatDoor
open Go.ChangeShapes Go.WideShapes Go.ChangeAt Go.RowKit
set_option maxHeartbeats 1000000
set_option maxRecDepth 100000

def putL (l : List ByteArray) (x : ByteArray) : List ByteArray := if l[l.findIdx (geS x)]? = some x then l else insAt l (l.findIdx (geS x)) x
theorem insAt_length {α : Type} (l : List α) (i : Nat) (x : α) (h : i ≤ l.length) : (insAt l i x).length = l.length + 1 := by simp [insAt]; omega
theorem putL_length (l : List ByteArray) (x : ByteArray) : (putL l x).length ≤ l.length + 1 := by
  unfold putL
  split
  · omega
  · rw [insAt_length _ _ _ List.findIdx_le_length]; omega
end Go.Proofs.YtipdbeklopjbmaaGreatDoor
/-
  Contracts: access sets (Touch) as values: clone, join, the laws' helpers, both JoinTouch.
-/

namespace Go.Proofs.YtipdbeklopjbmaaGreatDoor
open Go.ChangeShapes Go.WideShapes Go.ChangeAt Go.RowKit
set_option maxHeartbeats 1000000
set_option maxRecDepth 100000

structure TouchD where
  reads : List ByteArray
  writes : List ByteArray
deriving DecidableEq
def cntT (t : TouchD) : Nat := t.reads.length + t.writes.length
structure Sl where
  a : Option Addr
  n : Nat
  c : Nat
abbrev Sl.v (s : Sl) : Value := .slice s.a s.n s.c
def Sl.blk (s : Sl) : List Nat := s.v.ownBlock.toList

def RTouch (w : World) (r u : Value) (t : TouchD) : Prop := RStrs w r t.reads ∧ RStrs w u t.writes
def ATouch (w : World) (r u : Value) (t : TouchD) : Prop := AStrs w r t.reads ∧ AStrs w u t.writes
def OTouch (w : World) (r u : Value) (t : TouchD) (S : List Nat) : Prop := OStrs w r t.reads ∧ OStrs w u t.writes ∧ S = r.ownBlock.toList ++ u.ownBlock.toList ∧ S.Nodup
theorem OTouch.rd {w : World} {r u : Value} {t : TouchD} {S : List Nat} (h : OTouch w r u t S) : RTouch w r u t := ⟨OStrs.rd h.1, OStrs.rd h.2.1⟩
theorem RTouch.below {w w' : World} {r u : Value} {t : TouchD} (h : RTouch w r u t) (hb : Bl w w') : RTouch w' r u t := ⟨RStrs.below h.1 hb, RStrs.below h.2 hb⟩
theorem ATouch.below {w w' : World} {r u : Value} {t : TouchD} (h : ATouch w r u t) (hb : Bl w w') : ATouch w' r u t := ⟨AStrs.below h.1 hb, AStrs.below h.2 hb⟩
theorem OTouch.keep {w w' : World} {r u : Value} {t : TouchD} {S T : List Nat} (h : OTouch w r u t S) (hb : KeepBut T w w') (hS : ∀ b ∈ S, b ∉ T) : OTouch w' r u t S := by
  obtain ⟨h1, h2, rfl, h4⟩ := h
  exact ⟨h1.keep hb fun b hb => hS b (by simp [hb]), h2.keep hb fun b hb => hS b (by simp [hb]), rfl, h4⟩
theorem OTouch.below {w w' : World} {r u : Value} {t : TouchD} {S : List Nat} (h : OTouch w r u t S) (hb : Bl w w') : OTouch w' r u t S := h.keep (hb.keep []) (by simp)
theorem OTouch.lt {w : World} {r u : Value} {t : TouchD} {S : List Nat} (h : OTouch w r u t S) : ∀ b ∈ S, b < w.heap.size := by
  obtain ⟨h1, h2, rfl, h4⟩ := h
  intro b hb
  rcases List.mem_append.1 hb with hb | hb
  · exact h1.lt b hb
  · exact h2.lt b hb

end Go.Proofs.YtipdbeklopjbmaaGreatDoor
/-
  Contracts: the laws' helpers on cells and slices of cells (szCell, toCell, eqCell, szCellS, toCellS, eqCellS, markCellS, heldCellS).
-/

namespace Go.Proofs.YtipdbeklopjbmaaGreatDoor
open Go.ChangeShapes Go.WideShapes Go.ChangeAt Go.RowKit
set_option maxHeartbeats 1000000
set_option maxRecDepth 100000

def szCellD (c : CellD) : Nat := c.key.size + c.val.size
def szCells (l : List CellD) : Nat := l.length + sumOf szCellD l
abbrev ACells (w : World) (v : Value) (l : List CellD) : Prop := RArg 2 (Enc encC okC) w v l
theorem ACells.at {w : World} {a : Option Addr} {n cap : Nat} {l : List CellD} (h : ACells w (.slice a n cap) l) (i : Nat) (hi : i < n) :
    ∃ b off c, a = some ⟨b, off, none⟩ ∧ l[i]? = some c ∧ (c.key.size ≤ 9223372036854775807 ∧ c.val.size ≤ 9223372036854775807) ∧ w.cell? ⟨b, off + i * 2, none⟩ = some (.string c.key) ∧ w.cell? ⟨b, off + i * 2 + 1, none⟩ = some (.string c.val) := by
  obtain ⟨b, off, c, row, h1, h2, h3, ⟨rfl, h4⟩, h5⟩ := RArg.at h i hi
  exact ⟨b, off, c, h1, h2, h4, by simpa using h5 0 (.string c.key) rfl, by simpa using h5 1 (.string c.val) rfl⟩
theorem ACells.below {w w' : World} {v : Value} {l : List CellD} (h : ACells w v l) (hb : Bl w w') : ACells w' v l := RArg.below (Enc.stable _ _) h hb

theorem szCell_c (s y : ByteArray) (n : Int) (w : World) (h1 : s.size ≤ 9223372036854775807) (h2 : y.size ≤ 9223372036854775807) (h0 : 0 ≤ n) (hn : n ≤ 1048576) :
    Calls Tryz.prog 53 #[.agg #[.string s, .string y], .int .i64 n] w fun e w' => e = .returned (.int .i64 (subOr n (s.size + y.size))) ∧ Bl w w' := by
  go_enter Tryz.func53, Tryz.ntmps53
  go_wp2
  all_goals go_ret
  all_goals refine ⟨ret_int ?_, (Bl.refl w).alloc _⟩
  all_goals (unfold subOr; split <;> omega)

theorem toCell_c (s y : ByteArray) (w : World) :
    Calls Tryz.prog 61 #[.agg #[.string s, .string y]] w fun e w' => e = .returned (.agg #[.string s, .string y]) ∧ Bl w w' := by
  go_enter Tryz.func61, Tryz.ntmps61
  go_wp2
  refine bodyPost_ret (v := .agg #[.string s, .string y]) (by simp [results, Tryz.results61, go_sem]) rfl ⟨rfl, ?_⟩
  repeat (first | exact Bl.refl _ | refine Bl.setCell ?_ (by simp) _ | refine Bl.alloc ?_ _)

theorem eqCell_c (s y : ByteArray) (w : World) :
    Calls Tryz.prog 48 #[.agg #[.string s, .string y], .agg #[.string s, .string y]] w fun e w' => e = .returned (.bool true) ∧ Bl w w' := by
  go_enter Tryz.func48, Tryz.ntmps48
  go_wp2
  go_ret
  exact ⟨rfl, ((Bl.refl w).alloc _).alloc _⟩

theorem szCellS_c (v : Value) (n : Int) (w : World) (l : List CellD) (hr : ACells w v l) (h0 : 0 ≤ n) (h1 : n ≤ 1048576) :
    Calls Tryz.prog 15 #[v, .int .i64 n] w fun e w' => e = .returned (.int .i64 (subOr n (szCells l))) ∧ Bl w w' := by
  have hr0 := hr
  obtain ⟨a, cap, rfl, hle, hl, -, -⟩ := hr.inv
  have Hr := Lib.hid hr0; clear hr0 hr
  obtain ⟨len, hlen⟩ : ∃ len, l.length = len := ⟨_, rfl⟩
  rw [hlen] at hle hl Hr ⊢
  have Hlen := Lib.hid hlen; clear hlen
  go_enter Tryz.func15, Tryz.ntmps15
  go_wp2
  · go_ret
    refine ⟨ret_int ?_, Bl.refl _⟩
    have := Hlen.out
    unfold subOr szCells; split <;> omega
  · go_loopw [1, 5] (fun n' i wr => ∃ (k : Nat), k ≤ len ∧ i = .int .i64 k ∧ n' = .int .i64 (subOr n (len + sumOf szCellD (l.take k))) ∧ 0 ≤ subOr n (len + sumOf szCellD (l.take k)) ∧ Bl w wr) (fun _ i _ => len - (intOf i).toNat)
    case atStart =>
      refine ⟨0, by omega, rfl, ?_, ?_, Bl.refl _⟩
      · congr 1; simp [subOr, sumOf]; omega
      · simp [subOr, sumOf]; omega
    case round =>
      obtain ⟨k, hk, rfl, rfl, hm0, hB⟩ := hrel
      by_cases hlt : k < len
      · obtain ⟨b, off, ⟨s, y⟩, rfl, hx, ⟨hs1, hs2⟩, c1, c2⟩ := ACells.at (ACells.below Hr.out hB) k (by omega)
        dsimp only at hs1 hs2 c1 c2
        have hm1 := (subOr_bd n (len + sumOf szCellD (l.take k)) (by omega)).2
        have hst := sumOf_take szCellD l k ⟨s, y⟩ hx
        have hadd := subOr_add n (len + sumOf szCellD (l.take k)) (szCellD ⟨s, y⟩) hm0
        have hsp := sumOf_split szCellD l (k + 1)
        have hneg := subOr_neg n (len + sumOf szCellD (l.take (k + 1))) (sumOf szCellD (l.drop (k + 1)))
        rw [Nat.add_assoc, ← hst] at hadd
        rw [Nat.add_assoc, ← hsp] at hneg
        generalize hm : subOr n (len + sumOf szCellD (l.take k)) = m at *
        have hbd := subOr_bd m (szCellD ⟨s, y⟩) hm0
        obtain ⟨q, hq⟩ : ∃ q, subOr m (szCellD ⟨s, y⟩) = q := ⟨_, rfl⟩
        rw [hq] at hadd hbd
        have Hq := Lib.hid (show subOr m (s.size + y.size) = q from hq)
        have Hadd := Lib.hid hadd; have Hneg := Lib.hid hneg; have HB := Lib.hid hB
        clear hm hx hst hadd hsp hneg hB hq
        go_wp2_with (go_at_call 53; ((with_reducible refine (szCell_c s y m _ hs1 hs2 hm0 (by omega)).mono ?_); rintro e w1 ⟨rfl, hb⟩; rw [Hq.out]; have HB1 := Lib.hid (HB.out.trans hb); clear hb))
        · go_ret
          refine ⟨ret_int ?_, HB1.out⟩
          have h := Hadd.out
          have g := Hneg.out
          have e := Hlen.out
          unfold szCells
          rw [e, g (by rw [← h]; omega)]
        · have h := Hadd.out
          go_roundw
          case rel => exact ⟨k + 1, by omega, by go_num, by rw [h], by rw [← h]; omega, HB1.out⟩
          case measure => simp [intOf]; omega
      · go_wp2
        go_ret
        obtain rfl : k = len := by omega
        refine ⟨ret_int ?_, hB⟩
        have := Hlen.out
        unfold szCells
        rw [this, sumOf_all _ _ _ (by omega)]

theorem toCellS_c (v : Value) (w : World) (l : List CellD) (hr : ACells w v l) (hl : l.length ≤ 1048576) :
    Calls Tryz.prog 18 #[v] w fun e w' => ∃ v', e = .returned v' ∧ OCells w' v' l ∧ (∀ b ∈ v'.ownBlock.toList, w.heap.size ≤ b) ∧ Bl w w' := by
  have hr0 := hr
  obtain ⟨a, cap, rfl, hle, -, -, -⟩ := hr.inv
  have Hr := Lib.hid hr0; clear hr0 hr
  obtain ⟨len, hlen⟩ : ∃ len, l.length = len := ⟨_, rfl⟩
  rw [hlen] at hle hl Hr ⊢
  have Hlen := Lib.hid hlen; clear hlen
  go_enter Tryz.func18, Tryz.ntmps18
  go_wp2_with (refine wpList_mk (ok := okC) cellT rfl (.tmp 6) (.tmp 6) rfl ⟨⟨#[]⟩, ⟨#[]⟩⟩ rfl ⟨Nat.zero_le _, Nat.zero_le _⟩ len rfl rfl (by omega) ?_; intro w1 hown hb1 hlt1)
  go_loopw [4] (fun i wr => ∃ (k : Nat), k ≤ len ∧ i = .int .i64 k ∧ Bl w wr ∧ OCells wr (.slice (some ⟨w.heap.size, 0, none⟩) len len) (l.take k ++ List.replicate (len - k) ⟨⟨#[]⟩, ⟨#[]⟩⟩)) (fun i _ => len - (intOf i).toNat)
  case atStart => exact ⟨0, by omega, rfl, hb1, by simpa using hown⟩
  case round =>
    obtain ⟨k, hk, rfl, hB, hO⟩ := hrel
    by_cases hlt : k < len
    · obtain ⟨b, off, ⟨s, y⟩, rfl, hx, ⟨hs1, hs2⟩, c1, c2⟩ := ACells.at (ACells.below Hr.out hB) k (by omega)
      dsimp only at hs1 hs2 c1 c2
      have hz : (l.take k ++ List.replicate (len - k) (⟨⟨#[]⟩, ⟨#[]⟩⟩ : CellD))[k]? = some ⟨⟨#[]⟩, ⟨#[]⟩⟩ := by
        rw [List.getElem?_append_right (by simp; omega)]
        simp [List.getElem?_replicate, Hlen.out]; omega
      obtain ⟨b', hb', -, hcell, hfz, hlt'⟩ := Own.cellAt cellT.hk hO k _ hz
      cases hb'
      have d1 := hcell 0 (.string ⟨#[]⟩) rfl
      have d2 := hcell 1 (.string ⟨#[]⟩) rfl
      simp only [Nat.add_zero] at d1
      have hlist : (l.take k ++ List.replicate (len - k) (⟨⟨#[]⟩, ⟨#[]⟩⟩ : CellD)).set k ⟨s, y⟩ = l.take (k + 1) ++ List.replicate (len - (k + 1)) ⟨⟨#[]⟩, ⟨#[]⟩⟩ := by
        have h1 := Hlen.out
        rw [List.set_append_right _ _ (by rw [List.length_take]; omega), List.length_take, Nat.min_eq_left (by omega), Nat.sub_self, show len - k = (len - (k + 1)) + 1 by omega, List.replicate_succ, List.set_cons_zero, List.take_succ_eq_append_getElem (by omega), List.append_assoc]
        congr 1
        have : l[k]'(by omega) = ⟨s, y⟩ := (List.getElem?_eq_some_iff.1 hx).2
        simp [this]
      have hset : ∀ w1, Bl wr w1 → OCells ((w1.setCell ⟨w.heap.size, k * 2, none⟩ (.string s)).setCell ⟨w.heap.size, k * 2 + 1, none⟩ (.string y)) (.slice (some ⟨w.heap.size, 0, none⟩) len len) (l.take (k + 1) ++ List.replicate (len - (k + 1)) ⟨⟨#[]⟩, ⟨#[]⟩⟩) := by
        intro w1 hb
        have g1 := Own.setCell cellT.hk (hO.below hb) k 0 _ ⟨s, ⟨#[]⟩⟩ (.string s) hz (by omega) rfl ⟨hs1, Nat.zero_le _⟩
        have hlk : k < (l.take k ++ List.replicate (len - k) (⟨⟨#[]⟩, ⟨#[]⟩⟩ : CellD)).length := (List.getElem?_eq_some_iff.1 hz).1
        have g2 := Own.setCell cellT.hk g1 k 1 ⟨s, ⟨#[]⟩⟩ ⟨s, y⟩ (.string y) (by rw [List.getElem?_set_self hlk]) (by omega) rfl ⟨hs1, hs2⟩
        rw [List.set_set, hlist] at g2
        simpa using g2
      have Hset := Lib.hid hset; have HB := Lib.hid hB
      have f1 := hfz (k * 2); have f2 := hfz (k * 2 + 1)
      clear hz hcell hfz hset hlist hx hO hB hb1 hown
      have hk0 : (0 : Int) ≤ (k : Int) := by omega
      go_wp2_with (go_at_call 61; ((with_reducible refine (toCell_c s y _).mono ?_); rintro e w1 ⟨rfl, hb⟩; replace d1 := hb.cellOf d1; replace d2 := hb.cellOf d2; replace f1 := (bcell hb).2 w.heap.size (k * 2) hlt' ▸ f1; replace f2 := (bcell hb).2 w.heap.size (k * 2 + 1) hlt' ▸ f2; have Hset1 := Lib.hid (Hset.out w1 hb); have HB1 := Lib.hid (((HB.out.trans hb).setCell (p := ⟨w.heap.size, k * 2, none⟩) (Nat.le_refl _) (.string s)).setCell (p := ⟨w.heap.size, k * 2 + 1, none⟩) (Nat.le_refl _) (.string y)); clear hb))
      go_roundw
      case rel => exact ⟨k + 1, by omega, by go_num, HB1.out, Hset1.out⟩
      case measure => simp [intOf]; omega
    · obtain rfl : k = len := by omega
      have h1 := Hlen.out
      have hO2 : OCells wr (.slice (some ⟨w.heap.size, 0, none⟩) k k) l := by
        have : l.take k = l := List.take_of_length_le (by omega)
        rw [this] at hO
        simpa using hO
      clear h1 hO
      go_wp2
      go_ret
      exact ⟨_, rfl, hO2, by simp [Value.ownBlock], hB⟩
theorem toCellS_s (v : Value) (w : World) (l : List CellD) (hr : ACells w v l) (hl : l.length ≤ 1048576) :
    Calls Tryz.prog 18 #[v] w fun e w' => ∃ a n c, e = .returned (.slice a n c) ∧ OCells w' (.slice a n c) l ∧ (∀ b ∈ (Value.slice a n c).ownBlock.toList, w.heap.size ≤ b) ∧ Bl w w' :=
  Calls.sl (toCellS_c v w l hr hl) fun _ _ h => h.1.isSl

theorem eqCellS_c (v v' : Value) (w : World) (l : List CellD) (hr : RCells w v l) (hr' : RCells w v' l) :
    Calls Tryz.prog 10 #[v, v'] w fun e w' => e = .returned (.bool true) ∧ Bl w w' := by
  have hr0 := hr; have hr1 := hr'
  obtain ⟨a, cap, rfl, hle, hl, -, -⟩ := hr.inv
  obtain ⟨a', cap', rfl, hle', -, -, -⟩ := hr'.inv
  have Hr := Lib.hid hr0; have Hr' := Lib.hid hr1; clear hr0 hr hr1 hr'
  obtain ⟨len, hlen⟩ : ∃ len, l.length = len := ⟨_, rfl⟩
  rw [hlen] at hle hle' hl Hr Hr' ⊢
  have Hlen := Lib.hid hlen; clear hlen
  go_enter Tryz.func10, Tryz.ntmps10
  go_wp2
  go_loopw [5] (fun i wr => ∃ (k : Nat), k ≤ len ∧ i = .int .i64 k ∧ Bl w wr) (fun i _ => len - (intOf i).toNat)
  case atStart => exact ⟨0, by omega, rfl, Bl.refl _⟩
  case round =>
    obtain ⟨k, hk, rfl, hB⟩ := hrel
    by_cases hlt : k < len
    · obtain ⟨b, off, ⟨s, y⟩, rfl, hx, hxs, c1, c2⟩ := RCells.at (RCells.below Hr.out hB) k (by omega)
      obtain ⟨b', off', x', rfl, hx', hxs', c1', c2'⟩ := RCells.at (RCells.below Hr'.out hB) k (by omega)
      have e : x' = ⟨s, y⟩ := by rw [hx] at hx'; exact (Option.some.inj hx').symm
      subst e
      dsimp only at c1 c2 c1' c2'
      have hkk : (k : Int) < (len : Int) := by omega
      have HB := Lib.hid hB; clear hB hx hx' hxs hxs'
      go_wp2
      go_region_held3 (fun w' => w'.cell? ⟨b, off + k * 2, none⟩ = some (.string s) ∧ w'.cell? ⟨b, off + k * 2 + 1, none⟩ = some (.string y) ∧ w'.cell? ⟨b', off' + k * 2, none⟩ = some (.string s) ∧ w'.cell? ⟨b', off' + k * 2 + 1, none⟩ = some (.string y)) (first | (go_split_ands; exact ⟨hb.cellOf (by assumption), hb.cellOf (by assumption), hb.cellOf (by assumption), hb.cellOf (by assumption)⟩) | go_keep) (first | (go_at_call 48; refine (eqCell_c s y _).mono ?_; rintro e w1 ⟨rfl, hb⟩))
      go_wp2
      go_roundw
      case rel => exact ⟨k + 1, by omega, by go_num, HB.out.trans (((Bl.refl _).drew).trans hb)⟩
      case measure => simp [intOf]; omega
    · go_wp2
      go_ret
      exact ⟨rfl, hB⟩

def marksC (k0 n : Nat) : List CellD := (List.range n).map fun i => ⟨markT (k0 + 2 * i), markT (k0 + 2 * i + 1)⟩
theorem marksC_length (k0 n : Nat) : (marksC k0 n).length = n := by simp [marksC]
theorem marksC_at (k0 n k : Nat) (h : k < n) : (marksC k0 n)[k]? = some ⟨markT (k0 + 2 * k), markT (k0 + 2 * k + 1)⟩ := by simp [marksC, h]
theorem marksC_set (k0 k : Nat) (l : List CellD) (h : k < l.length) : (marksC k0 k ++ l.drop k).set k ⟨markT (k0 + 2 * k), markT (k0 + 2 * k + 1)⟩ = marksC k0 (k + 1) ++ l.drop (k + 1) := by
  have hs : marksC k0 (k + 1) = marksC k0 k ++ [⟨markT (k0 + 2 * k), markT (k0 + 2 * k + 1)⟩] := by simp [marksC, List.range_succ]
  rw [hs, List.set_append_right _ _ (by rw [marksC_length]; exact Nat.le_refl _), marksC_length, Nat.sub_self, List.append_assoc]
  congr 1
  rw [List.drop_eq_getElem_cons h]
  rfl
theorem markText_q (k : Nat) (q : Int) (hq : q = k) (w : World) (hk2 : k ≤ 9223372036854775807) :
    Calls Tryz.prog 52 #[.int .i64 q] w fun e w' => e = .returned (.string (markT k)) ∧ Bl w w' := by
  subst hq; exact markText_c k w hk2

theorem markCellS_c0 (v : Value) (k0 : Nat) (w : World) (l : List CellD) (hO : OCells w v l) (hk : k0 + 2 * l.length ≤ 4611686018427387904) :
    Calls Tryz.prog 13 #[v, .int .i64 k0] w fun e w' => e = .returned (.int .i64 ((k0 + 2 * l.length : Nat) : Int)) ∧ OCells w' v (marksC k0 l.length) ∧ KeepBut v.ownBlock.toList w w' := by
  have hr := hO.rd
  obtain ⟨a, cap, rfl, hle, hl, -, -⟩ := hr.inv
  obtain ⟨len, hlen⟩ : ∃ len, l.length = len := ⟨_, rfl⟩
  rw [hlen] at hle hl hO hk ⊢
  have Hlen := Lib.hid hlen
  have HO := Lib.hid hO; clear hlen hr hO
  go_enter Tryz.func13, Tryz.ntmps13
  go_wp2
  go_loopw [1, 5] (fun q i wr => ∃ (k : Nat), k ≤ len ∧ i = .int .i64 k ∧ q = .int .i64 ((k0 + 2 * k : Nat) : Int) ∧ KeepBut (Value.slice a len cap).ownBlock.toList w wr ∧ OCells wr (.slice a len cap) (marksC k0 k ++ l.drop k)) (fun _ i _ => len - (intOf i).toNat)
  case atStart => exact ⟨0, by omega, rfl, by go_num, KeepBut.refl _ _, by simpa [marksC] using HO.out⟩
  case round =>
    obtain ⟨k, hk, rfl, rfl, hB, hO⟩ := hrel
    by_cases hlt : k < len
    · obtain ⟨c, hc⟩ : ∃ c, (marksC k0 k ++ l.drop k)[k]? = some c := by
        rw [List.getElem?_append_right (by rw [marksC_length]; exact Nat.le_refl _), marksC_length, Nat.sub_self]
        exact ⟨l[k]'(by have := Hlen.out; omega), by simp [Hlen.out, hlt]⟩
      obtain ⟨b, rfl, -, hcell, hfz, hlt'⟩ := Own.cellAt cellT.hk hO k _ hc
      have d1 := hcell 0 _ rfl
      have d2 := hcell 1 _ rfl
      simp only [Nat.add_zero] at d1
      have f1 := hfz (k * 2); have f2 := hfz (k * 2 + 1)
      have hokc : okC c := hO.2 c (List.mem_of_getElem? hc)
      have hlk : k < (marksC k0 k ++ l.drop k).length := (List.getElem?_eq_some_iff.1 hc).1
      have hset1 : ∀ w1, Bl wr w1 → OCells (w1.setCell ⟨b, k * 2, none⟩ (.string (markT (k0 + 2 * k)))) (.slice (some ⟨b, 0, none⟩) len cap) ((marksC k0 k ++ l.drop k).set k ⟨markT (k0 + 2 * k), c.val⟩) := fun w1 hb => by
        have g1 := Own.setCell cellT.hk (hO.below hb) k 0 _ ⟨markT (k0 + 2 * k), c.val⟩ (.string (markT (k0 + 2 * k))) hc (by omega) rfl ⟨markT_ok _, hokc.2⟩
        simpa using g1
      have hset2 : ∀ w1, OCells w1 (.slice (some ⟨b, 0, none⟩) len cap) ((marksC k0 k ++ l.drop k).set k ⟨markT (k0 + 2 * k), c.val⟩) → OCells (w1.setCell ⟨b, k * 2 + 1, none⟩ (.string (markT (k0 + 2 * k + 1)))) (.slice (some ⟨b, 0, none⟩) len cap) (marksC k0 (k + 1) ++ l.drop (k + 1)) := fun w1 h1 => by
        have g2 := Own.setCell cellT.hk h1 k 1 ⟨markT (k0 + 2 * k), c.val⟩ ⟨markT (k0 + 2 * k), markT (k0 + 2 * k + 1)⟩ (.string (markT (k0 + 2 * k + 1))) (by rw [List.getElem?_set_self hlk]) (by omega) rfl ⟨markT_ok _, markT_ok _⟩
        rw [List.set_set, marksC_set k0 k l (by have := Hlen.out; omega)] at g2
        simpa using g2
      have Hset1 := Lib.hid hset1; have Hset2 := Lib.hid hset2; have HB := Lib.hid hB
      clear hset1 hset2 hB hc hcell hfz hO hokc hlk
      go_wp2_with (first | (go_at_call 52; ((with_reducible refine (markText_q (k0 + 2 * k) _ (by omega) _ (by omega)).mono ?_); rintro e w1 ⟨rfl, hb⟩; replace d1 := hb.cellOf d1; replace d2 := hb.cellOf d2; replace f1 := (bcell hb).2 b (k * 2) hlt' ▸ f1; replace f2 := (bcell hb).2 b (k * 2 + 1) hlt' ▸ f2; have hlt1 : b < w1.heap.size := Nat.lt_of_lt_of_le hlt' hb.size; have HO1 := Lib.hid (Hset1.out w1 hb); have HB1 := Lib.hid (HB.out.trans ((hb.keep (Value.slice (some ⟨b, 0, none⟩) len cap).ownBlock.toList).setCell (p := ⟨b, k * 2, none⟩) (.inl (by simp [Value.ownBlock])) (.string (markT (k0 + 2 * k)))) (fun x hx => .inl hx)); clear hb)) | (go_at_call 52; ((with_reducible refine (markText_q (k0 + 2 * k + 1) _ (by omega) _ (by omega)).mono ?_); rintro e w2 ⟨rfl, hb⟩; have g2 := hb.cellOf ((World.cell?_setCell_other _ _ _ _ (by simp)).trans d2); have HO2 := Lib.hid (Hset2.out _ (HO1.out.below hb)); have HB2 := Lib.hid (HB1.out.trans ((hb.keep (Value.slice (some ⟨b, 0, none⟩) len cap).ownBlock.toList).setCell (p := ⟨b, k * 2 + 1, none⟩) (.inl (by simp [Value.ownBlock])) (.string (markT (k0 + 2 * k + 1)))) (fun x hx => .inl hx)); have q2 : w2.frozen? ⟨b, k * 2 + 1, none⟩ = false := hb.frozenOf (by simpa using hlt1) (by go_simp); clear hb)))
      go_roundw
      case rel => exact ⟨k + 1, by omega, by go_num, by go_num, HB2.out, HO2.out⟩
      case measure => simp [intOf]; omega
    · obtain rfl : k = len := by omega
      have hO2 : OCells wr (.slice a k cap) (marksC k0 k) := by
        have : l.drop k = [] := List.drop_eq_nil_of_le (by have := Hlen.out; omega)
        rw [this, List.append_nil] at hO
        exact hO
      clear hO
      go_wp2
      go_ret
      exact ⟨rfl, hO2, hB⟩
theorem markCellS_c (v : Value) (k0 : Nat) (q : Int) (hq : q = k0) (w : World) (l : List CellD) (hO : OCells w v l) (hk : k0 + 2 * l.length ≤ 4611686018427387904) :
    Calls Tryz.prog 13 #[v, .int .i64 q] w fun e w' => e = .returned (.int .i64 ((k0 + 2 * l.length : Nat) : Int)) ∧ OCells w' v (marksC k0 l.length) ∧ KeepBut v.ownBlock.toList w w' := by
  subst hq; exact markCellS_c0 v k0 w l hO hk

theorem heldCellS_c0 (v : Value) (k0 n : Nat) (w : World) (hr : RCells w v (marksC k0 n)) (hk : k0 + 2 * n ≤ 4611686018427387904) :
    Calls Tryz.prog 14 #[v, .int .i64 k0] w fun e w' => e = .returned (.int .i64 ((k0 + 2 * n : Nat) : Int)) ∧ Bl w w' := by
  have hr0 := hr
  obtain ⟨a, cap, rfl, hle, hl, -, -⟩ := hr.inv
  rw [marksC_length] at *
  have Hr := Lib.hid hr0; clear hr0 hr
  go_enter Tryz.func14, Tryz.ntmps14
  go_wp2
  go_loopw [1, 5] (fun q i wr => ∃ (k : Nat), k ≤ n ∧ i = .int .i64 k ∧ q = .int .i64 ((k0 + 2 * k : Nat) : Int) ∧ Bl w wr) (fun _ i _ => n - (intOf i).toNat)
  case atStart => exact ⟨0, by omega, rfl, by go_num, Bl.refl _⟩
  case round =>
    obtain ⟨k, hk, rfl, rfl, hB⟩ := hrel
    by_cases hlt : k < n
    · obtain ⟨b, off, x, rfl, hx, hxs, c1, c2⟩ := RCells.at (RCells.below Hr.out hB) k (by omega)
      rw [marksC_at _ _ _ hlt] at hx
      obtain rfl := Option.some.inj hx
      dsimp only at c1 c2
      have hkk : (k : Int) < (n : Int) := by omega
      have HB := Lib.hid hB; clear hB hx hxs
      go_wp2
      go_region_held3 (fun w' => w'.cell? ⟨b, off + k * 2, none⟩ = some (.string (markT (k0 + 2 * k))) ∧ w'.cell? ⟨b, off + k * 2 + 1, none⟩ = some (.string (markT (k0 + 2 * k + 1)))) (first | exact ⟨c1, c2⟩ | (go_split_ands; exact ⟨hb.cellOf (by assumption), hb.cellOf (by assumption)⟩)) (first | (go_at_call 52; refine (markText_q (k0 + 2 * k) _ (by omega) _ (by omega)).mono ?_; rintro e w1 ⟨rfl, hb⟩))
      have HB1 := Lib.hid (HB.out.trans (((Bl.refl _).drew).trans hb))
      have d1 : w1.cell? ⟨b, off + k * 2, none⟩ = some (.string (markT (k0 + 2 * k))) := hb.cellOf (by simpa using c1)
      have d2 : w1.cell? ⟨b, off + k * 2 + 1, none⟩ = some (.string (markT (k0 + 2 * k + 1))) := hb.cellOf (by simpa using c2)
      clear hb c1 c2
      go_wp2
      go_region_held3 (fun w' => w'.cell? ⟨b, off + k * 2, none⟩ = some (.string (markT (k0 + 2 * k))) ∧ w'.cell? ⟨b, off + k * 2 + 1, none⟩ = some (.string (markT (k0 + 2 * k + 1)))) (first | exact ⟨d1, d2⟩ | (go_split_ands; exact ⟨hb.cellOf (by assumption), hb.cellOf (by assumption)⟩)) (first | (go_at_call 52; refine (markText_q (k0 + 2 * k + 1) _ (by omega) _ (by omega)).mono ?_; rintro e w2 ⟨rfl, hb⟩))
      go_wp2
      go_roundw
      case rel => exact ⟨k + 1, by omega, by go_num, by go_num, HB1.out.trans (((Bl.refl _).drew).trans hb)⟩
      case measure => simp [intOf]; omega
    · go_wp2
      go_ret
      obtain rfl : k = n := by omega
      exact ⟨rfl, hB⟩
theorem heldCellS_c (v : Value) (k0 n : Nat) (q : Int) (hq : q = k0) (w : World) (hr : RCells w v (marksC k0 n)) (hk : k0 + 2 * n ≤ 4611686018427387904) :
    Calls Tryz.prog 14 #[v, .int .i64 q] w fun e w' => e = .returned (.int .i64 ((k0 + 2 * n : Nat) : Int)) ∧ Bl w w' := by
  subst hq; exact heldCellS_c0 v k0 n w hr hk
end Go.Proofs.YtipdbeklopjbmaaGreatDoor
/-
  The data of structs that hold slices.
-/

namespace Go.Proofs.YtipdbeklopjbmaaGreatDoor
open Go.ChangeShapes Go.WideShapes Go.ChangeAt Go.RowKit
structure CallD where
  kind : Int
  name : ByteArray
  to_ : ByteArray
  a : Int
  b : Int
  text : ByteArray
structure AnsD where
  code : Int
  n : Int
  text : ByteArray
def okR (c : AnsD) : Prop := i64ok c.code ∧ i64ok c.n ∧ okS c.text
structure StepD where
  proc : Int
  call : CallD
structure SlotD where
  seq : Int
  cells : List CellD
  whole : Bool
structure SlotH where
  d : SlotD
  a0 : Option Addr
  n0 : Nat
  c0 : Nat
def encSlot (x : SlotH) : List Value := [.int .i64 x.d.seq, .slice x.a0 x.n0 x.c0, .bool x.d.whole]
def okSlot (x : SlotH) : Prop := i64ok x.d.seq
def inSlot (x : SlotH) : List Inn := [inn 91 2 encC okC (fun _ => rfl) (by decide) (.slice x.a0 x.n0 x.c0) x.d.cells]
structure TxD where
  id : Int
  age : Int
  proc : Int
  began : Int
  calls : List CallD
  answers : List AnsD
  touch : TouchD
  marks : List Int
  state : Int
structure TxH where
  d : TxD
  a0 : Option Addr
  n0 : Nat
  c0 : Nat
  a1 : Option Addr
  n1 : Nat
  c1 : Nat
  a2 : Option Addr
  n2 : Nat
  c2 : Nat
  a3 : Option Addr
  n3 : Nat
  c3 : Nat
  a4 : Option Addr
  n4 : Nat
  c4 : Nat
structure EntryD where
  seq : Int
  kind : Int
  tx : Int
  steps : List StepD
  answers : List AnsD
  began : Int
  ended : Int
  laid : Bool
structure EntryH where
  d : EntryD
  a0 : Option Addr
  n0 : Nat
  c0 : Nat
  a1 : Option Addr
  n1 : Nat
  c1 : Nat
theorem own0 {α : Type} {e k : Nat} {enc : α → List Value} {ok : α → Prop} : (∀ b, ¬ (ow e k enc ok (.slice none 0 0) ([] : List α)).fp b) ∧ ∀ w, (ow e k enc ok (.slice none 0 0) ([] : List α)).ok w := ⟨fun _ h => (by cases h), fun w => own_nil w _ _ _ _⟩
def zSlot : SlotH := ⟨⟨0, [], false⟩, none, 0, 0⟩
theorem zSlot_nil : ∀ B ∈ pcs inSlot zSlot, (∀ b, ¬ B.fp b) ∧ ∀ w, B.ok w := by
  intro B hB
  simp only [pcs, inSlot, zSlot, List.map_cons, List.map_nil, List.mem_cons, List.not_mem_nil, or_false] at hB
  rcases hB with rfl <;> exact own0
theorem zSlot_all (n : Nat) : ∀ x ∈ List.replicate n zSlot, ∀ B ∈ pcs inSlot x, (∀ b, ¬ B.fp b) ∧ ∀ w, B.ok w := fun x hx => by
  rw [List.eq_of_mem_replicate hx]; exact zSlot_nil
end Go.Proofs.YtipdbeklopjbmaaGreatDoor
/-
  Slices of slices of cells.
-/

namespace Go.Proofs.YtipdbeklopjbmaaGreatDoor
open Go.ChangeShapes Go.WideShapes Go.ChangeAt Go.RowKit
structure CsH where
  d : List CellD
  a0 : Option Addr
  n0 : Nat
  c0 : Nat
def encCs (x : CsH) : List Value := [.slice x.a0 x.n0 x.c0]
def okCs (_ : CsH) : Prop := True
def inCs (x : CsH) : List Inn := [inn 91 2 encC okC (fun _ => rfl) (by decide) (.slice x.a0 x.n0 x.c0) x.d]
end Go.Proofs.YtipdbeklopjbmaaGreatDoor
/-
  What the walks ask of the program: its types' shapes, its functions' bodies.
-/

namespace Go.Proofs.YtipdbeklopjbmaaGreatDoor
open Go.ChangeShapes Go.WideShapes Go.ChangeAt Go.RowKit
theorem BI_91 : BI Tryz.prog 91 [(0, 1), (1, 1)] [.string (⟨#[]⟩ : ByteArray), .string (⟨#[]⟩ : ByteArray)] := bi_mk2 Tryz.underlying91 (zv := .agg #[.string (⟨#[]⟩ : ByteArray), .string (⟨#[]⟩ : ByteArray)]) (by kernel_rfl) rfl (by kernel_rfl)
theorem CF_10 : CF Tryz.prog 10 := ⟨⟨_, _, Tryz.func10, rfl, by kernel_rfl⟩⟩
theorem CF_100 : CF Tryz.prog 100 := ⟨⟨_, _, Tryz.func100, rfl, by kernel_rfl⟩⟩
theorem CF_101 : CF Tryz.prog 101 := ⟨⟨_, _, Tryz.func101, rfl, by kernel_rfl⟩⟩
theorem CF_102 : CF Tryz.prog 102 := ⟨⟨_, _, Tryz.func102, rfl, by kernel_rfl⟩⟩
theorem CF_103 : CF Tryz.prog 103 := ⟨⟨_, _, Tryz.func103, rfl, by kernel_rfl⟩⟩
theorem CF_107 : CF Tryz.prog 107 := ⟨⟨_, _, Tryz.func107, rfl, by kernel_rfl⟩⟩
theorem CF_11 : CF Tryz.prog 11 := ⟨⟨_, _, Tryz.func11, rfl, by kernel_rfl⟩⟩
theorem CF_115 : CF Tryz.prog 115 := ⟨⟨_, _, Tryz.func115, rfl, by kernel_rfl⟩⟩
theorem CF_12 : CF Tryz.prog 12 := ⟨⟨_, _, Tryz.func12, rfl, by kernel_rfl⟩⟩
theorem CF_13 : CF Tryz.prog 13 := ⟨⟨_, _, Tryz.func13, rfl, by kernel_rfl⟩⟩
theorem CF_132 : CF Tryz.prog 132 := ⟨⟨_, _, Tryz.func132, rfl, by kernel_rfl⟩⟩
theorem CF_133 : CF Tryz.prog 133 := ⟨⟨_, _, Tryz.func133, rfl, by kernel_rfl⟩⟩
theorem CF_134 : CF Tryz.prog 134 := ⟨⟨_, _, Tryz.func134, rfl, by kernel_rfl⟩⟩
theorem CF_135 : CF Tryz.prog 135 := ⟨⟨_, _, Tryz.func135, rfl, by kernel_rfl⟩⟩
theorem CF_138 : CF Tryz.prog 138 := ⟨⟨_, _, Tryz.func138, rfl, by kernel_rfl⟩⟩
theorem CF_139 : CF Tryz.prog 139 := ⟨⟨_, _, Tryz.func139, rfl, by kernel_rfl⟩⟩
theorem CF_14 : CF Tryz.prog 14 := ⟨⟨_, _, Tryz.func14, rfl, by kernel_rfl⟩⟩
theorem CF_140 : CF Tryz.prog 140 := ⟨⟨_, _, Tryz.func140, rfl, by kernel_rfl⟩⟩
theorem CF_141 : CF Tryz.prog 141 := ⟨⟨_, _, Tryz.func141, rfl, by kernel_rfl⟩⟩
theorem CF_144 : CF Tryz.prog 144 := ⟨⟨_, _, Tryz.func144, rfl, by kernel_rfl⟩⟩
theorem CF_145 : CF Tryz.prog 145 := ⟨⟨_, _, Tryz.func145, rfl, by kernel_rfl⟩⟩
theorem CF_146 : CF Tryz.prog 146 := ⟨⟨_, _, Tryz.func146, rfl, by kernel_rfl⟩⟩
theorem CF_15 : CF Tryz.prog 15 := ⟨⟨_, _, Tryz.func15, rfl, by kernel_rfl⟩⟩
theorem CF_150 : CF Tryz.prog 150 := ⟨⟨_, _, Tryz.func150, rfl, by kernel_rfl⟩⟩
theorem CF_151 : CF Tryz.prog 151 := ⟨⟨_, _, Tryz.func151, rfl, by kernel_rfl⟩⟩
theorem CF_152 : CF Tryz.prog 152 := ⟨⟨_, _, Tryz.func152, rfl, by kernel_rfl⟩⟩
theorem CF_153 : CF Tryz.prog 153 := ⟨⟨_, _, Tryz.func153, rfl, by kernel_rfl⟩⟩
theorem CF_154 : CF Tryz.prog 154 := ⟨⟨_, _, Tryz.func154, rfl, by kernel_rfl⟩⟩
theorem CF_155 : CF Tryz.prog 155 := ⟨⟨_, _, Tryz.func155, rfl, by kernel_rfl⟩⟩
theorem CF_168 : CF Tryz.prog 168 := ⟨⟨_, _, Tryz.func168, rfl, by kernel_rfl⟩⟩
theorem CF_170 : CF Tryz.prog 170 := ⟨⟨_, _, Tryz.func170, rfl, by kernel_rfl⟩⟩
theorem CF_172 : CF Tryz.prog 172 := ⟨⟨_, _, Tryz.func172, rfl, by kernel_rfl⟩⟩
theorem CF_174 : CF Tryz.prog 174 := ⟨⟨_, _, Tryz.func174, rfl, by kernel_rfl⟩⟩
theorem CF_175 : CF Tryz.prog 175 := ⟨⟨_, _, Tryz.func175, rfl, by kernel_rfl⟩⟩
theorem CF_177 : CF Tryz.prog 177 := ⟨⟨_, _, Tryz.func177, rfl, by kernel_rfl⟩⟩
theorem CF_18 : CF Tryz.prog 18 := ⟨⟨_, _, Tryz.func18, rfl, by kernel_rfl⟩⟩
theorem CF_181 : CF Tryz.prog 181 := ⟨⟨_, _, Tryz.func181, rfl, by kernel_rfl⟩⟩
theorem CF_182 : CF Tryz.prog 182 := ⟨⟨_, _, Tryz.func182, rfl, by kernel_rfl⟩⟩
theorem CF_183 : CF Tryz.prog 183 := ⟨⟨_, _, Tryz.func183, rfl, by kernel_rfl⟩⟩
theorem CF_35 : CF Tryz.prog 35 := ⟨⟨_, _, Tryz.func35, rfl, by kernel_rfl⟩⟩
theorem CF_36 : CF Tryz.prog 36 := ⟨⟨_, _, Tryz.func36, rfl, by kernel_rfl⟩⟩
theorem CF_37 : CF Tryz.prog 37 := ⟨⟨_, _, Tryz.func37, rfl, by kernel_rfl⟩⟩
theorem CF_38 : CF Tryz.prog 38 := ⟨⟨_, _, Tryz.func38, rfl, by kernel_rfl⟩⟩
theorem CF_39 : CF Tryz.prog 39 := ⟨⟨_, _, Tryz.func39, rfl, by kernel_rfl⟩⟩
theorem CF_40 : CF Tryz.prog 40 := ⟨⟨_, _, Tryz.func40, rfl, by kernel_rfl⟩⟩
theorem CF_41 : CF Tryz.prog 41 := ⟨⟨_, _, Tryz.func41, rfl, by kernel_rfl⟩⟩
theorem CF_42 : CF Tryz.prog 42 := ⟨⟨_, _, Tryz.func42, rfl, by kernel_rfl⟩⟩
theorem CF_43 : CF Tryz.prog 43 := ⟨⟨_, _, Tryz.func43, rfl, by kernel_rfl⟩⟩
theorem CF_44 : CF Tryz.prog 44 := ⟨⟨_, _, Tryz.func44, rfl, by kernel_rfl⟩⟩
theorem CF_45 : CF Tryz.prog 45 := ⟨⟨_, _, Tryz.func45, rfl, by kernel_rfl⟩⟩
theorem CF_46 : CF Tryz.prog 46 := ⟨⟨_, _, Tryz.func46, rfl, by kernel_rfl⟩⟩
theorem CF_47 : CF Tryz.prog 47 := ⟨⟨_, _, Tryz.func47, rfl, by kernel_rfl⟩⟩
theorem CF_49 : CF Tryz.prog 49 := ⟨⟨_, _, Tryz.func49, rfl, by kernel_rfl⟩⟩
theorem CF_50 : CF Tryz.prog 50 := ⟨⟨_, _, Tryz.func50, rfl, by kernel_rfl⟩⟩
theorem CF_51 : CF Tryz.prog 51 := ⟨⟨_, _, Tryz.func51, rfl, by kernel_rfl⟩⟩
theorem CF_6 : CF Tryz.prog 6 := ⟨⟨_, _, Tryz.func6, rfl, by kernel_rfl⟩⟩
theorem CF_7 : CF Tryz.prog 7 := ⟨⟨_, _, Tryz.func7, rfl, by kernel_rfl⟩⟩
theorem CF_8 : CF Tryz.prog 8 := ⟨⟨_, _, Tryz.func8, rfl, by kernel_rfl⟩⟩
theorem CF_81 : CF Tryz.prog 81 := ⟨⟨_, _, Tryz.func81, rfl, by kernel_rfl⟩⟩
theorem CF_82 : CF Tryz.prog 82 := ⟨⟨_, _, Tryz.func82, rfl, by kernel_rfl⟩⟩
theorem CF_86 : CF Tryz.prog 86 := ⟨⟨_, _, Tryz.func86, rfl, by kernel_rfl⟩⟩
theorem CF_87 : CF Tryz.prog 87 := ⟨⟨_, _, Tryz.func87, rfl, by kernel_rfl⟩⟩
theorem CF_88 : CF Tryz.prog 88 := ⟨⟨_, _, Tryz.func88, rfl, by kernel_rfl⟩⟩
theorem CF_89 : CF Tryz.prog 89 := ⟨⟨_, _, Tryz.func89, rfl, by kernel_rfl⟩⟩
theorem CF_9 : CF Tryz.prog 9 := ⟨⟨_, _, Tryz.func9, rfl, by kernel_rfl⟩⟩
theorem CF_90 : CF Tryz.prog 90 := ⟨⟨_, _, Tryz.func90, rfl, by kernel_rfl⟩⟩
theorem CF_91 : CF Tryz.prog 91 := ⟨⟨_, _, Tryz.func91, rfl, by kernel_rfl⟩⟩
theorem CF_92 : CF Tryz.prog 92 := ⟨⟨_, _, Tryz.func92, rfl, by kernel_rfl⟩⟩
theorem CF_93 : CF Tryz.prog 93 := ⟨⟨_, _, Tryz.func93, rfl, by kernel_rfl⟩⟩
theorem CF_94 : CF Tryz.prog 94 := ⟨⟨_, _, Tryz.func94, rfl, by kernel_rfl⟩⟩
theorem CF_95 : CF Tryz.prog 95 := ⟨⟨_, _, Tryz.func95, rfl, by kernel_rfl⟩⟩
theorem CF_96 : CF Tryz.prog 96 := ⟨⟨_, _, Tryz.func96, rfl, by kernel_rfl⟩⟩
theorem CF_97 : CF Tryz.prog 97 := ⟨⟨_, _, Tryz.func97, rfl, by kernel_rfl⟩⟩
theorem CF_98 : CF Tryz.prog 98 := ⟨⟨_, _, Tryz.func98, rfl, by kernel_rfl⟩⟩
theorem CF_99 : CF Tryz.prog 99 := ⟨⟨_, _, Tryz.func99, rfl, by kernel_rfl⟩⟩
theorem ET_22 : ElemT Tryz.prog 22 126 (.agg #[.int .i64 0, .slice none 0 0, .bool false]) 3 40 encSlot := { ht := Tryz.underlying22, hT := { info := by kernel_rfl, zs := rfl, pos := by decide }, hk := fun _ => rfl, h1 := by intro x u hu; simp [encSlot] at hu; rcases hu with rfl | rfl | rfl <;> rfl, by0 := by decide }
theorem ET_28 : ElemT Tryz.prog 28 91 (.agg #[.string ⟨#[]⟩, .string ⟨#[]⟩]) 2 32 encC := { ht := Tryz.underlying28, hT := { info := by kernel_rfl, zs := rfl, pos := by decide }, hk := fun _ => rfl, h1 := by intro x u hu; simp [encC] at hu; rcases hu with rfl | rfl <;> rfl, by0 := by decide }
theorem ET_31 : ElemT Tryz.prog 31 81 (.agg #[.int .i64 0, .slice none 0 0, .bool false]) 3 40 encSlot := { ht := Tryz.underlying31, hT := { info := by kernel_rfl, zs := rfl, pos := by decide }, hk := fun _ => rfl, h1 := by intro x u hu; simp [encSlot] at hu; rcases hu with rfl | rfl | rfl <;> rfl, by0 := by decide }
theorem ET_44 : ElemT Tryz.prog 44 9 (.string ⟨#[]⟩) 1 16 encS := { ht := Tryz.underlying44, hT := { info := by kernel_rfl, zs := rfl, pos := by decide }, hk := fun _ => rfl, h1 := by intro x u hu; simp [encS] at hu; subst hu; rfl, by0 := by decide }
theorem ET_62 : ElemT Tryz.prog 62 5 (.int .u8 0) 1 1 encB := { ht := Tryz.underlying62, hT := { info := by kernel_rfl, zs := rfl, pos := by decide }, hk := fun _ => rfl, h1 := by intro x u hu; simp [encB] at hu; subst hu; rfl, by0 := by decide }
theorem ET_83 : ElemT Tryz.prog 83 28 (.slice none 0 0) 1 24 encCs := { ht := Tryz.underlying83, hT := { info := by kernel_rfl, zs := rfl, pos := by decide }, hk := fun _ => rfl, h1 := by intro x u hu; simp [encCs] at hu; subst hu; rfl, by0 := by decide }
theorem FI_126_0 : FI Tryz.prog 126 0 0 := fi_mk Tryz.underlying126 rfl rfl (k := 0) (by kernel_rfl)
theorem FI_126_1 : FI Tryz.prog 126 1 1 := fi_mk Tryz.underlying126 rfl rfl (k := 0) (by kernel_rfl)
theorem FI_126_2 : FI Tryz.prog 126 2 2 := fi_mk Tryz.underlying126 rfl rfl (k := 0) (by kernel_rfl)
theorem FI_195_1 : FI Tryz.prog 195 1 1 := fi_mk Tryz.underlying195 rfl rfl (k := 0) (by kernel_rfl)
theorem FI_24_0 : FI Tryz.prog 24 0 0 := fi_mk Tryz.underlying24 rfl rfl (k := 0) (by kernel_rfl)
theorem FI_24_1 : FI Tryz.prog 24 1 1 := fi_mk Tryz.underlying24 rfl rfl (k := 0) (by kernel_rfl)
theorem FI_26_0 : FI Tryz.prog 26 0 0 := fi_mk Tryz.underlying26 rfl rfl (k := 0) (by kernel_rfl)
theorem FI_26_1 : FI Tryz.prog 26 1 1 := fi_mk Tryz.underlying26 rfl rfl (k := 1) (by kernel_rfl)
theorem FI_32_0 : FI Tryz.prog 32 0 0 := fi_mk Tryz.underlying32 rfl rfl (k := 0) (by kernel_rfl)
theorem FI_32_1 : FI Tryz.prog 32 1 1 := fi_mk Tryz.underlying32 rfl rfl (k := 0) (by kernel_rfl)
theorem FI_34_0 : FI Tryz.prog 34 0 0 := fi_mk Tryz.underlying34 rfl rfl (k := 0) (by kernel_rfl)
theorem FI_34_1 : FI Tryz.prog 34 1 1 := fi_mk Tryz.underlying34 rfl rfl (k := 1) (by kernel_rfl)
theorem FI_81_0 : FI Tryz.prog 81 0 0 := fi_mk Tryz.underlying81 rfl rfl (k := 0) (by kernel_rfl)
theorem FI_81_1 : FI Tryz.prog 81 1 1 := fi_mk Tryz.underlying81 rfl rfl (k := 0) (by kernel_rfl)
theorem FI_81_2 : FI Tryz.prog 81 2 2 := fi_mk Tryz.underlying81 rfl rfl (k := 0) (by kernel_rfl)
theorem FI_91_0 : FI Tryz.prog 91 0 0 := fi_mk Tryz.underlying91 rfl rfl (k := 0) (by kernel_rfl)
theorem FI_91_1 : FI Tryz.prog 91 1 1 := fi_mk Tryz.underlying91 rfl rfl (k := 0) (by kernel_rfl)
theorem mixed : Tryz.prog.follows .mixedOrders = true := by kernel_rfl
theorem TI_126 : TI Tryz.prog 126 true 3 := ti_mk Tryz.underlying126 rfl (by kernel_rfl)
theorem TI_22 : TI Tryz.prog 22 false 1 := ti_mk Tryz.underlying22 rfl (by kernel_rfl)
theorem TI_24 : TI Tryz.prog 24 true 2 := ti_mk Tryz.underlying24 rfl (by kernel_rfl)
theorem TI_26 : TI Tryz.prog 26 true 3 := ti_mk Tryz.underlying26 rfl (by kernel_rfl)
theorem TI_28 : TI Tryz.prog 28 false 1 := ti_mk Tryz.underlying28 rfl (by kernel_rfl)
theorem TI_3 : TI Tryz.prog 3 false 1 := ti_mk Tryz.underlying3 rfl (by kernel_rfl)
theorem TI_31 : TI Tryz.prog 31 false 1 := ti_mk Tryz.underlying31 rfl (by kernel_rfl)
theorem TI_32 : TI Tryz.prog 32 true 2 := ti_mk Tryz.underlying32 rfl (by kernel_rfl)
theorem TI_34 : TI Tryz.prog 34 true 3 := ti_mk Tryz.underlying34 rfl (by kernel_rfl)
theorem TI_4 : TI Tryz.prog 4 false 1 := ti_mk Tryz.underlying4 rfl (by kernel_rfl)
theorem TI_41 : TI Tryz.prog 41 false 1 := ti_mk Tryz.underlying41 rfl (by kernel_rfl)
theorem TI_62 : TI Tryz.prog 62 false 1 := ti_mk Tryz.underlying62 rfl (by kernel_rfl)
theorem TI_81 : TI Tryz.prog 81 true 3 := ti_mk Tryz.underlying81 rfl (by kernel_rfl)
theorem TI_9 : TI Tryz.prog 9 false 1 := ti_mk Tryz.underlying9 rfl (by kernel_rfl)
theorem TI_91 : TI Tryz.prog 91 true 2 := ti_mk Tryz.underlying91 rfl (by kernel_rfl)
theorem ZI_195 : ZI Tryz.prog 195 (.agg #[.pointer none, .slice none 0 0]) := zi_mk (by kernel_rfl)
theorem ZI_32 : ZI Tryz.prog 32 (.agg #[.string (⟨#[]⟩ : ByteArray), .int .i64 0]) := zi_mk (by kernel_rfl)
theorem ZI_34 : ZI Tryz.prog 34 (.agg #[.slice none 0 0, .string (⟨#[]⟩ : ByteArray), .int .i64 0]) := zi_mk (by kernel_rfl)
theorem ZI_81 : ZI Tryz.prog 81 (.agg #[.int .i64 0, .slice none 0 0, .bool false]) := zi_mk (by kernel_rfl)
theorem ZI_91 : ZI Tryz.prog 91 (.agg #[.string (⟨#[]⟩ : ByteArray), .string (⟨#[]⟩ : ByteArray)]) := zi_mk (by kernel_rfl)
end Go.Proofs.YtipdbeklopjbmaaGreatDoor
