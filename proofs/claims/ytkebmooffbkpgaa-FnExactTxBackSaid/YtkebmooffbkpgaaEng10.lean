/-
  Slices of structs that hold slices.
-/
import Derived.Test.YtkebmooffbkpgaaEng9
namespace Go.Proofs.Ytkebmooffbkpgaa
open Go.ChangeShapes Go.WideShapes Go.ChangeAt Go.RowKit

/-- A slice within an element: the piece that it is when it is owned, how it reads when it is not. -/
structure Inn where
  atom : Atom
  rd : (Nat → Prop) → World → Prop
  ra : (Nat → Prop) → World → Prop
  off : ∀ {S : Nat → Prop} {w : World}, atom.ok w → (∀ b, atom.fp b → S b) → rd S w
  rdM : ∀ {H H' : Nat → Prop} {w : World}, rd H w → (∀ b, H b → H' b) → rd H' w
  raM : ∀ {H H' : Nat → Prop} {w : World}, ra H w → (∀ b, H b → H' b) → ra H' w
  rdV : ∀ {G : Nat → Prop} {w0 w w' : World} {L L' : List Atom}, rd (V G w0 L) w → Mv L w L' w' → rd (V G w0 L') w'
  raV : ∀ {G : Nat → Prop} {w0 w w' : World} {L L' : List Atom}, ra (V G w0 L) w → Mv L w L' w' → ra (V G w0 L') w'
def inn {α : Type} (e k : Nat) (enc : α → List Value) (ok : α → Prop) (hk : ∀ x, (enc x).length = k) (h0 : 0 < k) (v : Value) (l : List α) : Inn where
  atom := ow e k enc ok v l
  rd := fun H w => Rd k enc ok H w v l
  ra := fun H w => RdA k enc ok H w v l
  off := fun h hS => ⟨Own.rd hk h, fun _ _ _ e' _ => hS _ (by subst e'; rfl)⟩
  rdM := fun h hH => h.mono hH
  raM := fun h hH => h.mono hH
  rdV := fun h m => h.mv h0 m
  raV := fun h m => h.mv h0 m

section
variable {α : Type} {inns : α → List Inn} {D : List α}
def NRd (inns : α → List Inn) (H : Nat → Prop) (w : World) (D : List α) : Prop := ∀ x ∈ D, ∀ I ∈ inns x, I.rd H w
def NRa (inns : α → List Inn) (H : Nat → Prop) (w : World) (D : List α) : Prop := ∀ x ∈ D, ∀ I ∈ inns x, I.ra H w
variable {G H H' : Nat → Prop} {w0 w w' : World} {L L' : List Atom}
theorem NRd.mv (h : NRd inns (V G w0 L) w D) (m : Mv L w L' w') : NRd inns (V G w0 L') w' D := fun x hx I hI => I.rdV (h x hx I hI) m
theorem NRa.mv (h : NRa inns (V G w0 L) w D) (m : Mv L w L' w') : NRa inns (V G w0 L') w' D := fun x hx I hI => I.raV (h x hx I hI) m
theorem NRd.mono (h : NRd inns H w D) (hH : ∀ b, H b → H' b) : NRd inns H' w D := fun x hx I hI => I.rdM (h x hx I hI) hH
theorem NRa.mono (h : NRa inns H w D) (hH : ∀ b, H b → H' b) : NRa inns H' w D := fun x hx I hI => I.raM (h x hx I hI) hH
theorem NRd.top (h : NRd inns H w D) : NRd inns (fun _ => True) w D := h.mono fun _ _ => trivial
theorem NRa.top (h : NRa inns H w D) : NRa inns (fun _ => True) w D := h.mono fun _ _ => trivial
theorem NRd.start (h : NRd inns H w0 D) (hL : ∀ b, H b → ¬ fps L b) : NRd inns (V H w0 L) w0 D := h.mono fun b hb => ⟨.inl hb, hL b hb⟩
theorem NRa.start (h : NRa inns H w0 D) (hL : ∀ b, H b → ¬ fps L b) : NRa inns (V H w0 L) w0 D := h.mono fun b hb => ⟨.inl hb, hL b hb⟩
theorem NRd.startP (h : NRd inns H w0 D) (hL : ∀ b, H b → ¬ fps L b) : NRd inns (V (HP H L) w0 L) w0 D := h.mono fun b hb => ⟨.inl (.inl hb), hL b hb⟩
theorem NRa.startP (h : NRa inns H w0 D) (hL : ∀ b, H b → ¬ fps L b) : NRa inns (V (HP H L) w0 L) w0 D := h.mono fun b hb => ⟨.inl (.inl hb), hL b hb⟩
theorem NRd.get (h : NRd inns H w D) {i j : Nat} {x : α} {I : Inn} (hx : nth D i = some x) (hI : nth (inns x) j = some I) : I.rd H w := h x (nth_mem hx) I (nth_mem hI)
theorem NRa.get (h : NRa inns H w D) {i j : Nat} {x : α} {I : Inn} (hx : nth D i = some x) (hI : nth (inns x) j = some I) : I.ra H w := h x (nth_mem hx) I (nth_mem hI)
theorem NRd.nil : NRd inns H w ([] : List α) := fun _ h => by cases h
theorem NRd.sub {D' : List α} (h : NRd inns H w D) (hs : ∀ x ∈ D', x ∈ D) : NRd inns H w D' := fun x hx => h x (hs x hx)
theorem NRd.take (h : NRd inns H w D) (n : Nat) : NRd inns H w (D.take n) := h.sub fun _ hx => List.mem_of_mem_take hx
theorem NRa.nil : NRa inns H w ([] : List α) := fun _ h => by cases h

/-! ### the pieces of all elements, laid together -/
def pcs (inns : α → List Inn) (x : α) : List Atom := (inns x).map Inn.atom
/-- The pieces of all elements but the i-th one's. -/
def grx (inns : α → List Inn) (D : List α) (i : Nat) : Atom where
  fp := fun b => ∃ j x, j ≠ i ∧ nth D j = some x ∧ fps (pcs inns x) b
  ok := fun w => (∀ j x, j ≠ i → nth D j = some x → (∀ A ∈ pcs inns x, A.ok w) ∧ (pcs inns x).Pairwise fun (A B : Atom) => ∀ b : Nat, A.fp b → ¬ B.fp b) ∧ ∀ j j' x x', j ≠ i → j' ≠ i → j ≠ j' → nth D j = some x → nth D j' = some x' → ∀ b, fps (pcs inns x) b → ¬ fps (pcs inns x') b
  st := fun w w' hb h => ⟨fun j x hj hx => ⟨fun A hA => A.st w w' (fun b hA' => hb b ⟨j, x, hj, hx, A, hA, hA'⟩) ((h.1 j x hj hx).1 A hA), (h.1 j x hj hx).2⟩, h.2⟩
def gr (inns : α → List Inn) (D : List α) : Atom := grx inns D D.length
theorem nth_ne {j : Nat} {x : α} (h : nth D j = some x) : j ≠ D.length := by have := nth_lt h; omega
theorem Mv.same (h : At w L') (hf : ∀ b, fps L' b → fps L b) : Mv L w L' w := ⟨h, fun b hb => .inl (hf b hb), Kp.refl _ _⟩
theorem fps_one {A : Atom} {b : Nat} : fps [A] b ↔ A.fp b := by simp [fps]
theorem gr_open1 (A : At w [gr inns D]) {i : Nat} {x : α} (hx : nth D i = some x) : Mv [gr inns D] w (pcs inns x ++ [grx inns D i]) w := by
  have hg : (gr inns D).ok w := A.ok _ (List.mem_singleton.2 rfl)
  have hsub : ∀ b, fps (pcs inns x ++ [grx inns D i]) b → fps [gr inns D] b := fun b hb => by
    rw [fps_one]
    rcases fps_append.1 hb with h | h
    · exact ⟨i, x, nth_ne hx, hx, h⟩
    · obtain ⟨j, y, _, hy, h2⟩ := fps_one.1 h
      exact ⟨j, y, nth_ne hy, hy, h2⟩
  refine Mv.same ⟨fun B hB => ?_, fun b hb => A.lt b (hsub b hb), ?_⟩ hsub
  · rcases List.mem_append.1 hB with h | h
    · exact (hg.1 i x (nth_ne hx) hx).1 B h
    · rw [List.mem_singleton.1 h]
      exact ⟨fun j y _ hy => hg.1 j y (nth_ne hy) hy, fun j j' y y' _ _ hne hy hy' => hg.2 j j' y y' (nth_ne hy) (nth_ne hy') hne hy hy'⟩
  · refine List.pairwise_append.2 ⟨(hg.1 i x (nth_ne hx) hx).2, List.pairwise_singleton _ _, fun B hB C hC b hb hc => ?_⟩
    rw [List.mem_singleton.1 hC] at hc
    obtain ⟨j, y, hj, hy, h2⟩ := hc
    exact hg.2 i j x y (nth_ne hx) (nth_ne hy) (fun e => hj e.symm) hx hy b ⟨B, hB, hb⟩ h2
/-- An element's pieces are laid to the others. -/
theorem gr_close1 {D' : List α} {x' : α} {i i0 : Nat} (A : At w (pcs inns x' ++ [grx inns D i0])) (h : ∀ j y, nth D' j = some y → (j = i ∧ y = x') ∨ (j ≠ i ∧ j ≠ i0 ∧ nth D j = some y)) :
    Mv (pcs inns x' ++ [grx inns D i0]) w [gr inns D'] w := by
  have hg : (grx inns D i0).ok w := A.ok _ (List.mem_append_right _ (List.mem_singleton.2 rfl))
  have hcross : ∀ b, fps (pcs inns x') b → ∀ j y, j ≠ i0 → nth D j = some y → ¬ fps (pcs inns y) b := fun b ⟨B, hB, hb⟩ j y hj hy h2 =>
    (List.pairwise_append.1 A.apart).2.2 B hB _ (List.mem_singleton.2 rfl) b hb ⟨j, y, hj, hy, h2⟩
  have hsub : ∀ b, fps [gr inns D'] b → fps (pcs inns x' ++ [grx inns D i0]) b := fun b hb => by
    obtain ⟨j, y, _, hy, h2⟩ := fps_one.1 hb
    rcases h j y hy with ⟨_, rfl⟩ | ⟨_, h3, h4⟩
    · exact fps_append.2 (.inl h2)
    · exact fps_append.2 (.inr (fps_one.2 ⟨j, y, h3, h4, h2⟩))
  refine Mv.same (At.one ⟨fun j y _ hy => ?_, fun j j' y y' _ _ hne hy hy' b hb hb' => ?_⟩ fun b hb => A.lt b (hsub b (fps_one.2 hb))) hsub
  · rcases h j y hy with ⟨_, rfl⟩ | ⟨_, h3, h4⟩
    · exact ⟨fun B hB => A.ok B (List.mem_append_left _ hB), (List.pairwise_append.1 A.apart).1⟩
    · exact hg.1 j y h3 h4
  · rcases h j y hy with ⟨e, rfl⟩ | ⟨h2, h3, h4⟩
    · rcases h j' y' hy' with ⟨e', _⟩ | ⟨_, h3', h4'⟩
      · exact hne (by omega)
      · exact hcross b hb j' y' h3' h4' hb'
    · rcases h j' y' hy' with ⟨e', rfl⟩ | ⟨_, h3', h4'⟩
      · exact hcross b hb' j y h3 h4 hb
      · exact hg.2 j j' y y' h3 h3' hne h4 h4' b hb hb'
theorem sel_one {β : Type} {l : List β} {i : Nat} {x : β} (h : nth l i = some x) : sel l [i] = [x] := by unfold sel; rw [h]; rfl
/-- The i-th element's pieces are taken out. -/
theorem gr_open (A : At w L) (q : Nat) (hL : nth L q = some (gr inns D)) (hq : okSel L.length [q] = true) {i : Nat} {x : α} (hx : nth D i = some x) : Mv L w ((pcs inns x ++ [grx inns D i]) ++ del L [q]) w :=
  A.frame [q] hq (by rw [sel_one hL]; exact gr_open1 (by rw [← sel_one hL]; exact A.pick hq) hx)
theorem nth_set {j i : Nat} {x y : α} (h : nth (D.set i x) j = some y) : (j = i ∧ y = x) ∨ (j ≠ i ∧ nth D j = some y) := by
  rw [nth_eq] at h ⊢
  by_cases e : j = i
  · subst e
    rcases Nat.lt_or_ge j D.length with hl | hl
    · rw [List.getElem?_set_self hl] at h; exact .inl ⟨rfl, (Option.some.inj h).symm⟩
    · rw [List.getElem?_eq_none (by rw [List.length_set]; exact hl)] at h; cases h
  · rw [List.getElem?_set_ne (fun h => e h.symm)] at h; exact .inr ⟨e, h⟩
theorem nth_snoc {j : Nat} {x y : α} (h : nth (D ++ [x]) j = some y) : (j = D.length ∧ y = x) ∨ (j ≠ D.length ∧ nth D j = some y) := by
  rw [nth_eq] at h ⊢
  rcases Nat.lt_trichotomy j D.length with hl | hl | hl
  · rw [List.getElem?_append_left hl] at h; exact .inr ⟨by omega, h⟩
  · subst hl; rw [List.getElem?_append_right (Nat.le_refl _), Nat.sub_self] at h; exact .inl ⟨rfl, (Option.some.inj h).symm⟩
  · rw [List.getElem?_eq_none (by rw [List.length_append, List.length_singleton]; omega)] at h; cases h
/-- .. and are laid back: the element is another one now. -/
theorem gr_close (A : At w L) (is : List Nat) (x' : α) {i : Nat} (hs : sel L is = pcs inns x' ++ [grx inns D i]) (hq : okSel L.length is = true) : Mv L w ([gr inns (D.set i x')] ++ del L is) w :=
  A.frame is hq (by rw [hs]; exact gr_close1 (by rw [← hs]; exact A.pick hq) fun j y hy => (nth_set hy).imp id fun h => ⟨h.1, h.1, h.2⟩)
/-- An element is put in the place of another one, whose pieces fall. -/
theorem gr_set (A : At w L) (is : List Nat) (x' : α) (i : Nat) (hs : sel L is = pcs inns x' ++ [gr inns D]) (hq : okSel L.length is = true) : Mv L w ([gr inns (D.set i x')] ++ del L is) w :=
  A.frame is hq (by rw [hs]; exact gr_close1 (i0 := D.length) (by rw [← show gr inns D = grx inns D D.length from rfl, ← hs]; exact A.pick hq) fun j y hy => (nth_set hy).imp id fun h => ⟨h.1, nth_ne h.2, h.2⟩)
/-- An element is added. -/
theorem gr_push (A : At w L) (is : List Nat) (x' : α) (hs : sel L is = pcs inns x' ++ [gr inns D]) (hq : okSel L.length is = true) : Mv L w ([gr inns (D ++ [x'])] ++ del L is) w :=
  A.frame is hq (by rw [hs]; exact gr_close1 (i0 := D.length) (i := D.length) (by rw [← show gr inns D = grx inns D D.length from rfl, ← hs]; exact A.pick hq) fun j y hy => (nth_snoc hy).imp id fun h => ⟨h.1, nth_ne h.2, h.2⟩)
/-- What lies beside the slices turns. -/
theorem gr_same (A : At w L) (q : Nat) (hL : nth L q = some (gr inns D)) (hq : okSel L.length [q] = true) {i : Nat} {x : α} (y : α) (hx : nth D i = some x) (hp : pcs inns y = pcs inns x) : Mv L w ([gr inns (D.set i y)] ++ del L [q]) w :=
  A.frame [q] hq (by
    rw [sel_one hL]
    have m := gr_open1 (by rw [← sel_one hL]; exact A.pick hq) hx
    refine m.trans ?_
    rw [← hp] at m ⊢
    exact gr_close1 (i := i) m.at' fun j z hz => (nth_set hz).imp id fun h => ⟨h.1, h.1, h.2⟩)
theorem gr_new (A : At w L) (D : List α) (h : ∀ x ∈ D, ∀ B ∈ pcs inns x, (∀ b, ¬ B.fp b) ∧ ∀ w, B.ok w) : Mv L w (gr inns D :: L) w := by
  have hf : ∀ b, ¬ (gr inns D).fp b := fun b ⟨j, x, _, hx, B, hB, hb⟩ => (h x (nth_mem hx) B hB).1 b hb
  refine Mv.same ⟨fun B hB => ?_, fun b hb => ?_, List.pairwise_cons.2 ⟨fun B _ b hb => (hf b hb).elim, A.apart⟩⟩ fun b hb => (fps_cons.1 hb).resolve_left (hf b)
  · rcases List.mem_cons.1 hB with rfl | hB
    · refine ⟨fun j x _ hx => ⟨fun B hB => (h x (nth_mem hx) B hB).2 w, ?_⟩, fun j j' x x' _ _ _ hx _ b ⟨B, hB, hb⟩ => ((h x (nth_mem hx) B hB).1 b hb).elim⟩
      exact List.Pairwise.imp_of_mem (fun {B C} hB _ _ b hb => ((h x (nth_mem hx) B hB).1 b hb).elim) (List.pairwise_of_forall (R := fun _ _ => True) fun _ _ => trivial)
    · exact A.ok B hB
  · exact A.lt b ((fps_cons.1 hb).resolve_left (hf b))
theorem gr_nil (A : At w L) : Mv L w (gr inns ([] : List α) :: L) w := gr_new A [] fun _ h => by cases h
theorem At.nrdS (A : At w L) (q : Nat) (hL : nth L q = some (gr inns D)) {S : Nat → Prop} (hS : ∀ b, (gr inns D).fp b → S b) : NRd inns S w D := by
  intro x hx I hI
  obtain ⟨j, hj⟩ := List.mem_iff_getElem?.1 hx
  rw [← nth_eq] at hj
  have hg : (gr inns D).ok w := A.ok _ (nth_mem hL)
  have hm : I.atom ∈ pcs inns x := List.mem_map.2 ⟨I, hI, rfl⟩
  exact I.off ((hg.1 j x (nth_ne hj) hj).1 _ hm) fun b hb => hS b ⟨j, x, nth_ne hj, hj, _, hm, hb⟩
/-- What is owned, read for a while. -/
theorem At.nrd (A : At w L) (q : Nat) (hL : nth L q = some (gr inns D)) : NRd inns (fun _ => True) w D := A.nrdS q hL fun _ _ => trivial
theorem At.nrdOff (A : At w L) (q : Nat) (hL : nth L q = some (gr inns D)) (is : List Nat) (hi : is.any (Nat.beq q) = false) : NRd inns (fun b => ¬ fps (sel L is) b) w D := A.nrdS q hL (by
  rintro b hb ⟨B, hB, hb'⟩
  obtain ⟨j, h3, h4⟩ := sel_idx hB
  refine A.apartAt hL h4 (fun e => ?_) b hb hb'
  subst e
  simp at hi
  exact hi _ h3 rfl)
/-- What is owned, from now on only read. -/
theorem At.nfreeze (A : At w L) (q : Nat) (hL : nth L q = some (gr inns D)) (hf : ∀ b, fps L b → G b ∨ w0.heap.size ≤ b) : NRd inns (V G w0 (del L [q])) w D := A.nrdS q hL (by
  intro b hb
  refine ⟨hf b ⟨_, nth_mem hL, hb⟩, ?_⟩
  rintro ⟨B, hB, hb'⟩
  obtain ⟨j, h1, h2⟩ := del_go_mem hB
  exact A.apartAt hL h1 (fun e => h2 (by simp [e])) b hb hb')
/-- The cells of an element tell nothing of what its slices hold. -/
theorem ow_same {e k : Nat} {enc : α → List Value} {ok : α → Prop} (A : At w L) (q : Nat) {v : Value} (hL : nth L q = some (ow e k enc ok v D)) (hq : okSel L.length [q] = true) {i : Nat} {x : α} (y : α) (hx : nth D i = some x) (he : enc y = enc x) (hy : ok y) :
    Mv L w ([ow e k enc ok v (D.set i y)] ++ del L [q]) w :=
  A.frame [q] hq (by
    rw [sel_one hL]
    have hO : Own e k enc ok w v D := A.ok _ (nth_mem hL)
    have hfl : flat enc (D.set i y) = flat enc D := by
      rw [nth_eq] at hx
      obtain ⟨hi, rfl⟩ := List.getElem?_eq_some_iff.1 hx
      unfold flat
      rw [List.flatMap_def, List.flatMap_def, List.map_set, he]
      congr 1
      exact List.ext_getElem? fun j => by
        by_cases e : j = i
        · subst e; rw [List.getElem?_set_self (by simpa using hi)]; simp [hi]
        · rw [List.getElem?_set_ne (fun h => e h.symm)]
    refine Mv.same (At.one ⟨?_, fun z hz => ?_⟩ fun b hb => A.lt b ⟨_, nth_mem hL, hb⟩) fun b hb => by rw [fps_one] at hb ⊢; exact hb
    · have h1 := hO.1
      rw [hfl, List.length_set]; exact h1
    · rcases List.mem_or_eq_of_mem_set hz with h | rfl
      · exact hO.2 z h
      · exact hy)
end
end Go.Proofs.Ytkebmooffbkpgaa
