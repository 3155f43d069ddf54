/-
  How a statement's arguments are opened, for the walks.
-/
import Derived.Test.YtibgmijfnbnfkaaDoorDat
namespace Go.Proofs.YtibgmijfnbnfkaaDoor
open Go.ChangeShapes Go.WideShapes Go.ChangeAt Go.RowKit

section
variable {P : Program} {W : World} {T e : TypeId} {cs : List Value} {α : Type} {k : Nat} {enc : α → List Value} {ok : α → Prop}
theorem rdA_of (ht : P.underlying T = some (.slice e)) (hk : P.cellsOf e = k) (hk0 : 0 < k) (hrow : ∀ row, row.length = k → Reads P W e row → ∃ x, row = enc x ∧ ok x) (h : Reads P W T cs) :
    ∃ a n c l, cs = [.slice a n c] ∧ RdA k enc ok (fun _ => True) W (.slice a n c) l := by
  obtain ⟨v, l, rfl, hr⟩ := Reads.slice (R := Enc enc ok) ht hk hk0 (fun row h1 h2 => hrow row h1 h2) h
  obtain ⟨a, cap, rfl, _⟩ := hr.inv
  exact ⟨a, _, cap, l, rfl, hr, fun _ _ _ _ _ => trivial⟩
theorem str_row (ht : P.underlying e = some .string) : ∀ row, row.length = 1 → Reads P W e row → ∃ x, row = encS x ∧ okS x := fun row _ hr => by
  obtain ⟨s, rfl, hm⟩ := hr.string ht
  exact ⟨s, rfl, maxLen_le hm⟩
theorem cell_row {fs : Array Field} {f0 f1 : Field} (ht : P.underlying e = some (.struct fs)) (h0 : fs[0]? = some f0) (h1 : fs[1]? = some f1) (o0 : f0.offset = 0) (o1 : f1.offset = 1) (c0 : P.cellsOf f0.type = 1) (c1 : P.cellsOf f1.type = 1)
    (u0 : P.underlying f0.type = some .string) (u1 : P.underlying f1.type = some .string) : ∀ row, row.length = 2 → Reads P W e row → ∃ x, row = encC x ∧ okC x := fun row hl hr => by
  obtain ⟨_, hf⟩ := hr.struct ht
  match row, hl with
  | [a, b], _ =>
    have g0 := hf 0 f0 h0
    have g1 := hf 1 f1 h1
    rw [o0, c0] at g0
    rw [o1, c1] at g1
    obtain ⟨s, e0, hm0⟩ := Reads.string u0 g0
    obtain ⟨t, e1, hm1⟩ := Reads.string u1 g1
    simp at e0 e1
    subst e0; subst e1
    exact ⟨⟨s, t⟩, rfl, maxLen_le hm0, maxLen_le hm1⟩
end
end Go.Proofs.YtibgmijfnbnfkaaDoor
