/-
  How a statement's arguments are opened, for the walks.
-/
import Derived.Test.YtibgmijfnbnfkaaGreatDoorDat
namespace Go.Proofs.YtibgmijfnbnfkaaGreatDoor
open Go.ChangeShapes Go.WideShapes Go.ChangeAt Go.RowKit

section
variable {P : Program} {W : World} {T e : TypeId} {cs : List Value} {α : Type} {k : Nat} {enc : α → List Value} {ok : α → Prop}
theorem rdA_of (ht : P.underlying T = some (.slice e)) (hk : P.cellsOf e = k) (hk0 : 0 < k) (hrow : ∀ row, row.length = k → Reads P W e row → ∃ x, row = enc x ∧ ok x) (h : Reads P W T cs) :
    ∃ a n c l, cs = [.slice a n c] ∧ RdA k enc ok (fun _ => True) W (.slice a n c) l := by
  obtain ⟨v, l, rfl, hr⟩ := Reads.slice (R := Enc enc ok) ht hk hk0 (fun row h1 h2 => hrow row h1 h2) h
  obtain ⟨a, cap, rfl, _⟩ := hr.inv
  exact ⟨a, _, cap, l, rfl, hr, fun _ _ _ _ _ => trivial⟩
end
end Go.Proofs.YtibgmijfnbnfkaaGreatDoor
