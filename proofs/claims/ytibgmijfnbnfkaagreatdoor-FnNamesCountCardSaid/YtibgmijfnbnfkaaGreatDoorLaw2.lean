/-
  How a statement's arguments of bytes are opened.
-/
import Derived.Test.YtibgmijfnbnfkaaGreatDoorLaw
import Derived.Test.YtibgmijfnbnfkaaGreatDoorEng8
namespace Go.Proofs.YtibgmijfnbnfkaaGreatDoor
open Go.ChangeShapes Go.WideShapes Go.ChangeAt Go.RowKit
theorem u8_row {P : Program} {W : World} {e : TypeId} (ht : P.underlying e = some (.int .u8)) : ∀ row, row.length = 1 → Reads P W e row → ∃ x, row = encB x ∧ okB x := fun row _ hr => by
  obtain ⟨n, rfl, h0, h1⟩ := hr.u8 ht
  obtain ⟨m, rfl⟩ := Int.eq_ofNat_of_zero_le h0
  exact ⟨m, rfl, by unfold okB; omega⟩
end Go.Proofs.YtibgmijfnbnfkaaGreatDoor
