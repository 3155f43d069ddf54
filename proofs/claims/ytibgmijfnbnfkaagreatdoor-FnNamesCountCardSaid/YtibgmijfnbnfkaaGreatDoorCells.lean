/-
  Contracts: the laws' helpers on cells and slices of cells (szCell, toCell, eqCell, szCellS, toCellS, eqCellS, markCellS, heldCellS).
-/
import Derived.Test.YtibgmijfnbnfkaaGreatDoorSlices
namespace Go.Proofs.YtibgmijfnbnfkaaGreatDoor
open Go.ChangeShapes Go.WideShapes Go.ChangeAt Go.RowKit
set_option maxHeartbeats 1000000
set_option maxRecDepth 100000

abbrev ACells (w : World) (v : Value) (l : List CellD) : Prop := RArg 2 (Enc encC okC) w v l
theorem ACells.at {w : World} {a : Option Addr} {n cap : Nat} {l : List CellD} (h : ACells w (.slice a n cap) l) (i : Nat) (hi : i < n) :
    ∃ b off c, a = some ⟨b, off, none⟩ ∧ l[i]? = some c ∧ (c.key.size ≤ 9223372036854775807 ∧ c.val.size ≤ 9223372036854775807) ∧ w.cell? ⟨b, off + i * 2, none⟩ = some (.string c.key) ∧ w.cell? ⟨b, off + i * 2 + 1, none⟩ = some (.string c.val) := by
  obtain ⟨b, off, c, row, h1, h2, h3, ⟨rfl, h4⟩, h5⟩ := RArg.at h i hi
  exact ⟨b, off, c, h1, h2, h4, by simpa using h5 0 (.string c.key) rfl, by simpa using h5 1 (.string c.val) rfl⟩
theorem ACells.below {w w' : World} {v : Value} {l : List CellD} (h : ACells w v l) (hb : Bl w w') : ACells w' v l := RArg.below (Enc.stable _ _) h hb

end Go.Proofs.YtibgmijfnbnfkaaGreatDoor
