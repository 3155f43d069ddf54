/-
  Contracts: the laws' helpers on cells and slices of cells (szCell, toCell, eqCell, szCellS, toCellS, eqCellS, markCellS, heldCellS).
-/
import Derived.Test.YtibgmijfnbnfkaaDoorSlices
namespace Go.Proofs.YtibgmijfnbnfkaaDoor
open Go.ChangeShapes Go.WideShapes Go.ChangeAt Go.RowKit
set_option maxHeartbeats 1000000
set_option maxRecDepth 100000

def szCellD (c : CellD) : Nat := c.key.size + c.val.size
def szCells (l : List CellD) : Nat := l.length + sumOf szCellD l
abbrev ACells (w : World) (v : Value) (l : List CellD) : Prop := RArg 2 (Enc encC okC) w v l
theorem ACells.at {w : World} {a : Option Addr} {n cap : Nat} {l : List CellD} (h : ACells w (.slice a n cap) l) (i : Nat) (hi : i < n) :
    ∃ b off c, a = some ⟨b, off, none⟩ ∧ l[i]? = some c ∧ (c.key.size ≤ 9223372036854775807 ∧ c.val.size ≤ 9223372036854775807) ∧ w.cell? ⟨b, off + i * 2, none⟩ = some (.string c.key) ∧ w.cell? ⟨b, off + i * 2 + 1, none⟩ = some (.string c.val) := by
  obtain ⟨b, off, c, row, h1, h2, h3, ⟨rfl, h4⟩, h5⟩ := RArg.at h i hi
  exact ⟨b, off, c, h1, h2, h4, by simpa using h5 0 (.string c.key) rfl, by simpa using h5 1 (.string c.val) rfl⟩
theorem ACells.below {w w' : World} {v : Value} {l : List CellD} (h : ACells w v l) (hb : Bl w w') : ACells w' v l := RArg.below (Enc.stable _ _) h hb

/-- The marked cells from number k0 on: two numbers a cell. -/
def marksC (k0 n : Nat) : List CellD := (List.range n).map fun i => ⟨markT (k0 + 2 * i), markT (k0 + 2 * i + 1)⟩
theorem marksC_length (k0 n : Nat) : (marksC k0 n).length = n := by simp [marksC]
theorem marksC_at (k0 n k : Nat) (h : k < n) : (marksC k0 n)[k]? = some ⟨markT (k0 + 2 * k), markT (k0 + 2 * k + 1)⟩ := by simp [marksC, h]
theorem marksC_set (k0 k : Nat) (l : List CellD) (h : k < l.length) : (marksC k0 k ++ l.drop k).set k ⟨markT (k0 + 2 * k), markT (k0 + 2 * k + 1)⟩ = marksC k0 (k + 1) ++ l.drop (k + 1) := by
  have hs : marksC k0 (k + 1) = marksC k0 k ++ [⟨markT (k0 + 2 * k), markT (k0 + 2 * k + 1)⟩] := by simp [marksC, List.range_succ]
  rw [hs, List.set_append_right _ _ (by rw [marksC_length]; exact Nat.le_refl _), marksC_length, Nat.sub_self, List.append_assoc]
  congr 1
  rw [List.drop_eq_getElem_cons h]
  rfl
end Go.Proofs.YtibgmijfnbnfkaaDoor
