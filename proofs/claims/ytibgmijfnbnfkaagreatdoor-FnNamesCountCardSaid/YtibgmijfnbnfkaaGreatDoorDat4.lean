/-
  Plain functions on names.
-/
import Derived.Test.YtibgmijfnbnfkaaGreatDoorDat
namespace Go.Proofs.YtibgmijfnbnfkaaGreatDoor
open Go.ChangeShapes Go.WideShapes Go.ChangeAt Go.RowKit
set_option maxRecDepth 100000
set_option maxHeartbeats 1000000

def namesL (ks : List ByteArray) : List ByteArray := ks.map fun k => k.extract 2 k.size
theorem namesL_length (ks : List ByteArray) : (namesL ks).length = ks.length := List.length_map ..
theorem namesL_step {ks : List ByteArray} {k : Nat} {x : ByteArray} (hx : nth ks k = some x) : namesL (ks.take (k + 1)) = namesL (ks.take k) ++ [x.extract 2 x.size] := by
  rw [nth_take_snoc hx]; simp [namesL]
theorem keysUnder_size {l : List CellD} {k : Nat} {x : ByteArray} (hx : nth (keysUnder l ⟨#[110, 47]⟩) k = some x) : 2 ≤ x.size := by
  rw [nth_eq] at hx
  have hm := List.mem_of_getElem? hx
  simp only [keysUnder, List.mem_map, List.mem_filter] at hm
  obtain ⟨c, ⟨_, h⟩, rfl⟩ := hm
  unfold begins at h
  exact (of_decide_eq_true h).1
end Go.Proofs.YtibgmijfnbnfkaaGreatDoor
