/-
  What is changed is among the writes; what is wiped is gone.
-/
import Derived.Test.YtibgmijfnbnfkaaGreatDoorDat7
import Derived.Test.YtibgmijfnbnfkaaGreatDoorCellEq
namespace Go.Proofs.YtibgmijfnbnfkaaGreatDoor
open Go.ChangeShapes Go.WideShapes Go.ChangeAt Go.RowKit
set_option maxRecDepth 100000
set_option maxHeartbeats 1000000

theorem getKey_eq (l : List CellD) (key : ByteArray) : getKey l key = ((l.find? fun c : CellD => decide (c.key = key)).map (·.val)).getD ⟨#[]⟩ := by
  unfold getKey
  cases l.find? (fun c : CellD => decide (c.key = key)) <;> rfl
theorem getKey_del {l : List CellD} {key k : ByteArray} (h : k ≠ key) : getKey (delKey l key) k = getKey l k := by
  rw [getKey_eq, getKey_eq]
  unfold delKey
  rw [List.find?_filter]
  congr 3
  funext c
  by_cases e : c.key = k
  · simp [e, h]
  · simp [e]
theorem getKey_ins {l : List CellD} {key val k : ByteArray} (h : k ≠ key) : getKey (insK l key val) k = getKey l k := by
  rw [getKey_eq, getKey_eq]
  unfold insK insAt
  have e : ∀ i, (l.take i ++ ⟨key, val⟩ :: l.drop i).find? (fun c : CellD => decide (c.key = k)) = l.find? (fun c : CellD => decide (c.key = k)) := fun i => by
    rw [List.find?_append, List.find?_cons_of_neg (by simpa using fun e => h e.symm), ← List.find?_append, List.take_append_drop]
  rw [e]
theorem getKey_put {l : List CellD} {key val k : ByteArray} (h : k ≠ key) : getKey (putKey l key val) k = getKey l k := by
  unfold putKey
  split
  · split
    · exact getKey_del h
    · rw [getKey_ins h, getKey_del h]
  · rfl
theorem keysUnder_mem {l : List CellD} {p k : ByteArray} : k ∈ keysUnder l p ↔ (∃ c ∈ l, c.key = k) ∧ begins k p = true := by
  simp only [keysUnder, List.mem_map, List.mem_filter]
  constructor
  · rintro ⟨c, ⟨h1, h2⟩, rfl⟩; exact ⟨⟨c, h1, rfl⟩, h2⟩
  · rintro ⟨⟨c, h1, rfl⟩, h2⟩; exact ⟨c, ⟨h1, h2⟩, rfl⟩
theorem delKey_mem {s : List CellD} {key : ByteArray} {c : CellD} : c ∈ delKey s key ↔ c ∈ s ∧ c.key ≠ key := by
  unfold delKey
  rw [List.mem_filter]
  simp
end Go.Proofs.YtibgmijfnbnfkaaGreatDoor
