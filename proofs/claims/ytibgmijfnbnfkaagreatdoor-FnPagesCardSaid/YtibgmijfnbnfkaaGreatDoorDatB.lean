/-
  What is changed is among the writes; what is wiped is gone.
-/
import Derived.Test.YtibgmijfnbnfkaaGreatDoorDat7
import Derived.Test.YtibgmijfnbnfkaaGreatDoorCellEq
namespace Go.Proofs.YtibgmijfnbnfkaaGreatDoor
open Go.ChangeShapes Go.WideShapes Go.ChangeAt Go.RowKit
set_option maxRecDepth 100000
set_option maxHeartbeats 1000000

theorem touch_ne {a b : TouchD} (h : decide (a.reads = b.reads) = false) : decide (a = b) = false := decide_eq_false fun e => of_decide_eq_false h (by rw [e])
theorem touch_eq {a b : TouchD} (h : decide (a.reads = b.reads) = true) : decide (a = b) = decide (a.writes = b.writes) := by
  have h1 := of_decide_eq_true h
  cases a; cases b
  simp only at h1
  subst h1
  simp
theorem mach_ne {a b : MachD} (h : decide (a.store = b.store) = false) : decide (a = b) = false := decide_eq_false fun e => of_decide_eq_false h (by rw [e])
theorem mach_eq {a b : MachD} (h : decide (a.store = b.store) = true) : decide (a = b) = decide (a.touch = b.touch) := by
  have h1 := of_decide_eq_true h
  cases a; cases b
  simp only at h1
  subst h1
  simp

theorem getKey_eq (l : List CellD) (key : ByteArray) : getKey l key = ((l.find? fun c : CellD => decide (c.key = key)).map (·.val)).getD ⟨#[]⟩ := by
  unfold getKey
  cases l.find? (fun c : CellD => decide (c.key = key)) <;> rfl
theorem keysUnder_mem {l : List CellD} {p k : ByteArray} : k ∈ keysUnder l p ↔ (∃ c ∈ l, c.key = k) ∧ begins k p = true := by
  simp only [keysUnder, List.mem_map, List.mem_filter]
  constructor
  · rintro ⟨c, ⟨h1, h2⟩, rfl⟩; exact ⟨⟨c, h1, rfl⟩, h2⟩
  · rintro ⟨⟨c, h1, rfl⟩, h2⟩; exact ⟨c, ⟨h1, h2⟩, rfl⟩
theorem delKey_mem {s : List CellD} {key : ByteArray} {c : CellD} : c ∈ delKey s key ↔ c ∈ s ∧ c.key ≠ key := by
  unfold delKey
  rw [List.mem_filter]
  simp
end Go.Proofs.YtibgmijfnbnfkaaGreatDoor
