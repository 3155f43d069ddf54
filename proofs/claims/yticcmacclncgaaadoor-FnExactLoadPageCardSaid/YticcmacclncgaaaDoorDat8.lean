/-
  Access sets are equal.
-/
import Derived.Test.YticcmacclncgaaaDoorDat7
namespace Go.Proofs.YticcmacclncgaaaDoor
open Go.ChangeShapes Go.WideShapes Go.ChangeAt Go.RowKit
set_option maxRecDepth 100000
set_option maxHeartbeats 1000000

theorem touch_ne {a b : TouchD} (h : decide (a.reads = b.reads) = false) : decide (a = b) = false := decide_eq_false fun e => of_decide_eq_false h (by rw [e])
theorem touch_eq {a b : TouchD} (h : decide (a.reads = b.reads) = true) : decide (a = b) = decide (a.writes = b.writes) := by
  have h1 := of_decide_eq_true h
  cases a; cases b
  simp only at h1
  subst h1
  simp
theorem putL_mem {l : List ByteArray} {x y : ByteArray} : y ∈ putL l x ↔ y ∈ l ∨ y = x := by
  unfold putL
  split
  · rename_i h
    have hx : x ∈ l := List.mem_of_getElem? h
    exact ⟨.inl, fun h => h.elim id (fun e => e ▸ hx)⟩
  · unfold insAt
    rw [List.mem_append, List.mem_cons]
    have : y ∈ l ↔ y ∈ l.take (l.findIdx (geS x)) ∨ y ∈ l.drop (l.findIdx (geS x)) := by rw [← List.mem_append, List.take_append_drop]
    rw [this]
    constructor
    · rintro (h | h | h)
      · exact .inl (.inl h)
      · exact .inr h
      · exact .inl (.inr h)
    · rintro ((h | h) | h)
      · exact .inl h
      · exact .inr (.inr h)
      · exact .inr (.inl h)
end Go.Proofs.YticcmacclncgaaaDoor
