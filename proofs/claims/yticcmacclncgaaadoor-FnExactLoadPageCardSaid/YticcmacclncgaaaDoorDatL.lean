/-
  What a law knows of its machine.
-/
import Derived.Test.YticcmacclncgaaaDoorDatK
namespace Go.Proofs.YticcmacclncgaaaDoor
open Go.ChangeShapes Go.WideShapes Go.ChangeAt Go.RowKit
set_option maxRecDepth 100000
set_option maxHeartbeats 1000000

theorem sumOf_in {α : Type} {f : α → Nat} {l : List α} {x : α} (hx : x ∈ l) : f x ≤ sumOf f l := by
  unfold sumOf
  induction l with
  | nil => exact absurd hx List.not_mem_nil
  | cons y l ih =>
    rw [List.map_cons, List.sum_cons]
    rcases List.mem_cons.1 hx with rfl | hx
    · exact Nat.le_add_right _ _
    · exact Nat.le_trans (ih hx) (Nat.le_add_left _ _)
theorem bdC_of {m : MachD} {n : Int} (hn : n ≤ 1048576) (h : ¬ subOr n (szMachD m) < 0) : bdC 1048576 m := by
  refine ⟨szM_of hn h, fun c hc => ?_⟩
  have h1 := sz_of h
  have h2 : c.key.size + c.val.size ≤ sumOf szCellD m.store := sumOf_in (f := szCellD) hc
  unfold szMachD szCells at h1
  omega
end Go.Proofs.YticcmacclncgaaaDoor
