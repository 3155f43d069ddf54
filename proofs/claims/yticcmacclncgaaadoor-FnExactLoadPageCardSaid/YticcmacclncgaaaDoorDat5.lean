/-
  The cursor over the bytes of a draw.
-/
import Derived.Test.YticcmacclncgaaaDoorDat3
import Derived.Test.YticcmacclncgaaaDoorEng8
namespace Go.Proofs.YticcmacclncgaaaDoor
open Go.ChangeShapes Go.WideShapes Go.ChangeAt Go.RowKit
set_option maxRecDepth 100000
set_option maxHeartbeats 1000000

theorem nth_in {α : Type} {l : List α} {k : Nat} {x : α} (h : nth l k = some x) : x ∈ l := List.mem_of_getElem? (by rw [← nth_eq]; exact h)
structure CurD where
  code : List Nat
  pos : Nat
  h : Int
end Go.Proofs.YticcmacclncgaaaDoor
