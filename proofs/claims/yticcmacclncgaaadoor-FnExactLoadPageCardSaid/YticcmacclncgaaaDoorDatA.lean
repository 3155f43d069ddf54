/-
  Machines are equal.
-/
import Derived.Test.YticcmacclncgaaaDoorDat9
import Derived.Test.YticcmacclncgaaaDoorCellEq
namespace Go.Proofs.YticcmacclncgaaaDoor
open Go.ChangeShapes Go.WideShapes Go.ChangeAt Go.RowKit
set_option maxRecDepth 100000
set_option maxHeartbeats 1000000

theorem mach_ne {a b : MachD} (h : decide (a.store = b.store) = false) : decide (a = b) = false := decide_eq_false fun e => of_decide_eq_false h (by rw [e])
theorem mach_eq {a b : MachD} (h : decide (a.store = b.store) = true) : decide (a = b) = decide (a.touch = b.touch) := by
  have h1 := of_decide_eq_true h
  cases a; cases b
  simp only at h1
  subst h1
  simp
end Go.Proofs.YticcmacclncgaaaDoor
