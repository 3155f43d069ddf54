/-
  More of what the walks ask of the program.
-/
import Derived.Test.YticcmacclncgaaaDoorFacts
namespace Go.Proofs.YticcmacclncgaaaDoor
open Go.ChangeShapes Go.WideShapes Go.ChangeAt Go.RowKit

end Go.Proofs.YticcmacclncgaaaDoor
