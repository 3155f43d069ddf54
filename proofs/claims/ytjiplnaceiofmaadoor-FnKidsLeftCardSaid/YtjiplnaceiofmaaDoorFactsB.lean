/-
  More of what the walks ask of the program.
-/
import Derived.Test.YtjiplnaceiofmaaDoorFacts
namespace Go.Proofs.YtjiplnaceiofmaaDoor
open Go.ChangeShapes Go.WideShapes Go.ChangeAt Go.RowKit

end Go.Proofs.YtjiplnaceiofmaaDoor
