/-
  More of what the walks ask of the program.
-/
import Derived.Test.YtgfilegkabbliaaFacts
namespace Go.Proofs.Ytgfilegkabbliaa
open Go.ChangeShapes Go.WideShapes Go.ChangeAt Go.RowKit

end Go.Proofs.Ytgfilegkabbliaa
