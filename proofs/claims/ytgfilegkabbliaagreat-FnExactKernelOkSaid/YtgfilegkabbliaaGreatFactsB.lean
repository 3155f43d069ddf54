/-
  More of what the walks ask of the program.
-/
import Derived.Test.YtgfilegkabbliaaGreatFacts
namespace Go.Proofs.YtgfilegkabbliaaGreat
open Go.ChangeShapes Go.WideShapes Go.ChangeAt Go.RowKit

end Go.Proofs.YtgfilegkabbliaaGreat
