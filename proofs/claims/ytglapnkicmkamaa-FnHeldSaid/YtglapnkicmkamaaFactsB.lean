/-
  More of what the walks ask of the program.
-/
import Derived.Test.YtglapnkicmkamaaFacts
namespace Go.Proofs.Ytglapnkicmkamaa
open Go.ChangeShapes Go.WideShapes Go.ChangeAt Go.RowKit

end Go.Proofs.Ytglapnkicmkamaa
