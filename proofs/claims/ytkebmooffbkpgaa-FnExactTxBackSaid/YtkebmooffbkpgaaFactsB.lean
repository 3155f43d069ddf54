/-
  More of what the walks ask of the program.
-/
import Derived.Test.YtkebmooffbkpgaaFacts
namespace Go.Proofs.Ytkebmooffbkpgaa
open Go.ChangeShapes Go.WideShapes Go.ChangeAt Go.RowKit

end Go.Proofs.Ytkebmooffbkpgaa
