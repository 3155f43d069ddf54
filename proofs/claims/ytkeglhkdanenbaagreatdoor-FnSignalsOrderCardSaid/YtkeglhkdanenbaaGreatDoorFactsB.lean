/-
  More of what the walks ask of the program.
-/
import Derived.Test.YtkeglhkdanenbaaGreatDoorFacts
namespace Go.Proofs.YtkeglhkdanenbaaGreatDoor
open Go.ChangeShapes Go.WideShapes Go.ChangeAt Go.RowKit

end Go.Proofs.YtkeglhkdanenbaaGreatDoor
