/-
  More of what the walks ask of the program.
-/
import Derived.Test.YtibgmijfnbnfkaaGreatDoorFacts
namespace Go.Proofs.YtibgmijfnbnfkaaGreatDoor
open Go.ChangeShapes Go.WideShapes Go.ChangeAt Go.RowKit

end Go.Proofs.YtibgmijfnbnfkaaGreatDoor
