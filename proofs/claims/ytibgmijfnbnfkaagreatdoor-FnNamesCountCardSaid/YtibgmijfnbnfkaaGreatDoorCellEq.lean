/-
  Two cells are compared.
-/
import Derived.Laws.StructEq
import Derived.Test.YtibgmijfnbnfkaaGreatDoorDat7
namespace Go.Proofs.YtibgmijfnbnfkaaGreatDoor
open Go.ChangeShapes Go.WideShapes Go.ChangeAt Go.RowKit
end Go.Proofs.YtibgmijfnbnfkaaGreatDoor
