/-
  Walks: drawn machines.
-/
import Derived.Test.YtibgmijfnbnfkaaGreatDoorGenV
namespace Go.Proofs.YtibgmijfnbnfkaaGreatDoor
open Go.ChangeShapes Go.WideShapes Go.ChangeAt Go.RowKit
set_option maxRecDepth 100000
set_option maxHeartbeats 1000000
end Go.Proofs.YtibgmijfnbnfkaaGreatDoor
