/-
  Walks: the laws' helpers on access sets and machines.
-/
import Derived.Test.YtibgmijfnbnfkaaGreatDoorAdapt
import Derived.Test.YtibgmijfnbnfkaaGreatDoorGenA
import Derived.Test.YtibgmijfnbnfkaaGreatDoorGenB
namespace Go.Proofs.YtibgmijfnbnfkaaGreatDoor
open Go.ChangeShapes Go.WideShapes Go.ChangeAt Go.RowKit
set_option maxRecDepth 100000
set_option maxHeartbeats 1000000
end Go.Proofs.YtibgmijfnbnfkaaGreatDoor
