/-
  Walks: the laws' helpers on access sets and machines.
-/
import Derived.Test.YtkeglhkdanenbaaGreatDoorAdapt
import Derived.Test.YtkeglhkdanenbaaGreatDoorGenA
import Derived.Test.YtkeglhkdanenbaaGreatDoorGenB
namespace Go.Proofs.YtkeglhkdanenbaaGreatDoor
open Go.ChangeShapes Go.WideShapes Go.ChangeAt Go.RowKit
set_option maxRecDepth 100000
set_option maxHeartbeats 1000000
end Go.Proofs.YtkeglhkdanenbaaGreatDoor
