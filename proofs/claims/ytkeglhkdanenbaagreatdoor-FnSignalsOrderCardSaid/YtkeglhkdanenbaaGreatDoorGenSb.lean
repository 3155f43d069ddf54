/-
  Walks: processes.
-/
import Derived.Test.YtkeglhkdanenbaaGreatDoorGenSa
import Derived.Test.YtkeglhkdanenbaaGreatDoorDatVa
namespace Go.Proofs.YtkeglhkdanenbaaGreatDoor
open Go.ChangeShapes Go.WideShapes Go.ChangeAt Go.RowKit
set_option maxRecDepth 100000
set_option maxHeartbeats 1000000
end Go.Proofs.YtkeglhkdanenbaaGreatDoor
