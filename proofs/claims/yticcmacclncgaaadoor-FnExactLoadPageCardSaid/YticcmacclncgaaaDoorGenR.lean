/-
  Walks: a key is laid, a beginning is wiped.
-/
import Derived.Test.YticcmacclncgaaaDoorDat3
import Derived.Test.YticcmacclncgaaaDoorGenQ
namespace Go.Proofs.YticcmacclncgaaaDoor
open Go.ChangeShapes Go.WideShapes Go.ChangeAt Go.RowKit
set_option maxRecDepth 100000
set_option maxHeartbeats 1000000
end Go.Proofs.YticcmacclncgaaaDoor
