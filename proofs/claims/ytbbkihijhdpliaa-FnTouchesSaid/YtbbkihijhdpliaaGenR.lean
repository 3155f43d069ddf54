/-
  Walks: a key is laid, a beginning is wiped.
-/
import Derived.Test.YtbbkihijhdpliaaDat3
import Derived.Test.YtbbkihijhdpliaaGenQ
namespace Go.Proofs.Ytbbkihijhdpliaa
open Go.ChangeShapes Go.WideShapes Go.ChangeAt Go.RowKit
set_option maxRecDepth 100000
set_option maxHeartbeats 1000000
end Go.Proofs.Ytbbkihijhdpliaa
