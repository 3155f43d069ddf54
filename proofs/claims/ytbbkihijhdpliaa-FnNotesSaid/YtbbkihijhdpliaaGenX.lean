/-
  Walks: spans.
-/
import Derived.Test.YtbbkihijhdpliaaDat6
import Derived.Test.YtbbkihijhdpliaaGenF
namespace Go.Proofs.Ytbbkihijhdpliaa
open Go.ChangeShapes Go.WideShapes Go.ChangeAt Go.RowKit
set_option maxRecDepth 100000
set_option maxHeartbeats 1000000
end Go.Proofs.Ytbbkihijhdpliaa
