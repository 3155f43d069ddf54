/-
  Walks: the laws' helpers on access sets and machines.
-/
import Derived.Test.YtbbkihijhdpliaaAdapt
import Derived.Test.YtbbkihijhdpliaaGenA
import Derived.Test.YtbbkihijhdpliaaGenB
namespace Go.Proofs.Ytbbkihijhdpliaa
open Go.ChangeShapes Go.WideShapes Go.ChangeAt Go.RowKit
set_option maxRecDepth 100000
set_option maxHeartbeats 1000000
end Go.Proofs.Ytbbkihijhdpliaa
