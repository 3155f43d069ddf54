/-
  Walks: the laws' helpers on access sets and machines.
-/
import Derived.Test.YtjiplnaceiofmaaDoorAdapt
import Derived.Test.YtjiplnaceiofmaaDoorGenA
import Derived.Test.YtjiplnaceiofmaaDoorGenB
namespace Go.Proofs.YtjiplnaceiofmaaDoor
open Go.ChangeShapes Go.WideShapes Go.ChangeAt Go.RowKit
set_option maxRecDepth 100000
set_option maxHeartbeats 1000000
end Go.Proofs.YtjiplnaceiofmaaDoor
