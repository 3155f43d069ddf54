/-
  Walks: the laws' helpers on access sets and machines.
-/
import Derived.Test.YtibgmijfnbnfkaaDoorAdapt
import Derived.Test.YtibgmijfnbnfkaaDoorGenA
import Derived.Test.YtibgmijfnbnfkaaDoorGenB
namespace Go.Proofs.YtibgmijfnbnfkaaDoor
open Go.ChangeShapes Go.WideShapes Go.ChangeAt Go.RowKit
set_option maxRecDepth 100000
set_option maxHeartbeats 1000000
end Go.Proofs.YtibgmijfnbnfkaaDoor
