/-
  Walks: calls, answers and marks in the laws' hands.
-/
import Derived.Test.YtgfilegkabbliaaDatTx
namespace Go.Proofs.Ytgfilegkabbliaa
open Go.ChangeShapes Go.WideShapes Go.ChangeAt Go.RowKit
set_option maxRecDepth 100000
set_option maxHeartbeats 1000000
end Go.Proofs.Ytgfilegkabbliaa
