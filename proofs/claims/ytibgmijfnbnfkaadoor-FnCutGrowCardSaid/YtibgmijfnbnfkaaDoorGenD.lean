/-
  Walks: machines are looked at.
-/
import Derived.Test.YtibgmijfnbnfkaaDoorGenC
namespace Go.Proofs.YtibgmijfnbnfkaaDoor
open Go.ChangeShapes Go.WideShapes Go.ChangeAt Go.RowKit
set_option maxRecDepth 100000
set_option maxHeartbeats 1000000
end Go.Proofs.YtibgmijfnbnfkaaDoor
