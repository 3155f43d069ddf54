/-
  The closed facts that the statement's form asks of the program, each by itself.
-/
import Derived.Test.YtipdbeklopjbmaaGreatDoorP05
import Derived.Stop.LaidErr
import Derived.LaidMore
import Derived.LaidHandle
import Derived.MakeChecks
import Derived.OpenShut
import Derived.Lay
import Derived.Test.YtipdbeklopjbmaaGreatDoorTie
import Derived.Test.YtipdbeklopjbmaaGreatDoorCards
set_option linter.unusedVariables false
set_option linter.unusedSimpArgs false
namespace Go.Proofs.YtipdbeklopjbmaaGreatDoor.room
open Go.ChangeShapes Go.WideShapes Go.ChangeAt Go.RowKit Go.Proofs.Tryz
set_option maxRecDepth 100000
theorem band {a b:Bool} (h1:a=true) (h2:b=true):(a && b)=true:=by rw [h1,h2];rfl
set_option maxHeartbeats 40000000 in
theorem Jh7:joinedFacts Tryz.pinned.checked.prog 5 f5 Rows.fnRoomSpec Rows.fnRoomRow=true:=by
 unfold joinedFacts
 repeat' (with_reducible refine band ?_ ?_)
 all_goals (as_aux_lemma=>kernel_rfl)
end Go.Proofs.YtipdbeklopjbmaaGreatDoor.room
