/-
  No cell of these rows narrows 'for every input' (looked for: loops, veiled, ifaces, maps, wideKeys, modest, calm, conditions, laid).
  DERIVED. THE GIVEN ROWS OF THIS SEAT. 9 by the template 'for every input the law returns true; each argument reads behind the call as it read before'; 0 by the template 'total and deterministic' (their statements: YtbbkihijhdpliaaTotals.lean).
  GIVEN WITH THE SEED: the statements are not yours to turn. If you find one false, say at which input.
  Laid BY PROGRAM, IN A SANDBOX (cutbox-rows.mjs): the forced cells as the released guide's own fill.sh prints them over the translation 2c8e2f30ef88ed3f… (all of the seat's roots in one cut). By AI agents, Wed Nov 11 2026. No macro, syntax, notation, axiom, sorry.
-/
import Derived.Test.YtbbkihijhdpliaaChecked
import GoSem.Claim
import GoSem.ClaimJoined
import GoSem.ClaimMapViews
import Derived.JoinedTies
import Derived.KernelRfl
namespace Go.Proofs.Ytbbkihijhdpliaa
/- THE CELL 'sum', in the pinned program and in every row, IS THE sha256 OF THE DUMP (.gsa) THAT YtbbkihijhdpliaaProg.lean LOADS. Nothing in Lean hashes anything: it is a label: what it is worth is what the hold of that sum in a sandbox is worth. -/
noncomputable def Try.pinned : Pinned := { name := "ytbbkihijhdpliaa", sum := "2c8e2f30ef88ed3fc6d590455e91dd0a4e4abebc3a65dd1a672fe788b18bb52a", checked := Try.checked }
namespace Rows
def none {H : Type} : Left H := { results := [], args := [] }

/-- 'laws.FnExactJoinTouch': WHATEVER THE INPUT: true; the input reads as it did. -/
def fnExactJoinTouchSpec : ChangeSpec := { name := "fnExactJoinTouch", fn := fun _ => fun
  | [d1, d2] => { results := [.lit (.bool true)], args := [d1, d2] }
  | _ => none }
def fnExactJoinTouchRow : OpenClaim := { program := "ytbbkihijhdpliaa", sum := "2c8e2f30ef88ed3fc6d590455e91dd0a4e4abebc3a65dd1a672fe788b18bb52a", func := "loop.example/g00974/laws.FnExactJoinTouch", spec := "fnExactJoinTouch", inPlace := ["slices.overlaps[string]"], unfollowed := true, recurses := true, apart := false }
def FnExactJoinTouchSaid : Prop := fnExactJoinTouchRow.holds Try.pinned (OpenSpec.ofChange fnExactJoinTouchSpec)

/-- ITS FALSE NEIGHBOUR: 'it returns false'. Refute it at one input. -/
def fnExactJoinTouchWrong : ChangeSpec := { name := "fnExactJoinTouch", fn := fun _ => fun
  | [d1, d2] => { results := [.lit (.bool false)], args := [d1, d2] }
  | _ => none }
def FnExactJoinTouchWrongFalsely : Prop := fnExactJoinTouchRow.holds Try.pinned (OpenSpec.ofChange fnExactJoinTouchWrong)

/-- 'laws.FnTouches': WHATEVER THE INPUT: true; the input reads as it did. -/
def fnTouchesSpec : ChangeSpec := { name := "fnTouches", fn := fun _ => fun
  | [d] => { results := [.lit (.bool true)], args := [d] }
  | _ => none }
def fnTouchesRow : OpenClaim := { program := "ytbbkihijhdpliaa", sum := "2c8e2f30ef88ed3fc6d590455e91dd0a4e4abebc3a65dd1a672fe788b18bb52a", func := "loop.example/g00974/laws.FnTouches", spec := "fnTouches", inPlace := ["slices.overlaps[string]"], unfollowed := true, recurses := true, apart := false }
def FnTouchesSaid : Prop := fnTouchesRow.holds Try.pinned (OpenSpec.ofChange fnTouchesSpec)

/-- ITS FALSE NEIGHBOUR: 'it returns false'. Refute it at one input. -/
def fnTouchesWrong : ChangeSpec := { name := "fnTouches", fn := fun _ => fun
  | [d] => { results := [.lit (.bool false)], args := [d] }
  | _ => none }
def FnTouchesWrongFalsely : Prop := fnTouchesRow.holds Try.pinned (OpenSpec.ofChange fnTouchesWrong)

/-- 'laws.FnExactLook': WHATEVER THE INPUT: true; the input reads as it did. -/
def fnExactLookSpec : ChangeSpec := { name := "fnExactLook", fn := fun _ => fun
  | [d1, d2] => { results := [.lit (.bool true)], args := [d1, d2] }
  | _ => none }
def fnExactLookRow : OpenClaim := { program := "ytbbkihijhdpliaa", sum := "2c8e2f30ef88ed3fc6d590455e91dd0a4e4abebc3a65dd1a672fe788b18bb52a", func := "loop.example/g00974/laws.FnExactLook", spec := "fnExactLook", inPlace := ["slices.overlaps[string]"], unfollowed := true, recurses := true, apart := false }
def FnExactLookSaid : Prop := fnExactLookRow.holds Try.pinned (OpenSpec.ofChange fnExactLookSpec)

/-- ITS FALSE NEIGHBOUR: 'it returns false'. Refute it at one input. -/
def fnExactLookWrong : ChangeSpec := { name := "fnExactLook", fn := fun _ => fun
  | [d1, d2] => { results := [.lit (.bool false)], args := [d1, d2] }
  | _ => none }
def FnExactLookWrongFalsely : Prop := fnExactLookRow.holds Try.pinned (OpenSpec.ofChange fnExactLookWrong)

/-- 'laws.FnExactUnder': WHATEVER THE INPUT: true; the input reads as it did. -/
def fnExactUnderSpec : ChangeSpec := { name := "fnExactUnder", fn := fun _ => fun
  | [d1, d2] => { results := [.lit (.bool true)], args := [d1, d2] }
  | _ => none }
def fnExactUnderRow : OpenClaim := { program := "ytbbkihijhdpliaa", sum := "2c8e2f30ef88ed3fc6d590455e91dd0a4e4abebc3a65dd1a672fe788b18bb52a", func := "loop.example/g00974/laws.FnExactUnder", spec := "fnExactUnder", inPlace := ["slices.overlaps[string]"], unfollowed := true, recurses := true, apart := false }
def FnExactUnderSaid : Prop := fnExactUnderRow.holds Try.pinned (OpenSpec.ofChange fnExactUnderSpec)

/-- ITS FALSE NEIGHBOUR: 'it returns false'. Refute it at one input. -/
def fnExactUnderWrong : ChangeSpec := { name := "fnExactUnder", fn := fun _ => fun
  | [d1, d2] => { results := [.lit (.bool false)], args := [d1, d2] }
  | _ => none }
def FnExactUnderWrongFalsely : Prop := fnExactUnderRow.holds Try.pinned (OpenSpec.ofChange fnExactUnderWrong)

/-- 'laws.FnChangesNoted': WHATEVER THE INPUT: true; the input reads as it did. -/
def fnChangesNotedSpec : ChangeSpec := { name := "fnChangesNoted", fn := fun _ => fun
  | [d] => { results := [.lit (.bool true)], args := [d] }
  | _ => none }
def fnChangesNotedRow : OpenClaim := { program := "ytbbkihijhdpliaa", sum := "2c8e2f30ef88ed3fc6d590455e91dd0a4e4abebc3a65dd1a672fe788b18bb52a", func := "loop.example/g00974/laws.FnChangesNoted", spec := "fnChangesNoted", inPlace := ["slices.overlaps[string]", "slices.overlaps[loop.example/g00974/impl.Cell]"], unfollowed := true, recurses := true, apart := false }
def FnChangesNotedSaid : Prop := fnChangesNotedRow.holds Try.pinned (OpenSpec.ofChange fnChangesNotedSpec)

/-- ITS FALSE NEIGHBOUR: 'it returns false'. Refute it at one input. -/
def fnChangesNotedWrong : ChangeSpec := { name := "fnChangesNoted", fn := fun _ => fun
  | [d] => { results := [.lit (.bool false)], args := [d] }
  | _ => none }
def FnChangesNotedWrongFalsely : Prop := fnChangesNotedRow.holds Try.pinned (OpenSpec.ofChange fnChangesNotedWrong)

/-- 'laws.FnExactNamesIn': WHATEVER THE INPUT: true; the input reads as it did. -/
def fnExactNamesInSpec : ChangeSpec := { name := "fnExactNamesIn", fn := fun _ => fun
  | [d] => { results := [.lit (.bool true)], args := [d] }
  | _ => none }
def fnExactNamesInRow : OpenClaim := { program := "ytbbkihijhdpliaa", sum := "2c8e2f30ef88ed3fc6d590455e91dd0a4e4abebc3a65dd1a672fe788b18bb52a", func := "loop.example/g00974/laws.FnExactNamesIn", spec := "fnExactNamesIn", inPlace := ["slices.overlaps[string]"], unfollowed := true, recurses := true, apart := false }
def FnExactNamesInSaid : Prop := fnExactNamesInRow.holds Try.pinned (OpenSpec.ofChange fnExactNamesInSpec)

/-- ITS FALSE NEIGHBOUR: 'it returns false'. Refute it at one input. -/
def fnExactNamesInWrong : ChangeSpec := { name := "fnExactNamesIn", fn := fun _ => fun
  | [d] => { results := [.lit (.bool false)], args := [d] }
  | _ => none }
def FnExactNamesInWrongFalsely : Prop := fnExactNamesInRow.holds Try.pinned (OpenSpec.ofChange fnExactNamesInWrong)

/-- 'laws.FnExactLay': WHATEVER THE INPUT: true; the input reads as it did. -/
def fnExactLaySpec : ChangeSpec := { name := "fnExactLay", fn := fun _ => fun
  | [d1, d2, d3] => { results := [.lit (.bool true)], args := [d1, d2, d3] }
  | _ => none }
def fnExactLayRow : OpenClaim := { program := "ytbbkihijhdpliaa", sum := "2c8e2f30ef88ed3fc6d590455e91dd0a4e4abebc3a65dd1a672fe788b18bb52a", func := "loop.example/g00974/laws.FnExactLay", spec := "fnExactLay", inPlace := ["slices.overlaps[string]", "slices.overlaps[loop.example/g00974/impl.Cell]"], unfollowed := true, recurses := true, apart := false }
def FnExactLaySaid : Prop := fnExactLayRow.holds Try.pinned (OpenSpec.ofChange fnExactLaySpec)

/-- ITS FALSE NEIGHBOUR: 'it returns false'. Refute it at one input. -/
def fnExactLayWrong : ChangeSpec := { name := "fnExactLay", fn := fun _ => fun
  | [d1, d2, d3] => { results := [.lit (.bool false)], args := [d1, d2, d3] }
  | _ => none }
def FnExactLayWrongFalsely : Prop := fnExactLayRow.holds Try.pinned (OpenSpec.ofChange fnExactLayWrong)

/-- 'laws.FnExactWipe': WHATEVER THE INPUT: true; the input reads as it did. -/
def fnExactWipeSpec : ChangeSpec := { name := "fnExactWipe", fn := fun _ => fun
  | [d1, d2] => { results := [.lit (.bool true)], args := [d1, d2] }
  | _ => none }
def fnExactWipeRow : OpenClaim := { program := "ytbbkihijhdpliaa", sum := "2c8e2f30ef88ed3fc6d590455e91dd0a4e4abebc3a65dd1a672fe788b18bb52a", func := "loop.example/g00974/laws.FnExactWipe", spec := "fnExactWipe", inPlace := ["slices.overlaps[string]", "slices.overlaps[loop.example/g00974/impl.Cell]"], unfollowed := true, recurses := true, apart := false }
def FnExactWipeSaid : Prop := fnExactWipeRow.holds Try.pinned (OpenSpec.ofChange fnExactWipeSpec)

/-- ITS FALSE NEIGHBOUR: 'it returns false'. Refute it at one input. -/
def fnExactWipeWrong : ChangeSpec := { name := "fnExactWipe", fn := fun _ => fun
  | [d1, d2] => { results := [.lit (.bool false)], args := [d1, d2] }
  | _ => none }
def FnExactWipeWrongFalsely : Prop := fnExactWipeRow.holds Try.pinned (OpenSpec.ofChange fnExactWipeWrong)

/-- 'laws.FnNotes': WHATEVER THE INPUT: true; the input reads as it did. -/
def fnNotesSpec : ChangeSpec := { name := "fnNotes", fn := fun _ => fun
  | [d] => { results := [.lit (.bool true)], args := [d] }
  | _ => none }
def fnNotesRow : OpenClaim := { program := "ytbbkihijhdpliaa", sum := "2c8e2f30ef88ed3fc6d590455e91dd0a4e4abebc3a65dd1a672fe788b18bb52a", func := "loop.example/g00974/laws.FnNotes", spec := "fnNotes", inPlace := ["slices.overlaps[string]", "slices.overlaps[loop.example/g00974/impl.Cell]"], unfollowed := true, recurses := true, apart := false }
def FnNotesSaid : Prop := fnNotesRow.holds Try.pinned (OpenSpec.ofChange fnNotesSpec)

/-- ITS FALSE NEIGHBOUR: 'it returns false'. Refute it at one input. -/
def fnNotesWrong : ChangeSpec := { name := "fnNotes", fn := fun _ => fun
  | [d] => { results := [.lit (.bool false)], args := [d] }
  | _ => none }
def FnNotesWrongFalsely : Prop := fnNotesRow.holds Try.pinned (OpenSpec.ofChange fnNotesWrong)

/- THE SECOND FORM. 'bulk': how many values and letters a reading holds, each counted each time it is reached (what is shared counts as often as it is met; a slice's spare places count too). A statement '..UptoSaid' is the law's where the arguments, and the package variables that the reading takes, are together of bulk at most 1048576: NARROWER than '..Said'. Prove '..Said' where nothing that the law and all that it calls make is longer than what came in: it says more and counts as full. Else prove '..UptoSaid'. A law counts once. -/
mutual
def uptoBulk {H : Type} : DataW H → Nat
  | .lit (.string bytes) => bytes.length + 1
  | .lit _ => 1
  | .nil => 1
  | .ptr d => uptoBulk d + 1
  | .slice elems spare => uptoBulkAll elems + uptoBulkAll spare + 1
  | .agg parts => uptoBulkAll parts + 1
  | .iface _ d => uptoBulk d + 1
  | .map entries => uptoBulkEntries entries + 1
  | .held _ => 1
def uptoBulkAll {H : Type} : List (DataW H) → Nat
  | [] => 0
  | d :: r => uptoBulk d + uptoBulkAll r
def uptoBulkEntries {H : Type} : List (Lit × DataW H) → Nat
  | [] => 0
  | x :: r => uptoBulkEntry x + uptoBulkEntries r
def uptoBulkEntry {H : Type} : Lit × DataW H → Nat
  | (.string bytes, d) => bytes.length + uptoBulk d + 1
  | (_, d) => uptoBulk d + 1
 end
def uptoSmall : (H : Type) → List (DataW H) → Bool := fun _ ds => decide (uptoBulkAll ds ≤ 1048576)
def OpenSpec.upto (s : _root_.Go.ChangeSpec) : _root_.Go.OpenSpec := { _root_.Go.OpenSpec.ofChange s with cond := some uptoSmall }

/-- 'laws.FnExactJoinTouch', WHERE WHAT IT READS IS OF BULK AT MOST 1048576: true; the input reads as it did. -/
def fnExactJoinTouchUptoRow : OpenClaim := { program := "ytbbkihijhdpliaa", sum := "2c8e2f30ef88ed3fc6d590455e91dd0a4e4abebc3a65dd1a672fe788b18bb52a", func := "loop.example/g00974/laws.FnExactJoinTouch", spec := "fnExactJoinTouch", inPlace := ["slices.overlaps[string]"], unfollowed := true, recurses := true, apart := false, narrowed := true }
def FnExactJoinTouchUptoSaid : Prop := fnExactJoinTouchUptoRow.holds Try.pinned (OpenSpec.upto fnExactJoinTouchSpec)

/-- 'laws.FnTouches', WHERE WHAT IT READS IS OF BULK AT MOST 1048576: true; the input reads as it did. -/
def fnTouchesUptoRow : OpenClaim := { program := "ytbbkihijhdpliaa", sum := "2c8e2f30ef88ed3fc6d590455e91dd0a4e4abebc3a65dd1a672fe788b18bb52a", func := "loop.example/g00974/laws.FnTouches", spec := "fnTouches", inPlace := ["slices.overlaps[string]"], unfollowed := true, recurses := true, apart := false, narrowed := true }
def FnTouchesUptoSaid : Prop := fnTouchesUptoRow.holds Try.pinned (OpenSpec.upto fnTouchesSpec)

/-- 'laws.FnExactLook', WHERE WHAT IT READS IS OF BULK AT MOST 1048576: true; the input reads as it did. -/
def fnExactLookUptoRow : OpenClaim := { program := "ytbbkihijhdpliaa", sum := "2c8e2f30ef88ed3fc6d590455e91dd0a4e4abebc3a65dd1a672fe788b18bb52a", func := "loop.example/g00974/laws.FnExactLook", spec := "fnExactLook", inPlace := ["slices.overlaps[string]"], unfollowed := true, recurses := true, apart := false, narrowed := true }
def FnExactLookUptoSaid : Prop := fnExactLookUptoRow.holds Try.pinned (OpenSpec.upto fnExactLookSpec)

/-- 'laws.FnExactUnder', WHERE WHAT IT READS IS OF BULK AT MOST 1048576: true; the input reads as it did. -/
def fnExactUnderUptoRow : OpenClaim := { program := "ytbbkihijhdpliaa", sum := "2c8e2f30ef88ed3fc6d590455e91dd0a4e4abebc3a65dd1a672fe788b18bb52a", func := "loop.example/g00974/laws.FnExactUnder", spec := "fnExactUnder", inPlace := ["slices.overlaps[string]"], unfollowed := true, recurses := true, apart := false, narrowed := true }
def FnExactUnderUptoSaid : Prop := fnExactUnderUptoRow.holds Try.pinned (OpenSpec.upto fnExactUnderSpec)

/-- 'laws.FnChangesNoted', WHERE WHAT IT READS IS OF BULK AT MOST 1048576: true; the input reads as it did. -/
def fnChangesNotedUptoRow : OpenClaim := { program := "ytbbkihijhdpliaa", sum := "2c8e2f30ef88ed3fc6d590455e91dd0a4e4abebc3a65dd1a672fe788b18bb52a", func := "loop.example/g00974/laws.FnChangesNoted", spec := "fnChangesNoted", inPlace := ["slices.overlaps[string]", "slices.overlaps[loop.example/g00974/impl.Cell]"], unfollowed := true, recurses := true, apart := false, narrowed := true }
def FnChangesNotedUptoSaid : Prop := fnChangesNotedUptoRow.holds Try.pinned (OpenSpec.upto fnChangesNotedSpec)

/-- 'laws.FnExactNamesIn', WHERE WHAT IT READS IS OF BULK AT MOST 1048576: true; the input reads as it did. -/
def fnExactNamesInUptoRow : OpenClaim := { program := "ytbbkihijhdpliaa", sum := "2c8e2f30ef88ed3fc6d590455e91dd0a4e4abebc3a65dd1a672fe788b18bb52a", func := "loop.example/g00974/laws.FnExactNamesIn", spec := "fnExactNamesIn", inPlace := ["slices.overlaps[string]"], unfollowed := true, recurses := true, apart := false, narrowed := true }
def FnExactNamesInUptoSaid : Prop := fnExactNamesInUptoRow.holds Try.pinned (OpenSpec.upto fnExactNamesInSpec)

/-- 'laws.FnExactLay', WHERE WHAT IT READS IS OF BULK AT MOST 1048576: true; the input reads as it did. -/
def fnExactLayUptoRow : OpenClaim := { program := "ytbbkihijhdpliaa", sum := "2c8e2f30ef88ed3fc6d590455e91dd0a4e4abebc3a65dd1a672fe788b18bb52a", func := "loop.example/g00974/laws.FnExactLay", spec := "fnExactLay", inPlace := ["slices.overlaps[string]", "slices.overlaps[loop.example/g00974/impl.Cell]"], unfollowed := true, recurses := true, apart := false, narrowed := true }
def FnExactLayUptoSaid : Prop := fnExactLayUptoRow.holds Try.pinned (OpenSpec.upto fnExactLaySpec)

/-- 'laws.FnExactWipe', WHERE WHAT IT READS IS OF BULK AT MOST 1048576: true; the input reads as it did. -/
def fnExactWipeUptoRow : OpenClaim := { program := "ytbbkihijhdpliaa", sum := "2c8e2f30ef88ed3fc6d590455e91dd0a4e4abebc3a65dd1a672fe788b18bb52a", func := "loop.example/g00974/laws.FnExactWipe", spec := "fnExactWipe", inPlace := ["slices.overlaps[string]", "slices.overlaps[loop.example/g00974/impl.Cell]"], unfollowed := true, recurses := true, apart := false, narrowed := true }
def FnExactWipeUptoSaid : Prop := fnExactWipeUptoRow.holds Try.pinned (OpenSpec.upto fnExactWipeSpec)

/-- 'laws.FnNotes', WHERE WHAT IT READS IS OF BULK AT MOST 1048576: true; the input reads as it did. -/
def fnNotesUptoRow : OpenClaim := { program := "ytbbkihijhdpliaa", sum := "2c8e2f30ef88ed3fc6d590455e91dd0a4e4abebc3a65dd1a672fe788b18bb52a", func := "loop.example/g00974/laws.FnNotes", spec := "fnNotes", inPlace := ["slices.overlaps[string]", "slices.overlaps[loop.example/g00974/impl.Cell]"], unfollowed := true, recurses := true, apart := false, narrowed := true }
def FnNotesUptoSaid : Prop := fnNotesUptoRow.holds Try.pinned (OpenSpec.upto fnNotesSpec)

end Rows
end Go.Proofs.Ytbbkihijhdpliaa
