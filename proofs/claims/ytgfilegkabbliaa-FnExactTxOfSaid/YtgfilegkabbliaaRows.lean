/-
  No cell of these rows narrows 'for every input' (looked for: loops, veiled, ifaces, maps, wideKeys, modest, calm, conditions, laid).
  DERIVED. THE GIVEN ROWS OF THIS SEAT. 8 by the template 'for every input the law returns true; each argument reads behind the call as it read before'; 0 by the template 'total and deterministic' (their statements: YtgfilegkabbliaaTotals.lean).
  GIVEN WITH THE SEED: the statements are not yours to turn. If you find one false, say at which input.
  Laid BY PROGRAM, IN A SANDBOX (cutbox-rows.mjs): the forced cells as the released guide's own fill.sh prints them over the translation 66ce882978667867… (all of the seat's roots in one cut). By AI agents, Wed Nov 11 2026. No macro, syntax, notation, axiom, sorry.
-/
import Derived.Test.YtgfilegkabbliaaChecked
import GoSem.Claim
import GoSem.ClaimJoined
import GoSem.ClaimMapViews
import Derived.JoinedTies
import Derived.KernelRfl
namespace Go.Proofs.Ytgfilegkabbliaa
/- THE CELL 'sum', in the pinned program and in every row, IS THE sha256 OF THE DUMP (.gsa) THAT YtgfilegkabbliaaProg.lean LOADS. Nothing in Lean hashes anything: it is a label: what it is worth is what the hold of that sum in a sandbox is worth. -/
noncomputable def Try.pinned : Pinned := { name := "ytgfilegkabbliaa", sum := "66ce88297866786760c1d57374b0c370b942f8646469712f4a22b15c57256a29", checked := Try.checked }
namespace Rows
def none {H : Type} : Left H := { results := [], args := [] }

/-- 'laws.FnExactJournalSize': WHATEVER THE INPUT: true; the input reads as it did. -/
def fnExactJournalSizeSpec : ChangeSpec := { name := "fnExactJournalSize", fn := fun _ => fun
  | [d] => { results := [.lit (.bool true)], args := [d] }
  | _ => none }
def fnExactJournalSizeRow : OpenClaim := { program := "ytgfilegkabbliaa", sum := "66ce88297866786760c1d57374b0c370b942f8646469712f4a22b15c57256a29", func := "loop.example/g00974/laws.FnExactJournalSize", spec := "fnExactJournalSize", apart := false }
def FnExactJournalSizeSaid : Prop := fnExactJournalSizeRow.holds Try.pinned (OpenSpec.ofChange fnExactJournalSizeSpec)

/-- ITS FALSE NEIGHBOUR: 'it returns false'. Refute it at one input. -/
def fnExactJournalSizeWrong : ChangeSpec := { name := "fnExactJournalSize", fn := fun _ => fun
  | [d] => { results := [.lit (.bool false)], args := [d] }
  | _ => none }
def FnExactJournalSizeWrongFalsely : Prop := fnExactJournalSizeRow.holds Try.pinned (OpenSpec.ofChange fnExactJournalSizeWrong)

/-- 'laws.FnExactAdmits': WHATEVER THE INPUT: true; the input reads as it did. -/
def fnExactAdmitsSpec : ChangeSpec := { name := "fnExactAdmits", fn := fun _ => fun
  | [d] => { results := [.lit (.bool true)], args := [d] }
  | _ => none }
def fnExactAdmitsRow : OpenClaim := { program := "ytgfilegkabbliaa", sum := "66ce88297866786760c1d57374b0c370b942f8646469712f4a22b15c57256a29", func := "loop.example/g00974/laws.FnExactAdmits", spec := "fnExactAdmits", unfollowed := true, recurses := true, apart := false }
def FnExactAdmitsSaid : Prop := fnExactAdmitsRow.holds Try.pinned (OpenSpec.ofChange fnExactAdmitsSpec)

/-- ITS FALSE NEIGHBOUR: 'it returns false'. Refute it at one input. -/
def fnExactAdmitsWrong : ChangeSpec := { name := "fnExactAdmits", fn := fun _ => fun
  | [d] => { results := [.lit (.bool false)], args := [d] }
  | _ => none }
def FnExactAdmitsWrongFalsely : Prop := fnExactAdmitsRow.holds Try.pinned (OpenSpec.ofChange fnExactAdmitsWrong)

/-- 'laws.FnExactHeldBack': WHATEVER THE INPUT: true; the input reads as it did. -/
def fnExactHeldBackSpec : ChangeSpec := { name := "fnExactHeldBack", fn := fun _ => fun
  | [d] => { results := [.lit (.bool true)], args := [d] }
  | _ => none }
def fnExactHeldBackRow : OpenClaim := { program := "ytgfilegkabbliaa", sum := "66ce88297866786760c1d57374b0c370b942f8646469712f4a22b15c57256a29", func := "loop.example/g00974/laws.FnExactHeldBack", spec := "fnExactHeldBack", unfollowed := true, recurses := true, apart := false }
def FnExactHeldBackSaid : Prop := fnExactHeldBackRow.holds Try.pinned (OpenSpec.ofChange fnExactHeldBackSpec)

/-- ITS FALSE NEIGHBOUR: 'it returns false'. Refute it at one input. -/
def fnExactHeldBackWrong : ChangeSpec := { name := "fnExactHeldBack", fn := fun _ => fun
  | [d] => { results := [.lit (.bool false)], args := [d] }
  | _ => none }
def FnExactHeldBackWrongFalsely : Prop := fnExactHeldBackRow.holds Try.pinned (OpenSpec.ofChange fnExactHeldBackWrong)

/-- 'laws.FnExactFoldEnd': WHATEVER THE INPUT: true; the input reads as it did. -/
def fnExactFoldEndSpec : ChangeSpec := { name := "fnExactFoldEnd", fn := fun _ => fun
  | [d] => { results := [.lit (.bool true)], args := [d] }
  | _ => none }
def fnExactFoldEndRow : OpenClaim := { program := "ytgfilegkabbliaa", sum := "66ce88297866786760c1d57374b0c370b942f8646469712f4a22b15c57256a29", func := "loop.example/g00974/laws.FnExactFoldEnd", spec := "fnExactFoldEnd", apart := false }
def FnExactFoldEndSaid : Prop := fnExactFoldEndRow.holds Try.pinned (OpenSpec.ofChange fnExactFoldEndSpec)

/-- ITS FALSE NEIGHBOUR: 'it returns false'. Refute it at one input. -/
def fnExactFoldEndWrong : ChangeSpec := { name := "fnExactFoldEnd", fn := fun _ => fun
  | [d] => { results := [.lit (.bool false)], args := [d] }
  | _ => none }
def FnExactFoldEndWrongFalsely : Prop := fnExactFoldEndRow.holds Try.pinned (OpenSpec.ofChange fnExactFoldEndWrong)

/-- 'laws.FnExactMayLay': WHATEVER THE INPUT: true; the input reads as it did. -/
def fnExactMayLaySpec : ChangeSpec := { name := "fnExactMayLay", fn := fun _ => fun
  | [d1, d2, d3] => { results := [.lit (.bool true)], args := [d1, d2, d3] }
  | _ => none }
def fnExactMayLayRow : OpenClaim := { program := "ytgfilegkabbliaa", sum := "66ce88297866786760c1d57374b0c370b942f8646469712f4a22b15c57256a29", func := "loop.example/g00974/laws.FnExactMayLay", spec := "fnExactMayLay", unfollowed := true, recurses := true, apart := false }
def FnExactMayLaySaid : Prop := fnExactMayLayRow.holds Try.pinned (OpenSpec.ofChange fnExactMayLaySpec)

/-- ITS FALSE NEIGHBOUR: 'it returns false'. Refute it at one input. -/
def fnExactMayLayWrong : ChangeSpec := { name := "fnExactMayLay", fn := fun _ => fun
  | [d1, d2, d3] => { results := [.lit (.bool false)], args := [d1, d2, d3] }
  | _ => none }
def FnExactMayLayWrongFalsely : Prop := fnExactMayLayRow.holds Try.pinned (OpenSpec.ofChange fnExactMayLayWrong)

/-- 'laws.FnExactFallDisk': WHATEVER THE INPUT: true; the input reads as it did. -/
def fnExactFallDiskSpec : ChangeSpec := { name := "fnExactFallDisk", fn := fun _ => fun
  | [d1, d2] => { results := [.lit (.bool true)], args := [d1, d2] }
  | _ => none }
def fnExactFallDiskRow : OpenClaim := { program := "ytgfilegkabbliaa", sum := "66ce88297866786760c1d57374b0c370b942f8646469712f4a22b15c57256a29", func := "loop.example/g00974/laws.FnExactFallDisk", spec := "fnExactFallDisk", apart := false }
def FnExactFallDiskSaid : Prop := fnExactFallDiskRow.holds Try.pinned (OpenSpec.ofChange fnExactFallDiskSpec)

/-- ITS FALSE NEIGHBOUR: 'it returns false'. Refute it at one input. -/
def fnExactFallDiskWrong : ChangeSpec := { name := "fnExactFallDisk", fn := fun _ => fun
  | [d1, d2] => { results := [.lit (.bool false)], args := [d1, d2] }
  | _ => none }
def FnExactFallDiskWrongFalsely : Prop := fnExactFallDiskRow.holds Try.pinned (OpenSpec.ofChange fnExactFallDiskWrong)

/-- 'laws.FnExactDropped': WHATEVER THE INPUT: true; the input reads as it did. -/
def fnExactDroppedSpec : ChangeSpec := { name := "fnExactDropped", fn := fun _ => fun
  | [d1, d2] => { results := [.lit (.bool true)], args := [d1, d2] }
  | _ => none }
def fnExactDroppedRow : OpenClaim := { program := "ytgfilegkabbliaa", sum := "66ce88297866786760c1d57374b0c370b942f8646469712f4a22b15c57256a29", func := "loop.example/g00974/laws.FnExactDropped", spec := "fnExactDropped", apart := false }
def FnExactDroppedSaid : Prop := fnExactDroppedRow.holds Try.pinned (OpenSpec.ofChange fnExactDroppedSpec)

/-- ITS FALSE NEIGHBOUR: 'it returns false'. Refute it at one input. -/
def fnExactDroppedWrong : ChangeSpec := { name := "fnExactDropped", fn := fun _ => fun
  | [d1, d2] => { results := [.lit (.bool false)], args := [d1, d2] }
  | _ => none }
def FnExactDroppedWrongFalsely : Prop := fnExactDroppedRow.holds Try.pinned (OpenSpec.ofChange fnExactDroppedWrong)

/-- 'laws.FnExactTxOf': WHATEVER THE INPUT: true; the input reads as it did. -/
def fnExactTxOfSpec : ChangeSpec := { name := "fnExactTxOf", fn := fun _ => fun
  | [d1, d2] => { results := [.lit (.bool true)], args := [d1, d2] }
  | _ => none }
def fnExactTxOfRow : OpenClaim := { program := "ytgfilegkabbliaa", sum := "66ce88297866786760c1d57374b0c370b942f8646469712f4a22b15c57256a29", func := "loop.example/g00974/laws.FnExactTxOf", spec := "fnExactTxOf", unfollowed := true, recurses := true, apart := false }
def FnExactTxOfSaid : Prop := fnExactTxOfRow.holds Try.pinned (OpenSpec.ofChange fnExactTxOfSpec)

/-- ITS FALSE NEIGHBOUR: 'it returns false'. Refute it at one input. -/
def fnExactTxOfWrong : ChangeSpec := { name := "fnExactTxOf", fn := fun _ => fun
  | [d1, d2] => { results := [.lit (.bool false)], args := [d1, d2] }
  | _ => none }
def FnExactTxOfWrongFalsely : Prop := fnExactTxOfRow.holds Try.pinned (OpenSpec.ofChange fnExactTxOfWrong)

/- THE SECOND FORM. 'bulk': how many values and letters a reading holds, each counted each time it is reached (what is shared counts as often as it is met; a slice's spare places count too). A statement '..UptoSaid' is the law's where the arguments, and the package variables that the reading takes, are together of bulk at most 1048576: NARROWER than '..Said'. Prove '..Said' where nothing that the law and all that it calls make is longer than what came in: it says more and counts as full. Else prove '..UptoSaid'. A law counts once. -/
mutual
def uptoBulk {H : Type} : DataW H → Nat
  | .lit (.string bytes) => bytes.length + 1
  | .lit _ => 1
  | .nil => 1
  | .ptr d => uptoBulk d + 1
  | .slice elems spare => uptoBulkAll elems + uptoBulkAll spare + 1
  | .agg parts => uptoBulkAll parts + 1
  | .iface _ d => uptoBulk d + 1
  | .map entries => uptoBulkEntries entries + 1
  | .held _ => 1
def uptoBulkAll {H : Type} : List (DataW H) → Nat
  | [] => 0
  | d :: r => uptoBulk d + uptoBulkAll r
def uptoBulkEntries {H : Type} : List (Lit × DataW H) → Nat
  | [] => 0
  | x :: r => uptoBulkEntry x + uptoBulkEntries r
def uptoBulkEntry {H : Type} : Lit × DataW H → Nat
  | (.string bytes, d) => bytes.length + uptoBulk d + 1
  | (_, d) => uptoBulk d + 1
 end
def uptoSmall : (H : Type) → List (DataW H) → Bool := fun _ ds => decide (uptoBulkAll ds ≤ 1048576)
def OpenSpec.upto (s : _root_.Go.ChangeSpec) : _root_.Go.OpenSpec := { _root_.Go.OpenSpec.ofChange s with cond := some uptoSmall }

/-- 'laws.FnExactJournalSize', WHERE WHAT IT READS IS OF BULK AT MOST 1048576: true; the input reads as it did. -/
def fnExactJournalSizeUptoRow : OpenClaim := { program := "ytgfilegkabbliaa", sum := "66ce88297866786760c1d57374b0c370b942f8646469712f4a22b15c57256a29", func := "loop.example/g00974/laws.FnExactJournalSize", spec := "fnExactJournalSize", apart := false, narrowed := true }
def FnExactJournalSizeUptoSaid : Prop := fnExactJournalSizeUptoRow.holds Try.pinned (OpenSpec.upto fnExactJournalSizeSpec)

/-- 'laws.FnExactAdmits', WHERE WHAT IT READS IS OF BULK AT MOST 1048576: true; the input reads as it did. -/
def fnExactAdmitsUptoRow : OpenClaim := { program := "ytgfilegkabbliaa", sum := "66ce88297866786760c1d57374b0c370b942f8646469712f4a22b15c57256a29", func := "loop.example/g00974/laws.FnExactAdmits", spec := "fnExactAdmits", unfollowed := true, recurses := true, apart := false, narrowed := true }
def FnExactAdmitsUptoSaid : Prop := fnExactAdmitsUptoRow.holds Try.pinned (OpenSpec.upto fnExactAdmitsSpec)

/-- 'laws.FnExactHeldBack', WHERE WHAT IT READS IS OF BULK AT MOST 1048576: true; the input reads as it did. -/
def fnExactHeldBackUptoRow : OpenClaim := { program := "ytgfilegkabbliaa", sum := "66ce88297866786760c1d57374b0c370b942f8646469712f4a22b15c57256a29", func := "loop.example/g00974/laws.FnExactHeldBack", spec := "fnExactHeldBack", unfollowed := true, recurses := true, apart := false, narrowed := true }
def FnExactHeldBackUptoSaid : Prop := fnExactHeldBackUptoRow.holds Try.pinned (OpenSpec.upto fnExactHeldBackSpec)

/-- 'laws.FnExactFoldEnd', WHERE WHAT IT READS IS OF BULK AT MOST 1048576: true; the input reads as it did. -/
def fnExactFoldEndUptoRow : OpenClaim := { program := "ytgfilegkabbliaa", sum := "66ce88297866786760c1d57374b0c370b942f8646469712f4a22b15c57256a29", func := "loop.example/g00974/laws.FnExactFoldEnd", spec := "fnExactFoldEnd", apart := false, narrowed := true }
def FnExactFoldEndUptoSaid : Prop := fnExactFoldEndUptoRow.holds Try.pinned (OpenSpec.upto fnExactFoldEndSpec)

/-- 'laws.FnExactMayLay', WHERE WHAT IT READS IS OF BULK AT MOST 1048576: true; the input reads as it did. -/
def fnExactMayLayUptoRow : OpenClaim := { program := "ytgfilegkabbliaa", sum := "66ce88297866786760c1d57374b0c370b942f8646469712f4a22b15c57256a29", func := "loop.example/g00974/laws.FnExactMayLay", spec := "fnExactMayLay", unfollowed := true, recurses := true, apart := false, narrowed := true }
def FnExactMayLayUptoSaid : Prop := fnExactMayLayUptoRow.holds Try.pinned (OpenSpec.upto fnExactMayLaySpec)

/-- 'laws.FnExactFallDisk', WHERE WHAT IT READS IS OF BULK AT MOST 1048576: true; the input reads as it did. -/
def fnExactFallDiskUptoRow : OpenClaim := { program := "ytgfilegkabbliaa", sum := "66ce88297866786760c1d57374b0c370b942f8646469712f4a22b15c57256a29", func := "loop.example/g00974/laws.FnExactFallDisk", spec := "fnExactFallDisk", apart := false, narrowed := true }
def FnExactFallDiskUptoSaid : Prop := fnExactFallDiskUptoRow.holds Try.pinned (OpenSpec.upto fnExactFallDiskSpec)

/-- 'laws.FnExactDropped', WHERE WHAT IT READS IS OF BULK AT MOST 1048576: true; the input reads as it did. -/
def fnExactDroppedUptoRow : OpenClaim := { program := "ytgfilegkabbliaa", sum := "66ce88297866786760c1d57374b0c370b942f8646469712f4a22b15c57256a29", func := "loop.example/g00974/laws.FnExactDropped", spec := "fnExactDropped", apart := false, narrowed := true }
def FnExactDroppedUptoSaid : Prop := fnExactDroppedUptoRow.holds Try.pinned (OpenSpec.upto fnExactDroppedSpec)

/-- 'laws.FnExactTxOf', WHERE WHAT IT READS IS OF BULK AT MOST 1048576: true; the input reads as it did. -/
def fnExactTxOfUptoRow : OpenClaim := { program := "ytgfilegkabbliaa", sum := "66ce88297866786760c1d57374b0c370b942f8646469712f4a22b15c57256a29", func := "loop.example/g00974/laws.FnExactTxOf", spec := "fnExactTxOf", unfollowed := true, recurses := true, apart := false, narrowed := true }
def FnExactTxOfUptoSaid : Prop := fnExactTxOfUptoRow.holds Try.pinned (OpenSpec.upto fnExactTxOfSpec)

end Rows
end Go.Proofs.Ytgfilegkabbliaa
