/-
  DERIVED. GIVEN WITH THE SEED: THE CARDS: each row of YtibgmijfnbnfkaaDoorRows.lean that lists a variable, with what it lists TIED to the program's text (the seventh form; the later family's looks); each row that meets fmt, with fmt's text TOLD by the authors' own Lean function (tested against real Go, not proved from fmt's source: count such statements apart). THE CARD IS WHAT COUNTS. Prove the row's statement (the work); the ties are given (YtibgmijfnbnfkaaDoorTie.lean); close each card by the builder's one call (the guide's Derived/Test/ToyasCard.lean, 'card_holds'). Laid BY PROGRAM, IN A SANDBOX (cutbox-door.mjs). By AI agents, Wed Nov 11 2026. No macro, syntax, notation, axiom, sorry.
-/
import Derived.Test.YtibgmijfnbnfkaaDoorRows
import GoSem.ClaimSeven
namespace Go.Proofs.YtibgmijfnbnfkaaDoor
namespace Rows

/-- THE TIED CARD OF 'laws.FnBlocks'. -/
def fnBlocksCard : Claim7 := { stood := { row := fnBlocksRow, standIns := [], harness := (true, "d0debdf2b2eb2ef0a60d3af8155b8d87dc2d4d4bf8fb552b8a2dcdb4cea35881"), looks := true }, kinds := [], alts := [], laidByText := true, laidKinds := [.data, .data, .data, .sentinel, .sentinel, .sentinel], laidTests := true, laidLooks := .later }
def FnBlocksCardSaid : Prop := Claim7.holds Tryd.pinned (.plain (OpenSpec.ofChange fnBlocksSpec)) fnBlocksCard

/-- THE TIED CARD OF 'laws.FnReadParts'. -/
def fnReadPartsCard : Claim7 := { stood := { row := fnReadPartsRow, standIns := [], harness := (true, "d0debdf2b2eb2ef0a60d3af8155b8d87dc2d4d4bf8fb552b8a2dcdb4cea35881"), looks := true }, kinds := [], alts := [], laidByText := true, laidKinds := [.data, .data, .data, .sentinel, .sentinel, .sentinel], laidTests := true, laidLooks := .later }
def FnReadPartsCardSaid : Prop := Claim7.holds Tryd.pinned (.plain (OpenSpec.ofChange fnReadPartsSpec)) fnReadPartsCard

/-- THE TIED CARD OF 'laws.FnWriteParts'. -/
def fnWritePartsCard : Claim7 := { stood := { row := fnWritePartsRow, standIns := [], harness := (true, "d0debdf2b2eb2ef0a60d3af8155b8d87dc2d4d4bf8fb552b8a2dcdb4cea35881"), looks := true }, kinds := [], alts := [], laidByText := true, laidKinds := [.data, .data, .data, .sentinel, .sentinel, .sentinel], laidTests := true, laidLooks := .later }
def FnWritePartsCardSaid : Prop := Claim7.holds Tryd.pinned (.plain (OpenSpec.ofChange fnWritePartsSpec)) fnWritePartsCard

/-- THE TIED CARD OF 'laws.FnCutGrow'. -/
def fnCutGrowCard : Claim7 := { stood := { row := fnCutGrowRow, standIns := [], harness := (true, "d0debdf2b2eb2ef0a60d3af8155b8d87dc2d4d4bf8fb552b8a2dcdb4cea35881"), looks := true }, kinds := [], alts := [], laidByText := true, laidKinds := [.data, .data, .data, .sentinel, .sentinel, .sentinel], laidTests := true, laidLooks := .later }
def FnCutGrowCardSaid : Prop := Claim7.holds Tryd.pinned (.plain (OpenSpec.ofChange fnCutGrowSpec)) fnCutGrowCard

/-- THE SECOND FORM's CARD OF 'laws.FnBlocks'. -/
def fnBlocksUptoCard : Claim7 := { stood := { row := fnBlocksUptoRow, standIns := [], harness := (true, "d0debdf2b2eb2ef0a60d3af8155b8d87dc2d4d4bf8fb552b8a2dcdb4cea35881"), looks := true }, kinds := [], alts := [], laidByText := true, laidKinds := [.data, .data, .data, .sentinel, .sentinel, .sentinel], laidTests := true, laidLooks := .later }
def FnBlocksUptoCardSaid : Prop := Claim7.holds Tryd.pinned (.plain (OpenSpec.upto fnBlocksSpec)) fnBlocksUptoCard

/-- THE SECOND FORM's CARD OF 'laws.FnReadParts'. -/
def fnReadPartsUptoCard : Claim7 := { stood := { row := fnReadPartsUptoRow, standIns := [], harness := (true, "d0debdf2b2eb2ef0a60d3af8155b8d87dc2d4d4bf8fb552b8a2dcdb4cea35881"), looks := true }, kinds := [], alts := [], laidByText := true, laidKinds := [.data, .data, .data, .sentinel, .sentinel, .sentinel], laidTests := true, laidLooks := .later }
def FnReadPartsUptoCardSaid : Prop := Claim7.holds Tryd.pinned (.plain (OpenSpec.upto fnReadPartsSpec)) fnReadPartsUptoCard

/-- THE SECOND FORM's CARD OF 'laws.FnWriteParts'. -/
def fnWritePartsUptoCard : Claim7 := { stood := { row := fnWritePartsUptoRow, standIns := [], harness := (true, "d0debdf2b2eb2ef0a60d3af8155b8d87dc2d4d4bf8fb552b8a2dcdb4cea35881"), looks := true }, kinds := [], alts := [], laidByText := true, laidKinds := [.data, .data, .data, .sentinel, .sentinel, .sentinel], laidTests := true, laidLooks := .later }
def FnWritePartsUptoCardSaid : Prop := Claim7.holds Tryd.pinned (.plain (OpenSpec.upto fnWritePartsSpec)) fnWritePartsUptoCard

/-- THE SECOND FORM's CARD OF 'laws.FnCutGrow'. -/
def fnCutGrowUptoCard : Claim7 := { stood := { row := fnCutGrowUptoRow, standIns := [], harness := (true, "d0debdf2b2eb2ef0a60d3af8155b8d87dc2d4d4bf8fb552b8a2dcdb4cea35881"), looks := true }, kinds := [], alts := [], laidByText := true, laidKinds := [.data, .data, .data, .sentinel, .sentinel, .sentinel], laidTests := true, laidLooks := .later }
def FnCutGrowUptoCardSaid : Prop := Claim7.holds Tryd.pinned (.plain (OpenSpec.upto fnCutGrowSpec)) fnCutGrowUptoCard
end Rows
end Go.Proofs.YtibgmijfnbnfkaaDoor
