/-
  DERIVED. GIVEN WITH THE SEED: THE CARDS: each row of YticcmacclncgaaaDoorRows.lean that lists a variable, with what it lists TIED to the program's text (the seventh form; the later family's looks); each row that meets fmt, with fmt's text TOLD by the authors' own Lean function (tested against real Go, not proved from fmt's source: count such statements apart). THE CARD IS WHAT COUNTS. Prove the row's statement (the work); the ties are given (YticcmacclncgaaaDoorTie.lean); close each card by the builder's one call (the guide's Derived/Test/ToyasCard.lean, 'card_holds'). Laid BY PROGRAM, IN A SANDBOX (cutbox-door.mjs). By AI agents, Wed Nov 11 2026. No macro, syntax, notation, axiom, sorry.
-/
import Derived.Test.YticcmacclncgaaaDoorRows
import GoSem.ClaimSeven
namespace Go.Proofs.YticcmacclncgaaaDoor
namespace Rows

/-- THE TIED CARD OF 'laws.FnExactSetNum'. -/
def fnExactSetNumCard : Claim7 := { stood := { row := fnExactSetNumRow, standIns := [], harness := (true, "810133de5489eb3af2d1b1cb3c473a012ca3d1ccfef11b4d765b99a6aa2e9fe3"), looks := true }, kinds := [], alts := [], laidByText := true, laidKinds := [.data, .data, .data], laidTests := true, laidLooks := .later }
def FnExactSetNumCardSaid : Prop := Claim7.holds Tryd.pinned (.plain (OpenSpec.ofChange fnExactSetNumSpec)) fnExactSetNumCard

/-- THE TIED CARD OF 'laws.FnExactSetTimer'. -/
def fnExactSetTimerCard : Claim7 := { stood := { row := fnExactSetTimerRow, standIns := [], harness := (true, "810133de5489eb3af2d1b1cb3c473a012ca3d1ccfef11b4d765b99a6aa2e9fe3"), looks := true }, kinds := [], alts := [], laidByText := true, laidKinds := [.data, .data, .data], laidTests := true, laidLooks := .later }
def FnExactSetTimerCardSaid : Prop := Claim7.holds Tryd.pinned (.plain (OpenSpec.ofChange fnExactSetTimerSpec)) fnExactSetTimerCard

/-- THE TIED CARD OF 'laws.FnExactStorePage'. -/
def fnExactStorePageCard : Claim7 := { stood := { row := fnExactStorePageRow, standIns := [], harness := (true, "810133de5489eb3af2d1b1cb3c473a012ca3d1ccfef11b4d765b99a6aa2e9fe3"), looks := true }, kinds := [], alts := [], laidByText := true, laidKinds := [.data, .data, .data], laidTests := true, laidLooks := .later }
def FnExactStorePageCardSaid : Prop := Claim7.holds Tryd.pinned (.plain (OpenSpec.ofChange fnExactStorePageSpec)) fnExactStorePageCard

/-- THE TIED CARD OF 'laws.FnExactDropPages'. -/
def fnExactDropPagesCard : Claim7 := { stood := { row := fnExactDropPagesRow, standIns := [], harness := (true, "810133de5489eb3af2d1b1cb3c473a012ca3d1ccfef11b4d765b99a6aa2e9fe3"), looks := true }, kinds := [], alts := [], laidByText := true, laidKinds := [.data, .data, .data], laidTests := true, laidLooks := .later }
def FnExactDropPagesCardSaid : Prop := Claim7.holds Tryd.pinned (.plain (OpenSpec.ofChange fnExactDropPagesSpec)) fnExactDropPagesCard

/-- THE TIED CARD OF 'laws.FnExactPagesOf'. -/
def fnExactPagesOfCard : Claim7 := { stood := { row := fnExactPagesOfRow, standIns := [], harness := (true, "810133de5489eb3af2d1b1cb3c473a012ca3d1ccfef11b4d765b99a6aa2e9fe3"), looks := true }, kinds := [], alts := [], laidByText := true, laidKinds := [.data, .data, .data], laidTests := true, laidLooks := .later }
def FnExactPagesOfCardSaid : Prop := Claim7.holds Tryd.pinned (.plain (OpenSpec.ofChange fnExactPagesOfSpec)) fnExactPagesOfCard

/-- THE TIED CARD OF 'laws.FnExactBlockOf'. -/
def fnExactBlockOfCard : Claim7 := { stood := { row := fnExactBlockOfRow, standIns := [], harness := (true, "810133de5489eb3af2d1b1cb3c473a012ca3d1ccfef11b4d765b99a6aa2e9fe3"), looks := true }, kinds := [], alts := [], laidByText := true, laidKinds := [.data, .data, .data, .sentinel], laidTests := true, laidLooks := .later }
def FnExactBlockOfCardSaid : Prop := Claim7.holds Tryd.pinned (.plain (OpenSpec.ofChange fnExactBlockOfSpec)) fnExactBlockOfCard

/-- THE TIED CARD OF 'laws.FnExactLoadPage'. -/
def fnExactLoadPageCard : Claim7 := { stood := { row := fnExactLoadPageRow, standIns := [], harness := (true, "810133de5489eb3af2d1b1cb3c473a012ca3d1ccfef11b4d765b99a6aa2e9fe3"), looks := true }, kinds := [], alts := [], laidByText := true, laidKinds := [.data, .data, .data, .sentinel], laidTests := true, laidLooks := .later }
def FnExactLoadPageCardSaid : Prop := Claim7.holds Tryd.pinned (.plain (OpenSpec.ofChange fnExactLoadPageSpec)) fnExactLoadPageCard

/-- THE TIED CARD OF 'laws.FnExactForkPages'. -/
def fnExactForkPagesCard : Claim7 := { stood := { row := fnExactForkPagesRow, standIns := [], harness := (true, "810133de5489eb3af2d1b1cb3c473a012ca3d1ccfef11b4d765b99a6aa2e9fe3"), looks := true }, kinds := [], alts := [], laidByText := true, laidKinds := [.data, .data, .data], laidTests := true, laidLooks := .later }
def FnExactForkPagesCardSaid : Prop := Claim7.holds Tryd.pinned (.plain (OpenSpec.ofChange fnExactForkPagesSpec)) fnExactForkPagesCard

/-- THE TIED CARD OF 'laws.FnExactNumAt'. -/
def fnExactNumAtCard : Claim7 := { stood := { row := fnExactNumAtRow, standIns := [], harness := (true, "810133de5489eb3af2d1b1cb3c473a012ca3d1ccfef11b4d765b99a6aa2e9fe3"), looks := true }, kinds := [], alts := [], laidByText := true, laidKinds := [.data, .data, .data, .sentinel, .sentinel], laidTests := true, laidLooks := .later }
def FnExactNumAtCardSaid : Prop := Claim7.holds Tryd.pinned (.plain (OpenSpec.ofChange fnExactNumAtSpec)) fnExactNumAtCard

/-- THE TIED CARD OF 'laws.FnExactClockOf'. -/
def fnExactClockOfCard : Claim7 := { stood := { row := fnExactClockOfRow, standIns := [], harness := (true, "810133de5489eb3af2d1b1cb3c473a012ca3d1ccfef11b4d765b99a6aa2e9fe3"), looks := true }, kinds := [], alts := [], laidByText := true, laidKinds := [.data, .data, .data, .sentinel, .sentinel], laidTests := true, laidLooks := .later }
def FnExactClockOfCardSaid : Prop := Claim7.holds Tryd.pinned (.plain (OpenSpec.ofChange fnExactClockOfSpec)) fnExactClockOfCard

/-- THE TIED CARD OF 'laws.FnExactSizeFile'. -/
def fnExactSizeFileCard : Claim7 := { stood := { row := fnExactSizeFileRow, standIns := [], harness := (true, "810133de5489eb3af2d1b1cb3c473a012ca3d1ccfef11b4d765b99a6aa2e9fe3"), looks := true }, kinds := [], alts := [], laidByText := true, laidKinds := [.data, .data, .data, .sentinel, .sentinel], laidTests := true, laidLooks := .later }
def FnExactSizeFileCardSaid : Prop := Claim7.holds Tryd.pinned (.plain (OpenSpec.ofChange fnExactSizeFileSpec)) fnExactSizeFileCard

/-- THE TIED CARD OF 'laws.FnExactStateOf'. -/
def fnExactStateOfCard : Claim7 := { stood := { row := fnExactStateOfRow, standIns := [], harness := (true, "810133de5489eb3af2d1b1cb3c473a012ca3d1ccfef11b4d765b99a6aa2e9fe3"), looks := true }, kinds := [], alts := [], laidByText := true, laidKinds := [.data, .data, .data, .sentinel, .sentinel], laidTests := true, laidLooks := .later }
def FnExactStateOfCardSaid : Prop := Claim7.holds Tryd.pinned (.plain (OpenSpec.ofChange fnExactStateOfSpec)) fnExactStateOfCard

/-- THE SECOND FORM's CARD OF 'laws.FnExactSetNum'. -/
def fnExactSetNumUptoCard : Claim7 := { stood := { row := fnExactSetNumUptoRow, standIns := [], harness := (true, "810133de5489eb3af2d1b1cb3c473a012ca3d1ccfef11b4d765b99a6aa2e9fe3"), looks := true }, kinds := [], alts := [], laidByText := true, laidKinds := [.data, .data, .data], laidTests := true, laidLooks := .later }
def FnExactSetNumUptoCardSaid : Prop := Claim7.holds Tryd.pinned (.plain (OpenSpec.upto fnExactSetNumSpec)) fnExactSetNumUptoCard

/-- THE SECOND FORM's CARD OF 'laws.FnExactSetTimer'. -/
def fnExactSetTimerUptoCard : Claim7 := { stood := { row := fnExactSetTimerUptoRow, standIns := [], harness := (true, "810133de5489eb3af2d1b1cb3c473a012ca3d1ccfef11b4d765b99a6aa2e9fe3"), looks := true }, kinds := [], alts := [], laidByText := true, laidKinds := [.data, .data, .data], laidTests := true, laidLooks := .later }
def FnExactSetTimerUptoCardSaid : Prop := Claim7.holds Tryd.pinned (.plain (OpenSpec.upto fnExactSetTimerSpec)) fnExactSetTimerUptoCard

/-- THE SECOND FORM's CARD OF 'laws.FnExactStorePage'. -/
def fnExactStorePageUptoCard : Claim7 := { stood := { row := fnExactStorePageUptoRow, standIns := [], harness := (true, "810133de5489eb3af2d1b1cb3c473a012ca3d1ccfef11b4d765b99a6aa2e9fe3"), looks := true }, kinds := [], alts := [], laidByText := true, laidKinds := [.data, .data, .data], laidTests := true, laidLooks := .later }
def FnExactStorePageUptoCardSaid : Prop := Claim7.holds Tryd.pinned (.plain (OpenSpec.upto fnExactStorePageSpec)) fnExactStorePageUptoCard

/-- THE SECOND FORM's CARD OF 'laws.FnExactDropPages'. -/
def fnExactDropPagesUptoCard : Claim7 := { stood := { row := fnExactDropPagesUptoRow, standIns := [], harness := (true, "810133de5489eb3af2d1b1cb3c473a012ca3d1ccfef11b4d765b99a6aa2e9fe3"), looks := true }, kinds := [], alts := [], laidByText := true, laidKinds := [.data, .data, .data], laidTests := true, laidLooks := .later }
def FnExactDropPagesUptoCardSaid : Prop := Claim7.holds Tryd.pinned (.plain (OpenSpec.upto fnExactDropPagesSpec)) fnExactDropPagesUptoCard

/-- THE SECOND FORM's CARD OF 'laws.FnExactPagesOf'. -/
def fnExactPagesOfUptoCard : Claim7 := { stood := { row := fnExactPagesOfUptoRow, standIns := [], harness := (true, "810133de5489eb3af2d1b1cb3c473a012ca3d1ccfef11b4d765b99a6aa2e9fe3"), looks := true }, kinds := [], alts := [], laidByText := true, laidKinds := [.data, .data, .data], laidTests := true, laidLooks := .later }
def FnExactPagesOfUptoCardSaid : Prop := Claim7.holds Tryd.pinned (.plain (OpenSpec.upto fnExactPagesOfSpec)) fnExactPagesOfUptoCard

/-- THE SECOND FORM's CARD OF 'laws.FnExactBlockOf'. -/
def fnExactBlockOfUptoCard : Claim7 := { stood := { row := fnExactBlockOfUptoRow, standIns := [], harness := (true, "810133de5489eb3af2d1b1cb3c473a012ca3d1ccfef11b4d765b99a6aa2e9fe3"), looks := true }, kinds := [], alts := [], laidByText := true, laidKinds := [.data, .data, .data, .sentinel], laidTests := true, laidLooks := .later }
def FnExactBlockOfUptoCardSaid : Prop := Claim7.holds Tryd.pinned (.plain (OpenSpec.upto fnExactBlockOfSpec)) fnExactBlockOfUptoCard

/-- THE SECOND FORM's CARD OF 'laws.FnExactLoadPage'. -/
def fnExactLoadPageUptoCard : Claim7 := { stood := { row := fnExactLoadPageUptoRow, standIns := [], harness := (true, "810133de5489eb3af2d1b1cb3c473a012ca3d1ccfef11b4d765b99a6aa2e9fe3"), looks := true }, kinds := [], alts := [], laidByText := true, laidKinds := [.data, .data, .data, .sentinel], laidTests := true, laidLooks := .later }
def FnExactLoadPageUptoCardSaid : Prop := Claim7.holds Tryd.pinned (.plain (OpenSpec.upto fnExactLoadPageSpec)) fnExactLoadPageUptoCard

/-- THE SECOND FORM's CARD OF 'laws.FnExactForkPages'. -/
def fnExactForkPagesUptoCard : Claim7 := { stood := { row := fnExactForkPagesUptoRow, standIns := [], harness := (true, "810133de5489eb3af2d1b1cb3c473a012ca3d1ccfef11b4d765b99a6aa2e9fe3"), looks := true }, kinds := [], alts := [], laidByText := true, laidKinds := [.data, .data, .data], laidTests := true, laidLooks := .later }
def FnExactForkPagesUptoCardSaid : Prop := Claim7.holds Tryd.pinned (.plain (OpenSpec.upto fnExactForkPagesSpec)) fnExactForkPagesUptoCard

/-- THE SECOND FORM's CARD OF 'laws.FnExactNumAt'. -/
def fnExactNumAtUptoCard : Claim7 := { stood := { row := fnExactNumAtUptoRow, standIns := [], harness := (true, "810133de5489eb3af2d1b1cb3c473a012ca3d1ccfef11b4d765b99a6aa2e9fe3"), looks := true }, kinds := [], alts := [], laidByText := true, laidKinds := [.data, .data, .data, .sentinel, .sentinel], laidTests := true, laidLooks := .later }
def FnExactNumAtUptoCardSaid : Prop := Claim7.holds Tryd.pinned (.plain (OpenSpec.upto fnExactNumAtSpec)) fnExactNumAtUptoCard

/-- THE SECOND FORM's CARD OF 'laws.FnExactClockOf'. -/
def fnExactClockOfUptoCard : Claim7 := { stood := { row := fnExactClockOfUptoRow, standIns := [], harness := (true, "810133de5489eb3af2d1b1cb3c473a012ca3d1ccfef11b4d765b99a6aa2e9fe3"), looks := true }, kinds := [], alts := [], laidByText := true, laidKinds := [.data, .data, .data, .sentinel, .sentinel], laidTests := true, laidLooks := .later }
def FnExactClockOfUptoCardSaid : Prop := Claim7.holds Tryd.pinned (.plain (OpenSpec.upto fnExactClockOfSpec)) fnExactClockOfUptoCard

/-- THE SECOND FORM's CARD OF 'laws.FnExactSizeFile'. -/
def fnExactSizeFileUptoCard : Claim7 := { stood := { row := fnExactSizeFileUptoRow, standIns := [], harness := (true, "810133de5489eb3af2d1b1cb3c473a012ca3d1ccfef11b4d765b99a6aa2e9fe3"), looks := true }, kinds := [], alts := [], laidByText := true, laidKinds := [.data, .data, .data, .sentinel, .sentinel], laidTests := true, laidLooks := .later }
def FnExactSizeFileUptoCardSaid : Prop := Claim7.holds Tryd.pinned (.plain (OpenSpec.upto fnExactSizeFileSpec)) fnExactSizeFileUptoCard

/-- THE SECOND FORM's CARD OF 'laws.FnExactStateOf'. -/
def fnExactStateOfUptoCard : Claim7 := { stood := { row := fnExactStateOfUptoRow, standIns := [], harness := (true, "810133de5489eb3af2d1b1cb3c473a012ca3d1ccfef11b4d765b99a6aa2e9fe3"), looks := true }, kinds := [], alts := [], laidByText := true, laidKinds := [.data, .data, .data, .sentinel, .sentinel], laidTests := true, laidLooks := .later }
def FnExactStateOfUptoCardSaid : Prop := Claim7.holds Tryd.pinned (.plain (OpenSpec.upto fnExactStateOfSpec)) fnExactStateOfUptoCard
end Rows
end Go.Proofs.YticcmacclncgaaaDoor
