/-
  DERIVED. GIVEN WITH THE SEED: THE CARDS: each row of YtibgmijfnbnfkaaGreatDoorRows.lean that lists a variable, with what it lists TIED to the program's text (the seventh form; the later family's looks); each row that meets fmt, with fmt's text TOLD by the authors' own Lean function (tested against real Go, not proved from fmt's source: count such statements apart). THE CARD IS WHAT COUNTS. Prove the row's statement (the work); the ties are given (YtibgmijfnbnfkaaGreatDoorTie.lean); close each card by the builder's one call (the guide's Derived/Test/ToyasCard.lean, 'card_holds'). Laid BY PROGRAM, IN A SANDBOX (cutbox-door.mjs). By AI agents, Wed Nov 11 2026. No macro, syntax, notation, axiom, sorry.
-/
import Derived.Test.YtibgmijfnbnfkaaGreatDoorRows
import GoSem.ClaimSeven
namespace Go.Proofs.YtibgmijfnbnfkaaGreatDoor
namespace Rows

/-- THE TIED CARD OF 'laws.FnPages'. -/
def fnPagesCard : Claim7 := { stood := { row := fnPagesRow, standIns := [], harness := (true, "3ddab414948381acf71225029c6f1add9f2a62ccb30058f43c7bdd90a71ffb05"), looks := true }, kinds := [], alts := [], laidByText := true, laidKinds := [.data, .data, .data, .sentinel], laidTests := true, laidLooks := .later }
def FnPagesCardSaid : Prop := Claim7.holds Tryz.pinned (.plain (OpenSpec.ofChange fnPagesSpec)) fnPagesCard

/-- THE TIED CARD OF 'laws.FnNamesCount'. -/
def fnNamesCountCard : Claim7 := { stood := { row := fnNamesCountRow, standIns := [], harness := (true, "3ddab414948381acf71225029c6f1add9f2a62ccb30058f43c7bdd90a71ffb05"), looks := true }, kinds := [], alts := [], laidByText := true, laidKinds := [.data, .data, .data, .sentinel, .sentinel], laidTests := true, laidLooks := .later }
def FnNamesCountCardSaid : Prop := Claim7.holds Tryz.pinned (.plain (OpenSpec.ofChange fnNamesCountSpec)) fnNamesCountCard

/-- THE SECOND FORM's CARD OF 'laws.FnPages'. -/
def fnPagesUptoCard : Claim7 := { stood := { row := fnPagesUptoRow, standIns := [], harness := (true, "3ddab414948381acf71225029c6f1add9f2a62ccb30058f43c7bdd90a71ffb05"), looks := true }, kinds := [], alts := [], laidByText := true, laidKinds := [.data, .data, .data, .sentinel], laidTests := true, laidLooks := .later }
def FnPagesUptoCardSaid : Prop := Claim7.holds Tryz.pinned (.plain (OpenSpec.upto fnPagesSpec)) fnPagesUptoCard

/-- THE SECOND FORM's CARD OF 'laws.FnNamesCount'. -/
def fnNamesCountUptoCard : Claim7 := { stood := { row := fnNamesCountUptoRow, standIns := [], harness := (true, "3ddab414948381acf71225029c6f1add9f2a62ccb30058f43c7bdd90a71ffb05"), looks := true }, kinds := [], alts := [], laidByText := true, laidKinds := [.data, .data, .data, .sentinel, .sentinel], laidTests := true, laidLooks := .later }
def FnNamesCountUptoCardSaid : Prop := Claim7.holds Tryz.pinned (.plain (OpenSpec.upto fnNamesCountSpec)) fnNamesCountUptoCard
end Rows
end Go.Proofs.YtibgmijfnbnfkaaGreatDoor
