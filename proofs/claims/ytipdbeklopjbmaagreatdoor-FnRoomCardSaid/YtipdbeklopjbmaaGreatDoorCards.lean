/-
  DERIVED. GIVEN WITH THE SEED: THE CARDS: each row of YtipdbeklopjbmaaGreatDoorRows.lean that lists a variable, with what it lists TIED to the program's text (the seventh form; the later family's looks); each row that meets fmt, with fmt's text TOLD by the authors' own Lean function (tested against real Go, not proved from fmt's source: count such statements apart). THE CARD IS WHAT COUNTS. Prove the row's statement (the work); the ties are given (YtipdbeklopjbmaaGreatDoorTie.lean); close each card by the builder's one call (the guide's Derived/Test/ToyasCard.lean, 'card_holds'). Laid BY PROGRAM, IN A SANDBOX (cutbox-door.mjs). By AI agents, Wed Nov 11 2026. No macro, syntax, notation, axiom, sorry.
-/
import Derived.Test.YtipdbeklopjbmaaGreatDoorRows
import GoSem.ClaimSeven
namespace Go.Proofs.YtipdbeklopjbmaaGreatDoor
namespace Rows

/-- THE TIED CARD OF 'laws.FnExactRecovered'. -/
def fnExactRecoveredCard : Claim7 := { stood := { row := fnExactRecoveredRow, standIns := [], harness := (true, "d9229a95d9575cce75228869b8c73bc56408fb83a7832108ad55849d44d916ab"), looks := true }, kinds := [], alts := [], laidByText := true, laidKinds := [.data, .data, .data, .data, .sentinel, .sentinel, .sentinel, .pinned], laidTests := true, laidLooks := .later }
def FnExactRecoveredCardSaid : Prop := Claim7.holds Tryz.pinned (.plain (OpenSpec.ofChange fnExactRecoveredSpec)) fnExactRecoveredCard

/-- THE TIED CARD OF 'laws.FnExactBytesOf'. -/
def fnExactBytesOfCard : Claim7 := { stood := { row := fnExactBytesOfRow, standIns := [], harness := (true, "d9229a95d9575cce75228869b8c73bc56408fb83a7832108ad55849d44d916ab"), looks := true }, kinds := [], alts := [], laidByText := true, laidKinds := [.data, .data, .data, .sentinel, .sentinel, .sentinel], laidTests := true, laidLooks := .later }
def FnExactBytesOfCardSaid : Prop := Claim7.holds Tryz.pinned (.plain (OpenSpec.ofChange fnExactBytesOfSpec)) fnExactBytesOfCard

/-- THE TIED CARD OF 'laws.FnRoom'. -/
def fnRoomCard : Claim7 := { stood := { row := fnRoomRow, standIns := [], harness := (true, "d9229a95d9575cce75228869b8c73bc56408fb83a7832108ad55849d44d916ab"), looks := true }, kinds := [], alts := [], laidByText := true, laidKinds := [.data, .data, .data, .sentinel, .sentinel, .sentinel], laidTests := true, laidLooks := .later }
def FnRoomCardSaid : Prop := Claim7.holds Tryz.pinned (.plain (OpenSpec.ofChange fnRoomSpec)) fnRoomCard

/-- THE SECOND FORM's CARD OF 'laws.FnExactRecovered'. -/
def fnExactRecoveredUptoCard : Claim7 := { stood := { row := fnExactRecoveredUptoRow, standIns := [], harness := (true, "d9229a95d9575cce75228869b8c73bc56408fb83a7832108ad55849d44d916ab"), looks := true }, kinds := [], alts := [], laidByText := true, laidKinds := [.data, .data, .data, .data, .sentinel, .sentinel, .sentinel, .pinned], laidTests := true, laidLooks := .later }
def FnExactRecoveredUptoCardSaid : Prop := Claim7.holds Tryz.pinned (.plain (OpenSpec.upto fnExactRecoveredSpec)) fnExactRecoveredUptoCard

/-- THE SECOND FORM's CARD OF 'laws.FnExactBytesOf'. -/
def fnExactBytesOfUptoCard : Claim7 := { stood := { row := fnExactBytesOfUptoRow, standIns := [], harness := (true, "d9229a95d9575cce75228869b8c73bc56408fb83a7832108ad55849d44d916ab"), looks := true }, kinds := [], alts := [], laidByText := true, laidKinds := [.data, .data, .data, .sentinel, .sentinel, .sentinel], laidTests := true, laidLooks := .later }
def FnExactBytesOfUptoCardSaid : Prop := Claim7.holds Tryz.pinned (.plain (OpenSpec.upto fnExactBytesOfSpec)) fnExactBytesOfUptoCard

/-- THE SECOND FORM's CARD OF 'laws.FnRoom'. -/
def fnRoomUptoCard : Claim7 := { stood := { row := fnRoomUptoRow, standIns := [], harness := (true, "d9229a95d9575cce75228869b8c73bc56408fb83a7832108ad55849d44d916ab"), looks := true }, kinds := [], alts := [], laidByText := true, laidKinds := [.data, .data, .data, .sentinel, .sentinel, .sentinel], laidTests := true, laidLooks := .later }
def FnRoomUptoCardSaid : Prop := Claim7.holds Tryz.pinned (.plain (OpenSpec.upto fnRoomSpec)) fnRoomUptoCard
end Rows
end Go.Proofs.YtipdbeklopjbmaaGreatDoor
