/-
  DERIVED. GIVEN WITH THE SEED: THE CARDS: each row of YtkeglhkdanenbaaGreatDoorRows.lean that lists a variable, with what it lists TIED to the program's text (the seventh form; the later family's looks); each row that meets fmt, with fmt's text TOLD by the authors' own Lean function (tested against real Go, not proved from fmt's source: count such statements apart). THE CARD IS WHAT COUNTS. Prove the row's statement (the work); the ties are given (YtkeglhkdanenbaaGreatDoorTie.lean); close each card by the builder's one call (the guide's Derived/Test/ToyasCard.lean, 'card_holds'). Laid BY PROGRAM, IN A SANDBOX (cutbox-door.mjs). By AI agents, Wed Nov 11 2026. No macro, syntax, notation, axiom, sorry.
-/
import Derived.Test.YtkeglhkdanenbaaGreatDoorRows
import GoSem.ClaimSeven
namespace Go.Proofs.YtkeglhkdanenbaaGreatDoor
namespace Rows

/-- THE TIED CARD OF 'laws.FnPages'. -/
def fnPagesCard : Claim7 := { stood := { row := fnPagesRow, standIns := [], harness := (true, "38c2d26bb8fa83a95fd7a9deaac422001cb2db97dd62ee41e149756f9c118c48"), looks := true }, kinds := [], alts := [], laidByText := true, laidKinds := [.data, .data, .data, .sentinel], laidTests := true, laidLooks := .later }
def FnPagesCardSaid : Prop := Claim7.holds Tryz.pinned (.plain (OpenSpec.ofChange fnPagesSpec)) fnPagesCard

/-- THE TIED CARD OF 'laws.FnPipeCounts'. -/
def fnPipeCountsCard : Claim7 := { stood := { row := fnPipeCountsRow, standIns := [], harness := (true, "38c2d26bb8fa83a95fd7a9deaac422001cb2db97dd62ee41e149756f9c118c48"), looks := true }, kinds := [], alts := [], laidByText := true, laidKinds := [.data, .data, .data, .sentinel, .sentinel, .sentinel], laidTests := true, laidLooks := .later }
def FnPipeCountsCardSaid : Prop := Claim7.holds Tryz.pinned (.plain (OpenSpec.ofChange fnPipeCountsSpec)) fnPipeCountsCard

/-- THE TIED CARD OF 'laws.FnPipesApart'. -/
def fnPipesApartCard : Claim7 := { stood := { row := fnPipesApartRow, standIns := [], harness := (true, "38c2d26bb8fa83a95fd7a9deaac422001cb2db97dd62ee41e149756f9c118c48"), looks := true }, kinds := [], alts := [], laidByText := true, laidKinds := [.data, .data, .data, .sentinel, .sentinel, .sentinel], laidTests := true, laidLooks := .later }
def FnPipesApartCardSaid : Prop := Claim7.holds Tryz.pinned (.plain (OpenSpec.ofChange fnPipesApartSpec)) fnPipesApartCard

/-- THE TIED CARD OF 'laws.FnSignalsOrder'. -/
def fnSignalsOrderCard : Claim7 := { stood := { row := fnSignalsOrderRow, standIns := [], harness := (true, "38c2d26bb8fa83a95fd7a9deaac422001cb2db97dd62ee41e149756f9c118c48"), looks := true }, kinds := [], alts := [], laidByText := true, laidKinds := [.data, .data, .data, .sentinel, .sentinel], laidTests := true, laidLooks := .later }
def FnSignalsOrderCardSaid : Prop := Claim7.holds Tryz.pinned (.plain (OpenSpec.ofChange fnSignalsOrderSpec)) fnSignalsOrderCard

/-- THE SECOND FORM's CARD OF 'laws.FnPages'. -/
def fnPagesUptoCard : Claim7 := { stood := { row := fnPagesUptoRow, standIns := [], harness := (true, "38c2d26bb8fa83a95fd7a9deaac422001cb2db97dd62ee41e149756f9c118c48"), looks := true }, kinds := [], alts := [], laidByText := true, laidKinds := [.data, .data, .data, .sentinel], laidTests := true, laidLooks := .later }
def FnPagesUptoCardSaid : Prop := Claim7.holds Tryz.pinned (.plain (OpenSpec.upto fnPagesSpec)) fnPagesUptoCard

/-- THE SECOND FORM's CARD OF 'laws.FnPipeCounts'. -/
def fnPipeCountsUptoCard : Claim7 := { stood := { row := fnPipeCountsUptoRow, standIns := [], harness := (true, "38c2d26bb8fa83a95fd7a9deaac422001cb2db97dd62ee41e149756f9c118c48"), looks := true }, kinds := [], alts := [], laidByText := true, laidKinds := [.data, .data, .data, .sentinel, .sentinel, .sentinel], laidTests := true, laidLooks := .later }
def FnPipeCountsUptoCardSaid : Prop := Claim7.holds Tryz.pinned (.plain (OpenSpec.upto fnPipeCountsSpec)) fnPipeCountsUptoCard

/-- THE SECOND FORM's CARD OF 'laws.FnPipesApart'. -/
def fnPipesApartUptoCard : Claim7 := { stood := { row := fnPipesApartUptoRow, standIns := [], harness := (true, "38c2d26bb8fa83a95fd7a9deaac422001cb2db97dd62ee41e149756f9c118c48"), looks := true }, kinds := [], alts := [], laidByText := true, laidKinds := [.data, .data, .data, .sentinel, .sentinel, .sentinel], laidTests := true, laidLooks := .later }
def FnPipesApartUptoCardSaid : Prop := Claim7.holds Tryz.pinned (.plain (OpenSpec.upto fnPipesApartSpec)) fnPipesApartUptoCard

/-- THE SECOND FORM's CARD OF 'laws.FnSignalsOrder'. -/
def fnSignalsOrderUptoCard : Claim7 := { stood := { row := fnSignalsOrderUptoRow, standIns := [], harness := (true, "38c2d26bb8fa83a95fd7a9deaac422001cb2db97dd62ee41e149756f9c118c48"), looks := true }, kinds := [], alts := [], laidByText := true, laidKinds := [.data, .data, .data, .sentinel, .sentinel], laidTests := true, laidLooks := .later }
def FnSignalsOrderUptoCardSaid : Prop := Claim7.holds Tryz.pinned (.plain (OpenSpec.upto fnSignalsOrderSpec)) fnSignalsOrderUptoCard
end Rows
end Go.Proofs.YtkeglhkdanenbaaGreatDoor
