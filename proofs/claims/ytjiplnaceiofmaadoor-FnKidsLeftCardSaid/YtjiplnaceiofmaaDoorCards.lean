/-
  DERIVED. GIVEN WITH THE SEED: THE CARDS: each row of YtjiplnaceiofmaaDoorRows.lean that lists a variable, with what it lists TIED to the program's text (the seventh form; the later family's looks); each row that meets fmt, with fmt's text TOLD by the authors' own Lean function (tested against real Go, not proved from fmt's source: count such statements apart). THE CARD IS WHAT COUNTS. Prove the row's statement (the work); the ties are given (YtjiplnaceiofmaaDoorTie.lean); close each card by the builder's one call (the guide's Derived/Test/ToyasCard.lean, 'card_holds'). Laid BY PROGRAM, IN A SANDBOX (cutbox-door.mjs). By AI agents, Wed Nov 11 2026. No macro, syntax, notation, axiom, sorry.
-/
import Derived.Test.YtjiplnaceiofmaaDoorRows
import GoSem.ClaimSeven
namespace Go.Proofs.YtjiplnaceiofmaaDoor
namespace Rows

/-- THE TIED CARD OF 'laws.FnPagesOwn'. -/
def fnPagesOwnCard : Claim7 := { stood := { row := fnPagesOwnRow, standIns := [], harness := (true, "167e4d36e1bc60f6d5ed3739e3d5e09f6b5bab75b6f9b2c84f393379c264b4c4"), looks := true }, kinds := [], alts := [], laidByText := true, laidKinds := [.data, .data, .data, .sentinel], laidTests := true, laidLooks := .later }
def FnPagesOwnCardSaid : Prop := Claim7.holds Tryd.pinned (.plain (OpenSpec.ofChange fnPagesOwnSpec)) fnPagesOwnCard

/-- THE TIED CARD OF 'laws.FnSetGet'. -/
def fnSetGetCard : Claim7 := { stood := { row := fnSetGetRow, standIns := [], harness := (true, "167e4d36e1bc60f6d5ed3739e3d5e09f6b5bab75b6f9b2c84f393379c264b4c4"), looks := true }, kinds := [], alts := [], laidByText := true, laidKinds := [.data, .data, .data, .sentinel, .sentinel], laidTests := true, laidLooks := .later }
def FnSetGetCardSaid : Prop := Claim7.holds Tryd.pinned (.plain (OpenSpec.ofChange fnSetGetSpec)) fnSetGetCard

/-- THE TIED CARD OF 'laws.FnCountUp'. -/
def fnCountUpCard : Claim7 := { stood := { row := fnCountUpRow, standIns := [], harness := (true, "167e4d36e1bc60f6d5ed3739e3d5e09f6b5bab75b6f9b2c84f393379c264b4c4"), looks := true }, kinds := [], alts := [], laidByText := true, laidKinds := [.data, .data, .data, .sentinel, .sentinel], laidTests := true, laidLooks := .later }
def FnCountUpCardSaid : Prop := Claim7.holds Tryd.pinned (.plain (OpenSpec.ofChange fnCountUpSpec)) fnCountUpCard

/-- THE TIED CARD OF 'laws.FnProcLimit'. -/
def fnProcLimitCard : Claim7 := { stood := { row := fnProcLimitRow, standIns := [], harness := (true, "167e4d36e1bc60f6d5ed3739e3d5e09f6b5bab75b6f9b2c84f393379c264b4c4"), looks := true }, kinds := [], alts := [], laidByText := true, laidKinds := [.data, .data, .data, .sentinel, .sentinel], laidTests := true, laidLooks := .later }
def FnProcLimitCardSaid : Prop := Claim7.holds Tryd.pinned (.plain (OpenSpec.ofChange fnProcLimitSpec)) fnProcLimitCard

/-- THE TIED CARD OF 'laws.FnFileLimit'. -/
def fnFileLimitCard : Claim7 := { stood := { row := fnFileLimitRow, standIns := [], harness := (true, "167e4d36e1bc60f6d5ed3739e3d5e09f6b5bab75b6f9b2c84f393379c264b4c4"), looks := true }, kinds := [], alts := [], laidByText := true, laidKinds := [.data, .data, .data, .sentinel, .sentinel], laidTests := true, laidLooks := .later }
def FnFileLimitCardSaid : Prop := Claim7.holds Tryd.pinned (.plain (OpenSpec.ofChange fnFileLimitSpec)) fnFileLimitCard

/-- THE TIED CARD OF 'laws.FnClockUp'. -/
def fnClockUpCard : Claim7 := { stood := { row := fnClockUpRow, standIns := [], harness := (true, "167e4d36e1bc60f6d5ed3739e3d5e09f6b5bab75b6f9b2c84f393379c264b4c4"), looks := true }, kinds := [], alts := [], laidByText := true, laidKinds := [.data, .data, .data, .sentinel, .sentinel], laidTests := true, laidLooks := .later }
def FnClockUpCardSaid : Prop := Claim7.holds Tryd.pinned (.plain (OpenSpec.ofChange fnClockUpSpec)) fnClockUpCard

/-- THE TIED CARD OF 'laws.FnPipeLimit'. -/
def fnPipeLimitCard : Claim7 := { stood := { row := fnPipeLimitRow, standIns := [], harness := (true, "167e4d36e1bc60f6d5ed3739e3d5e09f6b5bab75b6f9b2c84f393379c264b4c4"), looks := true }, kinds := [], alts := [], laidByText := true, laidKinds := [.data, .data, .data, .sentinel, .sentinel], laidTests := true, laidLooks := .later }
def FnPipeLimitCardSaid : Prop := Claim7.holds Tryd.pinned (.plain (OpenSpec.ofChange fnPipeLimitSpec)) fnPipeLimitCard

/-- THE TIED CARD OF 'laws.FnOutsLimit'. -/
def fnOutsLimitCard : Claim7 := { stood := { row := fnOutsLimitRow, standIns := [], harness := (true, "167e4d36e1bc60f6d5ed3739e3d5e09f6b5bab75b6f9b2c84f393379c264b4c4"), looks := true }, kinds := [], alts := [], laidByText := true, laidKinds := [.data, .data, .data, .sentinel, .sentinel, .sentinel], laidTests := true, laidLooks := .later }
def FnOutsLimitCardSaid : Prop := Claim7.holds Tryd.pinned (.plain (OpenSpec.ofChange fnOutsLimitSpec)) fnOutsLimitCard

/-- THE TIED CARD OF 'laws.FnKidsLeft'. -/
def fnKidsLeftCard : Claim7 := { stood := { row := fnKidsLeftRow, standIns := [], harness := (true, "167e4d36e1bc60f6d5ed3739e3d5e09f6b5bab75b6f9b2c84f393379c264b4c4"), looks := true }, kinds := [], alts := [], laidByText := true, laidKinds := [.data, .data, .data, .sentinel, .sentinel], laidTests := true, laidLooks := .later }
def FnKidsLeftCardSaid : Prop := Claim7.holds Tryd.pinned (.plain (OpenSpec.ofChange fnKidsLeftSpec)) fnKidsLeftCard

/-- THE TIED CARD OF 'laws.FnExactLenPipe'. -/
def fnExactLenPipeCard : Claim7 := { stood := { row := fnExactLenPipeRow, standIns := [], harness := (true, "167e4d36e1bc60f6d5ed3739e3d5e09f6b5bab75b6f9b2c84f393379c264b4c4"), looks := true }, kinds := [], alts := [], laidByText := true, laidKinds := [.data, .data, .data, .sentinel, .sentinel], laidTests := true, laidLooks := .later }
def FnExactLenPipeCardSaid : Prop := Claim7.holds Tryd.pinned (.plain (OpenSpec.ofChange fnExactLenPipeSpec)) fnExactLenPipeCard

/-- THE TIED CARD OF 'laws.FnExactIsPipe'. -/
def fnExactIsPipeCard : Claim7 := { stood := { row := fnExactIsPipeRow, standIns := [], harness := (true, "167e4d36e1bc60f6d5ed3739e3d5e09f6b5bab75b6f9b2c84f393379c264b4c4"), looks := true }, kinds := [], alts := [], laidByText := true, laidKinds := [.data, .data, .data, .sentinel, .sentinel], laidTests := true, laidLooks := .later }
def FnExactIsPipeCardSaid : Prop := Claim7.holds Tryd.pinned (.plain (OpenSpec.ofChange fnExactIsPipeSpec)) fnExactIsPipeCard

/-- THE TIED CARD OF 'laws.FnExactFileOf'. -/
def fnExactFileOfCard : Claim7 := { stood := { row := fnExactFileOfRow, standIns := [], harness := (true, "167e4d36e1bc60f6d5ed3739e3d5e09f6b5bab75b6f9b2c84f393379c264b4c4"), looks := true }, kinds := [], alts := [], laidByText := true, laidKinds := [.data, .data, .data, .sentinel, .sentinel], laidTests := true, laidLooks := .later }
def FnExactFileOfCardSaid : Prop := Claim7.holds Tryd.pinned (.plain (OpenSpec.ofChange fnExactFileOfSpec)) fnExactFileOfCard

/-- THE SECOND FORM's CARD OF 'laws.FnPagesOwn'. -/
def fnPagesOwnUptoCard : Claim7 := { stood := { row := fnPagesOwnUptoRow, standIns := [], harness := (true, "167e4d36e1bc60f6d5ed3739e3d5e09f6b5bab75b6f9b2c84f393379c264b4c4"), looks := true }, kinds := [], alts := [], laidByText := true, laidKinds := [.data, .data, .data, .sentinel], laidTests := true, laidLooks := .later }
def FnPagesOwnUptoCardSaid : Prop := Claim7.holds Tryd.pinned (.plain (OpenSpec.upto fnPagesOwnSpec)) fnPagesOwnUptoCard

/-- THE SECOND FORM's CARD OF 'laws.FnSetGet'. -/
def fnSetGetUptoCard : Claim7 := { stood := { row := fnSetGetUptoRow, standIns := [], harness := (true, "167e4d36e1bc60f6d5ed3739e3d5e09f6b5bab75b6f9b2c84f393379c264b4c4"), looks := true }, kinds := [], alts := [], laidByText := true, laidKinds := [.data, .data, .data, .sentinel, .sentinel], laidTests := true, laidLooks := .later }
def FnSetGetUptoCardSaid : Prop := Claim7.holds Tryd.pinned (.plain (OpenSpec.upto fnSetGetSpec)) fnSetGetUptoCard

/-- THE SECOND FORM's CARD OF 'laws.FnCountUp'. -/
def fnCountUpUptoCard : Claim7 := { stood := { row := fnCountUpUptoRow, standIns := [], harness := (true, "167e4d36e1bc60f6d5ed3739e3d5e09f6b5bab75b6f9b2c84f393379c264b4c4"), looks := true }, kinds := [], alts := [], laidByText := true, laidKinds := [.data, .data, .data, .sentinel, .sentinel], laidTests := true, laidLooks := .later }
def FnCountUpUptoCardSaid : Prop := Claim7.holds Tryd.pinned (.plain (OpenSpec.upto fnCountUpSpec)) fnCountUpUptoCard

/-- THE SECOND FORM's CARD OF 'laws.FnProcLimit'. -/
def fnProcLimitUptoCard : Claim7 := { stood := { row := fnProcLimitUptoRow, standIns := [], harness := (true, "167e4d36e1bc60f6d5ed3739e3d5e09f6b5bab75b6f9b2c84f393379c264b4c4"), looks := true }, kinds := [], alts := [], laidByText := true, laidKinds := [.data, .data, .data, .sentinel, .sentinel], laidTests := true, laidLooks := .later }
def FnProcLimitUptoCardSaid : Prop := Claim7.holds Tryd.pinned (.plain (OpenSpec.upto fnProcLimitSpec)) fnProcLimitUptoCard

/-- THE SECOND FORM's CARD OF 'laws.FnFileLimit'. -/
def fnFileLimitUptoCard : Claim7 := { stood := { row := fnFileLimitUptoRow, standIns := [], harness := (true, "167e4d36e1bc60f6d5ed3739e3d5e09f6b5bab75b6f9b2c84f393379c264b4c4"), looks := true }, kinds := [], alts := [], laidByText := true, laidKinds := [.data, .data, .data, .sentinel, .sentinel], laidTests := true, laidLooks := .later }
def FnFileLimitUptoCardSaid : Prop := Claim7.holds Tryd.pinned (.plain (OpenSpec.upto fnFileLimitSpec)) fnFileLimitUptoCard

/-- THE SECOND FORM's CARD OF 'laws.FnClockUp'. -/
def fnClockUpUptoCard : Claim7 := { stood := { row := fnClockUpUptoRow, standIns := [], harness := (true, "167e4d36e1bc60f6d5ed3739e3d5e09f6b5bab75b6f9b2c84f393379c264b4c4"), looks := true }, kinds := [], alts := [], laidByText := true, laidKinds := [.data, .data, .data, .sentinel, .sentinel], laidTests := true, laidLooks := .later }
def FnClockUpUptoCardSaid : Prop := Claim7.holds Tryd.pinned (.plain (OpenSpec.upto fnClockUpSpec)) fnClockUpUptoCard

/-- THE SECOND FORM's CARD OF 'laws.FnPipeLimit'. -/
def fnPipeLimitUptoCard : Claim7 := { stood := { row := fnPipeLimitUptoRow, standIns := [], harness := (true, "167e4d36e1bc60f6d5ed3739e3d5e09f6b5bab75b6f9b2c84f393379c264b4c4"), looks := true }, kinds := [], alts := [], laidByText := true, laidKinds := [.data, .data, .data, .sentinel, .sentinel], laidTests := true, laidLooks := .later }
def FnPipeLimitUptoCardSaid : Prop := Claim7.holds Tryd.pinned (.plain (OpenSpec.upto fnPipeLimitSpec)) fnPipeLimitUptoCard

/-- THE SECOND FORM's CARD OF 'laws.FnOutsLimit'. -/
def fnOutsLimitUptoCard : Claim7 := { stood := { row := fnOutsLimitUptoRow, standIns := [], harness := (true, "167e4d36e1bc60f6d5ed3739e3d5e09f6b5bab75b6f9b2c84f393379c264b4c4"), looks := true }, kinds := [], alts := [], laidByText := true, laidKinds := [.data, .data, .data, .sentinel, .sentinel, .sentinel], laidTests := true, laidLooks := .later }
def FnOutsLimitUptoCardSaid : Prop := Claim7.holds Tryd.pinned (.plain (OpenSpec.upto fnOutsLimitSpec)) fnOutsLimitUptoCard

/-- THE SECOND FORM's CARD OF 'laws.FnKidsLeft'. -/
def fnKidsLeftUptoCard : Claim7 := { stood := { row := fnKidsLeftUptoRow, standIns := [], harness := (true, "167e4d36e1bc60f6d5ed3739e3d5e09f6b5bab75b6f9b2c84f393379c264b4c4"), looks := true }, kinds := [], alts := [], laidByText := true, laidKinds := [.data, .data, .data, .sentinel, .sentinel], laidTests := true, laidLooks := .later }
def FnKidsLeftUptoCardSaid : Prop := Claim7.holds Tryd.pinned (.plain (OpenSpec.upto fnKidsLeftSpec)) fnKidsLeftUptoCard

/-- THE SECOND FORM's CARD OF 'laws.FnExactLenPipe'. -/
def fnExactLenPipeUptoCard : Claim7 := { stood := { row := fnExactLenPipeUptoRow, standIns := [], harness := (true, "167e4d36e1bc60f6d5ed3739e3d5e09f6b5bab75b6f9b2c84f393379c264b4c4"), looks := true }, kinds := [], alts := [], laidByText := true, laidKinds := [.data, .data, .data, .sentinel, .sentinel], laidTests := true, laidLooks := .later }
def FnExactLenPipeUptoCardSaid : Prop := Claim7.holds Tryd.pinned (.plain (OpenSpec.upto fnExactLenPipeSpec)) fnExactLenPipeUptoCard

/-- THE SECOND FORM's CARD OF 'laws.FnExactIsPipe'. -/
def fnExactIsPipeUptoCard : Claim7 := { stood := { row := fnExactIsPipeUptoRow, standIns := [], harness := (true, "167e4d36e1bc60f6d5ed3739e3d5e09f6b5bab75b6f9b2c84f393379c264b4c4"), looks := true }, kinds := [], alts := [], laidByText := true, laidKinds := [.data, .data, .data, .sentinel, .sentinel], laidTests := true, laidLooks := .later }
def FnExactIsPipeUptoCardSaid : Prop := Claim7.holds Tryd.pinned (.plain (OpenSpec.upto fnExactIsPipeSpec)) fnExactIsPipeUptoCard

/-- THE SECOND FORM's CARD OF 'laws.FnExactFileOf'. -/
def fnExactFileOfUptoCard : Claim7 := { stood := { row := fnExactFileOfUptoRow, standIns := [], harness := (true, "167e4d36e1bc60f6d5ed3739e3d5e09f6b5bab75b6f9b2c84f393379c264b4c4"), looks := true }, kinds := [], alts := [], laidByText := true, laidKinds := [.data, .data, .data, .sentinel, .sentinel], laidTests := true, laidLooks := .later }
def FnExactFileOfUptoCardSaid : Prop := Claim7.holds Tryd.pinned (.plain (OpenSpec.upto fnExactFileOfSpec)) fnExactFileOfUptoCard
end Rows
end Go.Proofs.YtjiplnaceiofmaaDoor
