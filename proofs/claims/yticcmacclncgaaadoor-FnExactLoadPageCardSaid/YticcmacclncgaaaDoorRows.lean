/-
  NARROWER THAN 'FOR EVERY INPUT', by the rows' own cells (each row's printed sentence says how): FnExactSetNum: laid · FnExactSetTimer: laid · FnExactStorePage: laid · FnExactDropPages: laid · FnExactPagesOf: laid · FnExactBlockOf: laid · FnExactLoadPage: laid · FnExactForkPages: laid · FnExactNumAt: laid · FnExactClockOf: laid · FnExactSizeFile: laid · FnExactStateOf: laid.
  DERIVED. THE GIVEN ROWS OF THIS SEAT. 12 by the template 'for every input the law returns true; each argument reads behind the call as it read before'; 0 by the template 'total and deterministic' (their statements: YticcmacclncgaaaDoorTotals.lean).
  GIVEN WITH THE SEED: the statements are not yours to turn. If you find one false, say at which input.
  Laid BY PROGRAM, IN A SANDBOX (cutbox-rows.mjs): the forced cells as the released guide's own fill.sh prints them over the translation 400abc8819fc7911… (all of the seat's roots in one cut). By AI agents, Wed Nov 11 2026. No macro, syntax, notation, axiom, sorry.
-/
import Derived.Test.YticcmacclncgaaaDoorChecked
import GoSem.Claim
import GoSem.ClaimJoined
import GoSem.ClaimMapViews
import Derived.JoinedTies
import Derived.KernelRfl
namespace Go.Proofs.YticcmacclncgaaaDoor
/- THE CELL 'sum', in the pinned program and in every row, IS THE sha256 OF THE DUMP (.gsa) THAT YticcmacclncgaaaDoorProg.lean LOADS. Nothing in Lean hashes anything: it is a label: what it is worth is what the hold of that sum in a sandbox is worth. -/
noncomputable def Tryd.pinned : Pinned := { name := "yticcmacclncgaaadoor", sum := "400abc8819fc7911bff7b2fbbe48695495fe780c78ffdf0487fa61a4d96dc364", checked := Tryd.checked }
namespace Rows
def none {H : Type} : Left H := { results := [], args := [] }

/- WHAT THE LISTED PACKAGE-LEVEL VARIABLES READ AS WHEN THE CALL BEGINS. Each datum BY PROGRAM (the guide's laid-datum.mjs) off the statement by which the dump's own 'gosem.cut.vars' lays the variable. In a bare row this is a premise. The card (YticcmacclncgaaaDoorCards.lean) ties it to the program's text. -/
def laid_math_bits_deBruijn32tab {H : Type} : DataW H := .agg [.lit (.int .u8 0), .lit (.int .u8 1), .lit (.int .u8 28), .lit (.int .u8 2), .lit (.int .u8 29), .lit (.int .u8 14), .lit (.int .u8 24), .lit (.int .u8 3), .lit (.int .u8 30), .lit (.int .u8 22), .lit (.int .u8 20), .lit (.int .u8 15), .lit (.int .u8 25), .lit (.int .u8 17), .lit (.int .u8 4), .lit (.int .u8 8), .lit (.int .u8 31), .lit (.int .u8 27), .lit (.int .u8 13), .lit (.int .u8 23), .lit (.int .u8 21), .lit (.int .u8 19), .lit (.int .u8 16), .lit (.int .u8 7), .lit (.int .u8 26), .lit (.int .u8 12), .lit (.int .u8 18), .lit (.int .u8 6), .lit (.int .u8 11), .lit (.int .u8 5), .lit (.int .u8 10), .lit (.int .u8 9)]
def laid_math_bits_deBruijn64tab {H : Type} : DataW H := .agg [.lit (.int .u8 0), .lit (.int .u8 1), .lit (.int .u8 56), .lit (.int .u8 2), .lit (.int .u8 57), .lit (.int .u8 49), .lit (.int .u8 28), .lit (.int .u8 3), .lit (.int .u8 61), .lit (.int .u8 58), .lit (.int .u8 42), .lit (.int .u8 50), .lit (.int .u8 38), .lit (.int .u8 29), .lit (.int .u8 17), .lit (.int .u8 4), .lit (.int .u8 62), .lit (.int .u8 47), .lit (.int .u8 59), .lit (.int .u8 36), .lit (.int .u8 45), .lit (.int .u8 43), .lit (.int .u8 51), .lit (.int .u8 22), .lit (.int .u8 53), .lit (.int .u8 39), .lit (.int .u8 33), .lit (.int .u8 30), .lit (.int .u8 24), .lit (.int .u8 18), .lit (.int .u8 12), .lit (.int .u8 5), .lit (.int .u8 63), .lit (.int .u8 55), .lit (.int .u8 48), .lit (.int .u8 27), .lit (.int .u8 60), .lit (.int .u8 41), .lit (.int .u8 37), .lit (.int .u8 16), .lit (.int .u8 46), .lit (.int .u8 35), .lit (.int .u8 44), .lit (.int .u8 21), .lit (.int .u8 52), .lit (.int .u8 32), .lit (.int .u8 23), .lit (.int .u8 11), .lit (.int .u8 54), .lit (.int .u8 26), .lit (.int .u8 40), .lit (.int .u8 15), .lit (.int .u8 34), .lit (.int .u8 20), .lit (.int .u8 31), .lit (.int .u8 10), .lit (.int .u8 25), .lit (.int .u8 14), .lit (.int .u8 19), .lit (.int .u8 9), .lit (.int .u8 13), .lit (.int .u8 8), .lit (.int .u8 7), .lit (.int .u8 6)]
def laid_internal_strconv_uint64pow10 {H : Type} : DataW H := .agg [.lit (.int .u64 1), .lit (.int .u64 10), .lit (.int .u64 100), .lit (.int .u64 1000), .lit (.int .u64 10000), .lit (.int .u64 100000), .lit (.int .u64 1000000), .lit (.int .u64 10000000), .lit (.int .u64 100000000), .lit (.int .u64 1000000000), .lit (.int .u64 10000000000), .lit (.int .u64 100000000000), .lit (.int .u64 1000000000000), .lit (.int .u64 10000000000000), .lit (.int .u64 100000000000000), .lit (.int .u64 1000000000000000), .lit (.int .u64 10000000000000000), .lit (.int .u64 100000000000000000), .lit (.int .u64 1000000000000000000), .lit (.int .u64 10000000000000000000)]
def laid_encoding_hex_ErrLength {H : Type} : DataW H := .iface "*errors.errorString" (.ptr (.agg [.lit (.string [101, 110, 99, 111, 100, 105, 110, 103, 47, 104, 101, 120, 58, 32, 111, 100, 100, 32, 108, 101, 110, 103, 116, 104, 32, 104, 101, 120, 32, 115, 116, 114, 105, 110, 103])]))
def laid_strconv_ErrRange {H : Type} : DataW H := .iface "*errors.errorString" (.ptr (.agg [.lit (.string [118, 97, 108, 117, 101, 32, 111, 117, 116, 32, 111, 102, 32, 114, 97, 110, 103, 101])]))
def laid_strconv_ErrSyntax {H : Type} : DataW H := .iface "*errors.errorString" (.ptr (.agg [.lit (.string [105, 110, 118, 97, 108, 105, 100, 32, 115, 121, 110, 116, 97, 120])]))

/-- 'laws.FnExactSetNum': WHATEVER THE INPUT: true; the input reads as it did. -/
def fnExactSetNumSpec : ChangeSpec := { name := "fnExactSetNum", fn := fun _ => fun
  | [d1, d2, d3] => { results := [.lit (.bool true)], args := [d1, d2, d3] }
  | _ => none }
def fnExactSetNumRow : OpenClaim := { program := "yticcmacclncgaaadoor", sum := "400abc8819fc7911bff7b2fbbe48695495fe780c78ffdf0487fa61a4d96dc364", func := "loop.example/g00974/laws.FnExactSetNum", spec := "fnExactSetNum", inPlace := ["slices.overlaps[string]", "slices.overlaps[loop.example/g00974/impl.Cell]"], unfollowed := true, recurses := true, named := ["internal/strconv.uint64pow10", "math/bits.deBruijn32tab", "math/bits.deBruijn64tab"], apart := false, laid := [("math/bits.deBruijn32tab", laid_math_bits_deBruijn32tab), ("math/bits.deBruijn64tab", laid_math_bits_deBruijn64tab), ("internal/strconv.uint64pow10", laid_internal_strconv_uint64pow10)] }
def FnExactSetNumSaid : Prop := fnExactSetNumRow.holds Tryd.pinned (OpenSpec.ofChange fnExactSetNumSpec)

/-- ITS FALSE NEIGHBOUR: 'it returns false'. Refute it at one input. -/
def fnExactSetNumWrong : ChangeSpec := { name := "fnExactSetNum", fn := fun _ => fun
  | [d1, d2, d3] => { results := [.lit (.bool false)], args := [d1, d2, d3] }
  | _ => none }
def FnExactSetNumWrongFalsely : Prop := fnExactSetNumRow.holds Tryd.pinned (OpenSpec.ofChange fnExactSetNumWrong)

/-- 'laws.FnExactSetTimer': WHATEVER THE INPUT: true; the input reads as it did. -/
def fnExactSetTimerSpec : ChangeSpec := { name := "fnExactSetTimer", fn := fun _ => fun
  | [d1, d2, d3] => { results := [.lit (.bool true)], args := [d1, d2, d3] }
  | _ => none }
def fnExactSetTimerRow : OpenClaim := { program := "yticcmacclncgaaadoor", sum := "400abc8819fc7911bff7b2fbbe48695495fe780c78ffdf0487fa61a4d96dc364", func := "loop.example/g00974/laws.FnExactSetTimer", spec := "fnExactSetTimer", inPlace := ["slices.overlaps[string]", "slices.overlaps[loop.example/g00974/impl.Cell]"], unfollowed := true, recurses := true, named := ["internal/strconv.uint64pow10", "math/bits.deBruijn32tab", "math/bits.deBruijn64tab"], apart := false, laid := [("math/bits.deBruijn32tab", laid_math_bits_deBruijn32tab), ("math/bits.deBruijn64tab", laid_math_bits_deBruijn64tab), ("internal/strconv.uint64pow10", laid_internal_strconv_uint64pow10)] }
def FnExactSetTimerSaid : Prop := fnExactSetTimerRow.holds Tryd.pinned (OpenSpec.ofChange fnExactSetTimerSpec)

/-- ITS FALSE NEIGHBOUR: 'it returns false'. Refute it at one input. -/
def fnExactSetTimerWrong : ChangeSpec := { name := "fnExactSetTimer", fn := fun _ => fun
  | [d1, d2, d3] => { results := [.lit (.bool false)], args := [d1, d2, d3] }
  | _ => none }
def FnExactSetTimerWrongFalsely : Prop := fnExactSetTimerRow.holds Tryd.pinned (OpenSpec.ofChange fnExactSetTimerWrong)

/-- 'laws.FnExactStorePage': WHATEVER THE INPUT: true; the input reads as it did. -/
def fnExactStorePageSpec : ChangeSpec := { name := "fnExactStorePage", fn := fun _ => fun
  | [d1, d2, d3, d4] => { results := [.lit (.bool true)], args := [d1, d2, d3, d4] }
  | _ => none }
def fnExactStorePageRow : OpenClaim := { program := "yticcmacclncgaaadoor", sum := "400abc8819fc7911bff7b2fbbe48695495fe780c78ffdf0487fa61a4d96dc364", func := "loop.example/g00974/laws.FnExactStorePage", spec := "fnExactStorePage", inPlace := ["slices.overlaps[string]", "slices.overlaps[loop.example/g00974/impl.Cell]"], unfollowed := true, recurses := true, named := ["internal/strconv.uint64pow10", "math/bits.deBruijn32tab", "math/bits.deBruijn64tab"], apart := false, laid := [("math/bits.deBruijn32tab", laid_math_bits_deBruijn32tab), ("math/bits.deBruijn64tab", laid_math_bits_deBruijn64tab), ("internal/strconv.uint64pow10", laid_internal_strconv_uint64pow10)] }
def FnExactStorePageSaid : Prop := fnExactStorePageRow.holds Tryd.pinned (OpenSpec.ofChange fnExactStorePageSpec)

/-- ITS FALSE NEIGHBOUR: 'it returns false'. Refute it at one input. -/
def fnExactStorePageWrong : ChangeSpec := { name := "fnExactStorePage", fn := fun _ => fun
  | [d1, d2, d3, d4] => { results := [.lit (.bool false)], args := [d1, d2, d3, d4] }
  | _ => none }
def FnExactStorePageWrongFalsely : Prop := fnExactStorePageRow.holds Tryd.pinned (OpenSpec.ofChange fnExactStorePageWrong)

/-- 'laws.FnExactDropPages': WHATEVER THE INPUT: true; the input reads as it did. -/
def fnExactDropPagesSpec : ChangeSpec := { name := "fnExactDropPages", fn := fun _ => fun
  | [d1, d2] => { results := [.lit (.bool true)], args := [d1, d2] }
  | _ => none }
def fnExactDropPagesRow : OpenClaim := { program := "yticcmacclncgaaadoor", sum := "400abc8819fc7911bff7b2fbbe48695495fe780c78ffdf0487fa61a4d96dc364", func := "loop.example/g00974/laws.FnExactDropPages", spec := "fnExactDropPages", inPlace := ["slices.overlaps[string]", "slices.overlaps[loop.example/g00974/impl.Cell]"], unfollowed := true, recurses := true, named := ["internal/strconv.uint64pow10", "math/bits.deBruijn32tab", "math/bits.deBruijn64tab"], apart := false, laid := [("math/bits.deBruijn32tab", laid_math_bits_deBruijn32tab), ("math/bits.deBruijn64tab", laid_math_bits_deBruijn64tab), ("internal/strconv.uint64pow10", laid_internal_strconv_uint64pow10)] }
def FnExactDropPagesSaid : Prop := fnExactDropPagesRow.holds Tryd.pinned (OpenSpec.ofChange fnExactDropPagesSpec)

/-- ITS FALSE NEIGHBOUR: 'it returns false'. Refute it at one input. -/
def fnExactDropPagesWrong : ChangeSpec := { name := "fnExactDropPages", fn := fun _ => fun
  | [d1, d2] => { results := [.lit (.bool false)], args := [d1, d2] }
  | _ => none }
def FnExactDropPagesWrongFalsely : Prop := fnExactDropPagesRow.holds Tryd.pinned (OpenSpec.ofChange fnExactDropPagesWrong)

/-- 'laws.FnExactPagesOf': WHATEVER THE INPUT: true; the input reads as it did. -/
def fnExactPagesOfSpec : ChangeSpec := { name := "fnExactPagesOf", fn := fun _ => fun
  | [d1, d2] => { results := [.lit (.bool true)], args := [d1, d2] }
  | _ => none }
def fnExactPagesOfRow : OpenClaim := { program := "yticcmacclncgaaadoor", sum := "400abc8819fc7911bff7b2fbbe48695495fe780c78ffdf0487fa61a4d96dc364", func := "loop.example/g00974/laws.FnExactPagesOf", spec := "fnExactPagesOf", inPlace := ["slices.overlaps[string]"], unfollowed := true, recurses := true, named := ["internal/strconv.uint64pow10", "math/bits.deBruijn32tab", "math/bits.deBruijn64tab"], apart := false, laid := [("math/bits.deBruijn32tab", laid_math_bits_deBruijn32tab), ("math/bits.deBruijn64tab", laid_math_bits_deBruijn64tab), ("internal/strconv.uint64pow10", laid_internal_strconv_uint64pow10)] }
def FnExactPagesOfSaid : Prop := fnExactPagesOfRow.holds Tryd.pinned (OpenSpec.ofChange fnExactPagesOfSpec)

/-- ITS FALSE NEIGHBOUR: 'it returns false'. Refute it at one input. -/
def fnExactPagesOfWrong : ChangeSpec := { name := "fnExactPagesOf", fn := fun _ => fun
  | [d1, d2] => { results := [.lit (.bool false)], args := [d1, d2] }
  | _ => none }
def FnExactPagesOfWrongFalsely : Prop := fnExactPagesOfRow.holds Tryd.pinned (OpenSpec.ofChange fnExactPagesOfWrong)

/-- 'laws.FnExactBlockOf': WHATEVER THE INPUT: true; the input reads as it did. -/
def fnExactBlockOfSpec : ChangeSpec := { name := "fnExactBlockOf", fn := fun _ => fun
  | [d1, d2, d3] => { results := [.lit (.bool true)], args := [d1, d2, d3] }
  | _ => none }
def fnExactBlockOfRow : OpenClaim := { program := "yticcmacclncgaaadoor", sum := "400abc8819fc7911bff7b2fbbe48695495fe780c78ffdf0487fa61a4d96dc364", func := "loop.example/g00974/laws.FnExactBlockOf", spec := "fnExactBlockOf", inPlace := ["slices.overlaps[string]"], unfollowed := true, recurses := true, named := ["internal/strconv.uint64pow10", "math/bits.deBruijn32tab", "math/bits.deBruijn64tab", "encoding/hex.ErrLength"], apart := false, laid := [("math/bits.deBruijn32tab", laid_math_bits_deBruijn32tab), ("math/bits.deBruijn64tab", laid_math_bits_deBruijn64tab), ("internal/strconv.uint64pow10", laid_internal_strconv_uint64pow10), ("encoding/hex.ErrLength", laid_encoding_hex_ErrLength)] }
def FnExactBlockOfSaid : Prop := fnExactBlockOfRow.holds Tryd.pinned (OpenSpec.ofChange fnExactBlockOfSpec)

/-- ITS FALSE NEIGHBOUR: 'it returns false'. Refute it at one input. -/
def fnExactBlockOfWrong : ChangeSpec := { name := "fnExactBlockOf", fn := fun _ => fun
  | [d1, d2, d3] => { results := [.lit (.bool false)], args := [d1, d2, d3] }
  | _ => none }
def FnExactBlockOfWrongFalsely : Prop := fnExactBlockOfRow.holds Tryd.pinned (OpenSpec.ofChange fnExactBlockOfWrong)

/-- 'laws.FnExactLoadPage': WHATEVER THE INPUT: true; the input reads as it did. -/
def fnExactLoadPageSpec : ChangeSpec := { name := "fnExactLoadPage", fn := fun _ => fun
  | [d1, d2, d3] => { results := [.lit (.bool true)], args := [d1, d2, d3] }
  | _ => none }
def fnExactLoadPageRow : OpenClaim := { program := "yticcmacclncgaaadoor", sum := "400abc8819fc7911bff7b2fbbe48695495fe780c78ffdf0487fa61a4d96dc364", func := "loop.example/g00974/laws.FnExactLoadPage", spec := "fnExactLoadPage", inPlace := ["slices.overlaps[string]"], unfollowed := true, recurses := true, named := ["internal/strconv.uint64pow10", "math/bits.deBruijn32tab", "math/bits.deBruijn64tab", "encoding/hex.ErrLength"], apart := false, laid := [("math/bits.deBruijn32tab", laid_math_bits_deBruijn32tab), ("math/bits.deBruijn64tab", laid_math_bits_deBruijn64tab), ("internal/strconv.uint64pow10", laid_internal_strconv_uint64pow10), ("encoding/hex.ErrLength", laid_encoding_hex_ErrLength)] }
def FnExactLoadPageSaid : Prop := fnExactLoadPageRow.holds Tryd.pinned (OpenSpec.ofChange fnExactLoadPageSpec)

/-- ITS FALSE NEIGHBOUR: 'it returns false'. Refute it at one input. -/
def fnExactLoadPageWrong : ChangeSpec := { name := "fnExactLoadPage", fn := fun _ => fun
  | [d1, d2, d3] => { results := [.lit (.bool false)], args := [d1, d2, d3] }
  | _ => none }
def FnExactLoadPageWrongFalsely : Prop := fnExactLoadPageRow.holds Tryd.pinned (OpenSpec.ofChange fnExactLoadPageWrong)

/-- 'laws.FnExactForkPages': WHATEVER THE INPUT: true; the input reads as it did. -/
def fnExactForkPagesSpec : ChangeSpec := { name := "fnExactForkPages", fn := fun _ => fun
  | [d1, d2, d3] => { results := [.lit (.bool true)], args := [d1, d2, d3] }
  | _ => none }
def fnExactForkPagesRow : OpenClaim := { program := "yticcmacclncgaaadoor", sum := "400abc8819fc7911bff7b2fbbe48695495fe780c78ffdf0487fa61a4d96dc364", func := "loop.example/g00974/laws.FnExactForkPages", spec := "fnExactForkPages", inPlace := ["slices.overlaps[string]", "slices.overlaps[loop.example/g00974/impl.Cell]"], unfollowed := true, recurses := true, named := ["internal/strconv.uint64pow10", "math/bits.deBruijn32tab", "math/bits.deBruijn64tab"], apart := false, laid := [("math/bits.deBruijn32tab", laid_math_bits_deBruijn32tab), ("math/bits.deBruijn64tab", laid_math_bits_deBruijn64tab), ("internal/strconv.uint64pow10", laid_internal_strconv_uint64pow10)] }
def FnExactForkPagesSaid : Prop := fnExactForkPagesRow.holds Tryd.pinned (OpenSpec.ofChange fnExactForkPagesSpec)

/-- ITS FALSE NEIGHBOUR: 'it returns false'. Refute it at one input. -/
def fnExactForkPagesWrong : ChangeSpec := { name := "fnExactForkPages", fn := fun _ => fun
  | [d1, d2, d3] => { results := [.lit (.bool false)], args := [d1, d2, d3] }
  | _ => none }
def FnExactForkPagesWrongFalsely : Prop := fnExactForkPagesRow.holds Tryd.pinned (OpenSpec.ofChange fnExactForkPagesWrong)

/-- 'laws.FnExactNumAt': WHATEVER THE INPUT: true; the input reads as it did. -/
def fnExactNumAtSpec : ChangeSpec := { name := "fnExactNumAt", fn := fun _ => fun
  | [d1, d2] => { results := [.lit (.bool true)], args := [d1, d2] }
  | _ => none }
def fnExactNumAtRow : OpenClaim := { program := "yticcmacclncgaaadoor", sum := "400abc8819fc7911bff7b2fbbe48695495fe780c78ffdf0487fa61a4d96dc364", func := "loop.example/g00974/laws.FnExactNumAt", spec := "fnExactNumAt", inPlace := ["slices.overlaps[string]"], unfollowed := true, recurses := true, named := ["strconv.ErrSyntax", "strconv.ErrRange", "internal/strconv.uint64pow10", "math/bits.deBruijn32tab", "math/bits.deBruijn64tab"], apart := false, laid := [("math/bits.deBruijn32tab", laid_math_bits_deBruijn32tab), ("math/bits.deBruijn64tab", laid_math_bits_deBruijn64tab), ("internal/strconv.uint64pow10", laid_internal_strconv_uint64pow10), ("strconv.ErrRange", laid_strconv_ErrRange), ("strconv.ErrSyntax", laid_strconv_ErrSyntax)] }
def FnExactNumAtSaid : Prop := fnExactNumAtRow.holds Tryd.pinned (OpenSpec.ofChange fnExactNumAtSpec)

/-- ITS FALSE NEIGHBOUR: 'it returns false'. Refute it at one input. -/
def fnExactNumAtWrong : ChangeSpec := { name := "fnExactNumAt", fn := fun _ => fun
  | [d1, d2] => { results := [.lit (.bool false)], args := [d1, d2] }
  | _ => none }
def FnExactNumAtWrongFalsely : Prop := fnExactNumAtRow.holds Tryd.pinned (OpenSpec.ofChange fnExactNumAtWrong)

/-- 'laws.FnExactClockOf': WHATEVER THE INPUT: true; the input reads as it did. -/
def fnExactClockOfSpec : ChangeSpec := { name := "fnExactClockOf", fn := fun _ => fun
  | [d] => { results := [.lit (.bool true)], args := [d] }
  | _ => none }
def fnExactClockOfRow : OpenClaim := { program := "yticcmacclncgaaadoor", sum := "400abc8819fc7911bff7b2fbbe48695495fe780c78ffdf0487fa61a4d96dc364", func := "loop.example/g00974/laws.FnExactClockOf", spec := "fnExactClockOf", inPlace := ["slices.overlaps[string]"], unfollowed := true, recurses := true, named := ["strconv.ErrSyntax", "strconv.ErrRange", "internal/strconv.uint64pow10", "math/bits.deBruijn32tab", "math/bits.deBruijn64tab"], apart := false, laid := [("math/bits.deBruijn32tab", laid_math_bits_deBruijn32tab), ("math/bits.deBruijn64tab", laid_math_bits_deBruijn64tab), ("internal/strconv.uint64pow10", laid_internal_strconv_uint64pow10), ("strconv.ErrRange", laid_strconv_ErrRange), ("strconv.ErrSyntax", laid_strconv_ErrSyntax)] }
def FnExactClockOfSaid : Prop := fnExactClockOfRow.holds Tryd.pinned (OpenSpec.ofChange fnExactClockOfSpec)

/-- ITS FALSE NEIGHBOUR: 'it returns false'. Refute it at one input. -/
def fnExactClockOfWrong : ChangeSpec := { name := "fnExactClockOf", fn := fun _ => fun
  | [d] => { results := [.lit (.bool false)], args := [d] }
  | _ => none }
def FnExactClockOfWrongFalsely : Prop := fnExactClockOfRow.holds Tryd.pinned (OpenSpec.ofChange fnExactClockOfWrong)

/-- 'laws.FnExactSizeFile': WHATEVER THE INPUT: true; the input reads as it did. -/
def fnExactSizeFileSpec : ChangeSpec := { name := "fnExactSizeFile", fn := fun _ => fun
  | [d1, d2] => { results := [.lit (.bool true)], args := [d1, d2] }
  | _ => none }
def fnExactSizeFileRow : OpenClaim := { program := "yticcmacclncgaaadoor", sum := "400abc8819fc7911bff7b2fbbe48695495fe780c78ffdf0487fa61a4d96dc364", func := "loop.example/g00974/laws.FnExactSizeFile", spec := "fnExactSizeFile", inPlace := ["slices.overlaps[string]"], unfollowed := true, recurses := true, named := ["internal/strconv.uint64pow10", "math/bits.deBruijn32tab", "math/bits.deBruijn64tab", "strconv.ErrSyntax", "strconv.ErrRange"], apart := false, laid := [("math/bits.deBruijn32tab", laid_math_bits_deBruijn32tab), ("math/bits.deBruijn64tab", laid_math_bits_deBruijn64tab), ("internal/strconv.uint64pow10", laid_internal_strconv_uint64pow10), ("strconv.ErrRange", laid_strconv_ErrRange), ("strconv.ErrSyntax", laid_strconv_ErrSyntax)] }
def FnExactSizeFileSaid : Prop := fnExactSizeFileRow.holds Tryd.pinned (OpenSpec.ofChange fnExactSizeFileSpec)

/-- ITS FALSE NEIGHBOUR: 'it returns false'. Refute it at one input. -/
def fnExactSizeFileWrong : ChangeSpec := { name := "fnExactSizeFile", fn := fun _ => fun
  | [d1, d2] => { results := [.lit (.bool false)], args := [d1, d2] }
  | _ => none }
def FnExactSizeFileWrongFalsely : Prop := fnExactSizeFileRow.holds Tryd.pinned (OpenSpec.ofChange fnExactSizeFileWrong)

/-- 'laws.FnExactStateOf': WHATEVER THE INPUT: true; the input reads as it did. -/
def fnExactStateOfSpec : ChangeSpec := { name := "fnExactStateOf", fn := fun _ => fun
  | [d1, d2] => { results := [.lit (.bool true)], args := [d1, d2] }
  | _ => none }
def fnExactStateOfRow : OpenClaim := { program := "yticcmacclncgaaadoor", sum := "400abc8819fc7911bff7b2fbbe48695495fe780c78ffdf0487fa61a4d96dc364", func := "loop.example/g00974/laws.FnExactStateOf", spec := "fnExactStateOf", inPlace := ["slices.overlaps[string]"], unfollowed := true, recurses := true, named := ["internal/strconv.uint64pow10", "math/bits.deBruijn32tab", "math/bits.deBruijn64tab", "strconv.ErrSyntax", "strconv.ErrRange"], apart := false, laid := [("math/bits.deBruijn32tab", laid_math_bits_deBruijn32tab), ("math/bits.deBruijn64tab", laid_math_bits_deBruijn64tab), ("internal/strconv.uint64pow10", laid_internal_strconv_uint64pow10), ("strconv.ErrRange", laid_strconv_ErrRange), ("strconv.ErrSyntax", laid_strconv_ErrSyntax)] }
def FnExactStateOfSaid : Prop := fnExactStateOfRow.holds Tryd.pinned (OpenSpec.ofChange fnExactStateOfSpec)

/-- ITS FALSE NEIGHBOUR: 'it returns false'. Refute it at one input. -/
def fnExactStateOfWrong : ChangeSpec := { name := "fnExactStateOf", fn := fun _ => fun
  | [d1, d2] => { results := [.lit (.bool false)], args := [d1, d2] }
  | _ => none }
def FnExactStateOfWrongFalsely : Prop := fnExactStateOfRow.holds Tryd.pinned (OpenSpec.ofChange fnExactStateOfWrong)

/- THE SECOND FORM. 'bulk': how many values and letters a reading holds, each counted each time it is reached (what is shared counts as often as it is met; a slice's spare places count too). A statement '..UptoSaid' is the law's where the arguments, and the package variables that the reading takes, are together of bulk at most 1048576: NARROWER than '..Said'. Prove '..Said' where nothing that the law and all that it calls make is longer than what came in: it says more and counts as full. Else prove '..UptoSaid'. A law counts once. -/
mutual
def uptoBulk {H : Type} : DataW H → Nat
  | .lit (.string bytes) => bytes.length + 1
  | .lit _ => 1
  | .nil => 1
  | .ptr d => uptoBulk d + 1
  | .slice elems spare => uptoBulkAll elems + uptoBulkAll spare + 1
  | .agg parts => uptoBulkAll parts + 1
  | .iface _ d => uptoBulk d + 1
  | .map entries => uptoBulkEntries entries + 1
  | .held _ => 1
def uptoBulkAll {H : Type} : List (DataW H) → Nat
  | [] => 0
  | d :: r => uptoBulk d + uptoBulkAll r
def uptoBulkEntries {H : Type} : List (Lit × DataW H) → Nat
  | [] => 0
  | x :: r => uptoBulkEntry x + uptoBulkEntries r
def uptoBulkEntry {H : Type} : Lit × DataW H → Nat
  | (.string bytes, d) => bytes.length + uptoBulk d + 1
  | (_, d) => uptoBulk d + 1
 end
def uptoSmall : (H : Type) → List (DataW H) → Bool := fun _ ds => decide (uptoBulkAll ds ≤ 1048576)
def OpenSpec.upto (s : _root_.Go.ChangeSpec) : _root_.Go.OpenSpec := { _root_.Go.OpenSpec.ofChange s with cond := some uptoSmall }

/-- 'laws.FnExactSetNum', WHERE WHAT IT READS IS OF BULK AT MOST 1048576: true; the input reads as it did. -/
def fnExactSetNumUptoRow : OpenClaim := { program := "yticcmacclncgaaadoor", sum := "400abc8819fc7911bff7b2fbbe48695495fe780c78ffdf0487fa61a4d96dc364", func := "loop.example/g00974/laws.FnExactSetNum", spec := "fnExactSetNum", inPlace := ["slices.overlaps[string]", "slices.overlaps[loop.example/g00974/impl.Cell]"], unfollowed := true, recurses := true, named := ["internal/strconv.uint64pow10", "math/bits.deBruijn32tab", "math/bits.deBruijn64tab"], apart := false, laid := [("math/bits.deBruijn32tab", laid_math_bits_deBruijn32tab), ("math/bits.deBruijn64tab", laid_math_bits_deBruijn64tab), ("internal/strconv.uint64pow10", laid_internal_strconv_uint64pow10)], narrowed := true }
def FnExactSetNumUptoSaid : Prop := fnExactSetNumUptoRow.holds Tryd.pinned (OpenSpec.upto fnExactSetNumSpec)

/-- 'laws.FnExactSetTimer', WHERE WHAT IT READS IS OF BULK AT MOST 1048576: true; the input reads as it did. -/
def fnExactSetTimerUptoRow : OpenClaim := { program := "yticcmacclncgaaadoor", sum := "400abc8819fc7911bff7b2fbbe48695495fe780c78ffdf0487fa61a4d96dc364", func := "loop.example/g00974/laws.FnExactSetTimer", spec := "fnExactSetTimer", inPlace := ["slices.overlaps[string]", "slices.overlaps[loop.example/g00974/impl.Cell]"], unfollowed := true, recurses := true, named := ["internal/strconv.uint64pow10", "math/bits.deBruijn32tab", "math/bits.deBruijn64tab"], apart := false, laid := [("math/bits.deBruijn32tab", laid_math_bits_deBruijn32tab), ("math/bits.deBruijn64tab", laid_math_bits_deBruijn64tab), ("internal/strconv.uint64pow10", laid_internal_strconv_uint64pow10)], narrowed := true }
def FnExactSetTimerUptoSaid : Prop := fnExactSetTimerUptoRow.holds Tryd.pinned (OpenSpec.upto fnExactSetTimerSpec)

/-- 'laws.FnExactStorePage', WHERE WHAT IT READS IS OF BULK AT MOST 1048576: true; the input reads as it did. -/
def fnExactStorePageUptoRow : OpenClaim := { program := "yticcmacclncgaaadoor", sum := "400abc8819fc7911bff7b2fbbe48695495fe780c78ffdf0487fa61a4d96dc364", func := "loop.example/g00974/laws.FnExactStorePage", spec := "fnExactStorePage", inPlace := ["slices.overlaps[string]", "slices.overlaps[loop.example/g00974/impl.Cell]"], unfollowed := true, recurses := true, named := ["internal/strconv.uint64pow10", "math/bits.deBruijn32tab", "math/bits.deBruijn64tab"], apart := false, laid := [("math/bits.deBruijn32tab", laid_math_bits_deBruijn32tab), ("math/bits.deBruijn64tab", laid_math_bits_deBruijn64tab), ("internal/strconv.uint64pow10", laid_internal_strconv_uint64pow10)], narrowed := true }
def FnExactStorePageUptoSaid : Prop := fnExactStorePageUptoRow.holds Tryd.pinned (OpenSpec.upto fnExactStorePageSpec)

/-- 'laws.FnExactDropPages', WHERE WHAT IT READS IS OF BULK AT MOST 1048576: true; the input reads as it did. -/
def fnExactDropPagesUptoRow : OpenClaim := { program := "yticcmacclncgaaadoor", sum := "400abc8819fc7911bff7b2fbbe48695495fe780c78ffdf0487fa61a4d96dc364", func := "loop.example/g00974/laws.FnExactDropPages", spec := "fnExactDropPages", inPlace := ["slices.overlaps[string]", "slices.overlaps[loop.example/g00974/impl.Cell]"], unfollowed := true, recurses := true, named := ["internal/strconv.uint64pow10", "math/bits.deBruijn32tab", "math/bits.deBruijn64tab"], apart := false, laid := [("math/bits.deBruijn32tab", laid_math_bits_deBruijn32tab), ("math/bits.deBruijn64tab", laid_math_bits_deBruijn64tab), ("internal/strconv.uint64pow10", laid_internal_strconv_uint64pow10)], narrowed := true }
def FnExactDropPagesUptoSaid : Prop := fnExactDropPagesUptoRow.holds Tryd.pinned (OpenSpec.upto fnExactDropPagesSpec)

/-- 'laws.FnExactPagesOf', WHERE WHAT IT READS IS OF BULK AT MOST 1048576: true; the input reads as it did. -/
def fnExactPagesOfUptoRow : OpenClaim := { program := "yticcmacclncgaaadoor", sum := "400abc8819fc7911bff7b2fbbe48695495fe780c78ffdf0487fa61a4d96dc364", func := "loop.example/g00974/laws.FnExactPagesOf", spec := "fnExactPagesOf", inPlace := ["slices.overlaps[string]"], unfollowed := true, recurses := true, named := ["internal/strconv.uint64pow10", "math/bits.deBruijn32tab", "math/bits.deBruijn64tab"], apart := false, laid := [("math/bits.deBruijn32tab", laid_math_bits_deBruijn32tab), ("math/bits.deBruijn64tab", laid_math_bits_deBruijn64tab), ("internal/strconv.uint64pow10", laid_internal_strconv_uint64pow10)], narrowed := true }
def FnExactPagesOfUptoSaid : Prop := fnExactPagesOfUptoRow.holds Tryd.pinned (OpenSpec.upto fnExactPagesOfSpec)

/-- 'laws.FnExactBlockOf', WHERE WHAT IT READS IS OF BULK AT MOST 1048576: true; the input reads as it did. -/
def fnExactBlockOfUptoRow : OpenClaim := { program := "yticcmacclncgaaadoor", sum := "400abc8819fc7911bff7b2fbbe48695495fe780c78ffdf0487fa61a4d96dc364", func := "loop.example/g00974/laws.FnExactBlockOf", spec := "fnExactBlockOf", inPlace := ["slices.overlaps[string]"], unfollowed := true, recurses := true, named := ["internal/strconv.uint64pow10", "math/bits.deBruijn32tab", "math/bits.deBruijn64tab", "encoding/hex.ErrLength"], apart := false, laid := [("math/bits.deBruijn32tab", laid_math_bits_deBruijn32tab), ("math/bits.deBruijn64tab", laid_math_bits_deBruijn64tab), ("internal/strconv.uint64pow10", laid_internal_strconv_uint64pow10), ("encoding/hex.ErrLength", laid_encoding_hex_ErrLength)], narrowed := true }
def FnExactBlockOfUptoSaid : Prop := fnExactBlockOfUptoRow.holds Tryd.pinned (OpenSpec.upto fnExactBlockOfSpec)

/-- 'laws.FnExactLoadPage', WHERE WHAT IT READS IS OF BULK AT MOST 1048576: true; the input reads as it did. -/
def fnExactLoadPageUptoRow : OpenClaim := { program := "yticcmacclncgaaadoor", sum := "400abc8819fc7911bff7b2fbbe48695495fe780c78ffdf0487fa61a4d96dc364", func := "loop.example/g00974/laws.FnExactLoadPage", spec := "fnExactLoadPage", inPlace := ["slices.overlaps[string]"], unfollowed := true, recurses := true, named := ["internal/strconv.uint64pow10", "math/bits.deBruijn32tab", "math/bits.deBruijn64tab", "encoding/hex.ErrLength"], apart := false, laid := [("math/bits.deBruijn32tab", laid_math_bits_deBruijn32tab), ("math/bits.deBruijn64tab", laid_math_bits_deBruijn64tab), ("internal/strconv.uint64pow10", laid_internal_strconv_uint64pow10), ("encoding/hex.ErrLength", laid_encoding_hex_ErrLength)], narrowed := true }
def FnExactLoadPageUptoSaid : Prop := fnExactLoadPageUptoRow.holds Tryd.pinned (OpenSpec.upto fnExactLoadPageSpec)

/-- 'laws.FnExactForkPages', WHERE WHAT IT READS IS OF BULK AT MOST 1048576: true; the input reads as it did. -/
def fnExactForkPagesUptoRow : OpenClaim := { program := "yticcmacclncgaaadoor", sum := "400abc8819fc7911bff7b2fbbe48695495fe780c78ffdf0487fa61a4d96dc364", func := "loop.example/g00974/laws.FnExactForkPages", spec := "fnExactForkPages", inPlace := ["slices.overlaps[string]", "slices.overlaps[loop.example/g00974/impl.Cell]"], unfollowed := true, recurses := true, named := ["internal/strconv.uint64pow10", "math/bits.deBruijn32tab", "math/bits.deBruijn64tab"], apart := false, laid := [("math/bits.deBruijn32tab", laid_math_bits_deBruijn32tab), ("math/bits.deBruijn64tab", laid_math_bits_deBruijn64tab), ("internal/strconv.uint64pow10", laid_internal_strconv_uint64pow10)], narrowed := true }
def FnExactForkPagesUptoSaid : Prop := fnExactForkPagesUptoRow.holds Tryd.pinned (OpenSpec.upto fnExactForkPagesSpec)

/-- 'laws.FnExactNumAt', WHERE WHAT IT READS IS OF BULK AT MOST 1048576: true; the input reads as it did. -/
def fnExactNumAtUptoRow : OpenClaim := { program := "yticcmacclncgaaadoor", sum := "400abc8819fc7911bff7b2fbbe48695495fe780c78ffdf0487fa61a4d96dc364", func := "loop.example/g00974/laws.FnExactNumAt", spec := "fnExactNumAt", inPlace := ["slices.overlaps[string]"], unfollowed := true, recurses := true, named := ["strconv.ErrSyntax", "strconv.ErrRange", "internal/strconv.uint64pow10", "math/bits.deBruijn32tab", "math/bits.deBruijn64tab"], apart := false, laid := [("math/bits.deBruijn32tab", laid_math_bits_deBruijn32tab), ("math/bits.deBruijn64tab", laid_math_bits_deBruijn64tab), ("internal/strconv.uint64pow10", laid_internal_strconv_uint64pow10), ("strconv.ErrRange", laid_strconv_ErrRange), ("strconv.ErrSyntax", laid_strconv_ErrSyntax)], narrowed := true }
def FnExactNumAtUptoSaid : Prop := fnExactNumAtUptoRow.holds Tryd.pinned (OpenSpec.upto fnExactNumAtSpec)

/-- 'laws.FnExactClockOf', WHERE WHAT IT READS IS OF BULK AT MOST 1048576: true; the input reads as it did. -/
def fnExactClockOfUptoRow : OpenClaim := { program := "yticcmacclncgaaadoor", sum := "400abc8819fc7911bff7b2fbbe48695495fe780c78ffdf0487fa61a4d96dc364", func := "loop.example/g00974/laws.FnExactClockOf", spec := "fnExactClockOf", inPlace := ["slices.overlaps[string]"], unfollowed := true, recurses := true, named := ["strconv.ErrSyntax", "strconv.ErrRange", "internal/strconv.uint64pow10", "math/bits.deBruijn32tab", "math/bits.deBruijn64tab"], apart := false, laid := [("math/bits.deBruijn32tab", laid_math_bits_deBruijn32tab), ("math/bits.deBruijn64tab", laid_math_bits_deBruijn64tab), ("internal/strconv.uint64pow10", laid_internal_strconv_uint64pow10), ("strconv.ErrRange", laid_strconv_ErrRange), ("strconv.ErrSyntax", laid_strconv_ErrSyntax)], narrowed := true }
def FnExactClockOfUptoSaid : Prop := fnExactClockOfUptoRow.holds Tryd.pinned (OpenSpec.upto fnExactClockOfSpec)

/-- 'laws.FnExactSizeFile', WHERE WHAT IT READS IS OF BULK AT MOST 1048576: true; the input reads as it did. -/
def fnExactSizeFileUptoRow : OpenClaim := { program := "yticcmacclncgaaadoor", sum := "400abc8819fc7911bff7b2fbbe48695495fe780c78ffdf0487fa61a4d96dc364", func := "loop.example/g00974/laws.FnExactSizeFile", spec := "fnExactSizeFile", inPlace := ["slices.overlaps[string]"], unfollowed := true, recurses := true, named := ["internal/strconv.uint64pow10", "math/bits.deBruijn32tab", "math/bits.deBruijn64tab", "strconv.ErrSyntax", "strconv.ErrRange"], apart := false, laid := [("math/bits.deBruijn32tab", laid_math_bits_deBruijn32tab), ("math/bits.deBruijn64tab", laid_math_bits_deBruijn64tab), ("internal/strconv.uint64pow10", laid_internal_strconv_uint64pow10), ("strconv.ErrRange", laid_strconv_ErrRange), ("strconv.ErrSyntax", laid_strconv_ErrSyntax)], narrowed := true }
def FnExactSizeFileUptoSaid : Prop := fnExactSizeFileUptoRow.holds Tryd.pinned (OpenSpec.upto fnExactSizeFileSpec)

/-- 'laws.FnExactStateOf', WHERE WHAT IT READS IS OF BULK AT MOST 1048576: true; the input reads as it did. -/
def fnExactStateOfUptoRow : OpenClaim := { program := "yticcmacclncgaaadoor", sum := "400abc8819fc7911bff7b2fbbe48695495fe780c78ffdf0487fa61a4d96dc364", func := "loop.example/g00974/laws.FnExactStateOf", spec := "fnExactStateOf", inPlace := ["slices.overlaps[string]"], unfollowed := true, recurses := true, named := ["internal/strconv.uint64pow10", "math/bits.deBruijn32tab", "math/bits.deBruijn64tab", "strconv.ErrSyntax", "strconv.ErrRange"], apart := false, laid := [("math/bits.deBruijn32tab", laid_math_bits_deBruijn32tab), ("math/bits.deBruijn64tab", laid_math_bits_deBruijn64tab), ("internal/strconv.uint64pow10", laid_internal_strconv_uint64pow10), ("strconv.ErrRange", laid_strconv_ErrRange), ("strconv.ErrSyntax", laid_strconv_ErrSyntax)], narrowed := true }
def FnExactStateOfUptoSaid : Prop := fnExactStateOfUptoRow.holds Tryd.pinned (OpenSpec.upto fnExactStateOfSpec)

end Rows
end Go.Proofs.YticcmacclncgaaaDoor
