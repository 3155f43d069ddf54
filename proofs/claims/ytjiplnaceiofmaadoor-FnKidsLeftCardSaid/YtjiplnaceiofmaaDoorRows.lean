/-
  NARROWER THAN 'FOR EVERY INPUT', by the rows' own cells (each row's printed sentence says how): FnPagesOwn: laid · FnSetGet: laid · FnCountUp: laid · FnProcLimit: laid · FnFileLimit: laid · FnClockUp: laid · FnPipeLimit: laid · FnOutsLimit: laid · FnKidsLeft: laid · FnExactLenPipe: laid · FnExactIsPipe: laid · FnExactFileOf: laid.
  DERIVED. THE GIVEN ROWS OF THIS SEAT. 12 by the template 'for every input the law returns true; each argument reads behind the call as it read before'; 0 by the template 'total and deterministic' (their statements: YtjiplnaceiofmaaDoorTotals.lean).
  GIVEN WITH THE SEED: the statements are not yours to turn. If you find one false, say at which input.
  Laid BY PROGRAM, IN A SANDBOX (cutbox-rows.mjs): the forced cells as the released guide's own fill.sh prints them over the translation 95d7d87d6d1922d5… (all of the seat's roots in one cut). By AI agents, Wed Nov 11 2026. No macro, syntax, notation, axiom, sorry.
-/
import Derived.Test.YtjiplnaceiofmaaDoorChecked
import GoSem.Claim
import GoSem.ClaimJoined
import GoSem.ClaimMapViews
import Derived.JoinedTies
import Derived.KernelRfl
namespace Go.Proofs.YtjiplnaceiofmaaDoor
/- THE CELL 'sum', in the pinned program and in every row, IS THE sha256 OF THE DUMP (.gsa) THAT YtjiplnaceiofmaaDoorProg.lean LOADS. Nothing in Lean hashes anything: it is a label: what it is worth is what the hold of that sum in a sandbox is worth. -/
noncomputable def Tryd.pinned : Pinned := { name := "ytjiplnaceiofmaadoor", sum := "95d7d87d6d1922d5091aaf5fbe42d6526cd2ffcac9f9c59acd607c97c076bb58", checked := Tryd.checked }
namespace Rows
def none {H : Type} : Left H := { results := [], args := [] }

/- WHAT THE LISTED PACKAGE-LEVEL VARIABLES READ AS WHEN THE CALL BEGINS. Each datum BY PROGRAM (the guide's laid-datum.mjs) off the statement by which the dump's own 'gosem.cut.vars' lays the variable. In a bare row this is a premise. The card (YtjiplnaceiofmaaDoorCards.lean) ties it to the program's text. -/
def laid_math_bits_deBruijn32tab {H : Type} : DataW H := .agg [.lit (.int .u8 0), .lit (.int .u8 1), .lit (.int .u8 28), .lit (.int .u8 2), .lit (.int .u8 29), .lit (.int .u8 14), .lit (.int .u8 24), .lit (.int .u8 3), .lit (.int .u8 30), .lit (.int .u8 22), .lit (.int .u8 20), .lit (.int .u8 15), .lit (.int .u8 25), .lit (.int .u8 17), .lit (.int .u8 4), .lit (.int .u8 8), .lit (.int .u8 31), .lit (.int .u8 27), .lit (.int .u8 13), .lit (.int .u8 23), .lit (.int .u8 21), .lit (.int .u8 19), .lit (.int .u8 16), .lit (.int .u8 7), .lit (.int .u8 26), .lit (.int .u8 12), .lit (.int .u8 18), .lit (.int .u8 6), .lit (.int .u8 11), .lit (.int .u8 5), .lit (.int .u8 10), .lit (.int .u8 9)]
def laid_math_bits_deBruijn64tab {H : Type} : DataW H := .agg [.lit (.int .u8 0), .lit (.int .u8 1), .lit (.int .u8 56), .lit (.int .u8 2), .lit (.int .u8 57), .lit (.int .u8 49), .lit (.int .u8 28), .lit (.int .u8 3), .lit (.int .u8 61), .lit (.int .u8 58), .lit (.int .u8 42), .lit (.int .u8 50), .lit (.int .u8 38), .lit (.int .u8 29), .lit (.int .u8 17), .lit (.int .u8 4), .lit (.int .u8 62), .lit (.int .u8 47), .lit (.int .u8 59), .lit (.int .u8 36), .lit (.int .u8 45), .lit (.int .u8 43), .lit (.int .u8 51), .lit (.int .u8 22), .lit (.int .u8 53), .lit (.int .u8 39), .lit (.int .u8 33), .lit (.int .u8 30), .lit (.int .u8 24), .lit (.int .u8 18), .lit (.int .u8 12), .lit (.int .u8 5), .lit (.int .u8 63), .lit (.int .u8 55), .lit (.int .u8 48), .lit (.int .u8 27), .lit (.int .u8 60), .lit (.int .u8 41), .lit (.int .u8 37), .lit (.int .u8 16), .lit (.int .u8 46), .lit (.int .u8 35), .lit (.int .u8 44), .lit (.int .u8 21), .lit (.int .u8 52), .lit (.int .u8 32), .lit (.int .u8 23), .lit (.int .u8 11), .lit (.int .u8 54), .lit (.int .u8 26), .lit (.int .u8 40), .lit (.int .u8 15), .lit (.int .u8 34), .lit (.int .u8 20), .lit (.int .u8 31), .lit (.int .u8 10), .lit (.int .u8 25), .lit (.int .u8 14), .lit (.int .u8 19), .lit (.int .u8 9), .lit (.int .u8 13), .lit (.int .u8 8), .lit (.int .u8 7), .lit (.int .u8 6)]
def laid_internal_strconv_uint64pow10 {H : Type} : DataW H := .agg [.lit (.int .u64 1), .lit (.int .u64 10), .lit (.int .u64 100), .lit (.int .u64 1000), .lit (.int .u64 10000), .lit (.int .u64 100000), .lit (.int .u64 1000000), .lit (.int .u64 10000000), .lit (.int .u64 100000000), .lit (.int .u64 1000000000), .lit (.int .u64 10000000000), .lit (.int .u64 100000000000), .lit (.int .u64 1000000000000), .lit (.int .u64 10000000000000), .lit (.int .u64 100000000000000), .lit (.int .u64 1000000000000000), .lit (.int .u64 10000000000000000), .lit (.int .u64 100000000000000000), .lit (.int .u64 1000000000000000000), .lit (.int .u64 10000000000000000000)]
def laid_encoding_hex_ErrLength {H : Type} : DataW H := .iface "*errors.errorString" (.ptr (.agg [.lit (.string [101, 110, 99, 111, 100, 105, 110, 103, 47, 104, 101, 120, 58, 32, 111, 100, 100, 32, 108, 101, 110, 103, 116, 104, 32, 104, 101, 120, 32, 115, 116, 114, 105, 110, 103])]))
def laid_strconv_ErrRange {H : Type} : DataW H := .iface "*errors.errorString" (.ptr (.agg [.lit (.string [118, 97, 108, 117, 101, 32, 111, 117, 116, 32, 111, 102, 32, 114, 97, 110, 103, 101])]))
def laid_strconv_ErrSyntax {H : Type} : DataW H := .iface "*errors.errorString" (.ptr (.agg [.lit (.string [105, 110, 118, 97, 108, 105, 100, 32, 115, 121, 110, 116, 97, 120])]))

/-- 'laws.FnPagesOwn': WHATEVER THE INPUT: true; the input reads as it did. -/
def fnPagesOwnSpec : ChangeSpec := { name := "fnPagesOwn", fn := fun _ => fun
  | [d] => { results := [.lit (.bool true)], args := [d] }
  | _ => none }
def fnPagesOwnRow : OpenClaim := { program := "ytjiplnaceiofmaadoor", sum := "95d7d87d6d1922d5091aaf5fbe42d6526cd2ffcac9f9c59acd607c97c076bb58", func := "loop.example/g00974/laws.FnPagesOwn", spec := "fnPagesOwn", inPlace := ["slices.overlaps[string]", "slices.overlaps[loop.example/g00974/impl.Cell]"], unfollowed := true, recurses := true, named := ["internal/strconv.uint64pow10", "math/bits.deBruijn32tab", "math/bits.deBruijn64tab", "encoding/hex.ErrLength"], apart := false, laid := [("math/bits.deBruijn32tab", laid_math_bits_deBruijn32tab), ("math/bits.deBruijn64tab", laid_math_bits_deBruijn64tab), ("internal/strconv.uint64pow10", laid_internal_strconv_uint64pow10), ("encoding/hex.ErrLength", laid_encoding_hex_ErrLength)] }
def FnPagesOwnSaid : Prop := fnPagesOwnRow.holds Tryd.pinned (OpenSpec.ofChange fnPagesOwnSpec)

/-- ITS FALSE NEIGHBOUR: 'it returns false'. Refute it at one input. -/
def fnPagesOwnWrong : ChangeSpec := { name := "fnPagesOwn", fn := fun _ => fun
  | [d] => { results := [.lit (.bool false)], args := [d] }
  | _ => none }
def FnPagesOwnWrongFalsely : Prop := fnPagesOwnRow.holds Tryd.pinned (OpenSpec.ofChange fnPagesOwnWrong)

/-- 'laws.FnSetGet': WHATEVER THE INPUT: true; the input reads as it did. -/
def fnSetGetSpec : ChangeSpec := { name := "fnSetGet", fn := fun _ => fun
  | [d] => { results := [.lit (.bool true)], args := [d] }
  | _ => none }
def fnSetGetRow : OpenClaim := { program := "ytjiplnaceiofmaadoor", sum := "95d7d87d6d1922d5091aaf5fbe42d6526cd2ffcac9f9c59acd607c97c076bb58", func := "loop.example/g00974/laws.FnSetGet", spec := "fnSetGet", inPlace := ["slices.overlaps[string]", "slices.overlaps[loop.example/g00974/impl.Cell]"], unfollowed := true, recurses := true, named := ["internal/strconv.uint64pow10", "math/bits.deBruijn32tab", "math/bits.deBruijn64tab", "strconv.ErrSyntax", "strconv.ErrRange"], apart := false, laid := [("math/bits.deBruijn32tab", laid_math_bits_deBruijn32tab), ("math/bits.deBruijn64tab", laid_math_bits_deBruijn64tab), ("internal/strconv.uint64pow10", laid_internal_strconv_uint64pow10), ("strconv.ErrRange", laid_strconv_ErrRange), ("strconv.ErrSyntax", laid_strconv_ErrSyntax)] }
def FnSetGetSaid : Prop := fnSetGetRow.holds Tryd.pinned (OpenSpec.ofChange fnSetGetSpec)

/-- ITS FALSE NEIGHBOUR: 'it returns false'. Refute it at one input. -/
def fnSetGetWrong : ChangeSpec := { name := "fnSetGet", fn := fun _ => fun
  | [d] => { results := [.lit (.bool false)], args := [d] }
  | _ => none }
def FnSetGetWrongFalsely : Prop := fnSetGetRow.holds Tryd.pinned (OpenSpec.ofChange fnSetGetWrong)

/-- 'laws.FnCountUp': WHATEVER THE INPUT: true; the input reads as it did. -/
def fnCountUpSpec : ChangeSpec := { name := "fnCountUp", fn := fun _ => fun
  | [d] => { results := [.lit (.bool true)], args := [d] }
  | _ => none }
def fnCountUpRow : OpenClaim := { program := "ytjiplnaceiofmaadoor", sum := "95d7d87d6d1922d5091aaf5fbe42d6526cd2ffcac9f9c59acd607c97c076bb58", func := "loop.example/g00974/laws.FnCountUp", spec := "fnCountUp", inPlace := ["slices.overlaps[string]", "slices.overlaps[loop.example/g00974/impl.Cell]"], unfollowed := true, recurses := true, named := ["strconv.ErrSyntax", "strconv.ErrRange", "internal/strconv.uint64pow10", "math/bits.deBruijn32tab", "math/bits.deBruijn64tab"], apart := false, laid := [("math/bits.deBruijn32tab", laid_math_bits_deBruijn32tab), ("math/bits.deBruijn64tab", laid_math_bits_deBruijn64tab), ("internal/strconv.uint64pow10", laid_internal_strconv_uint64pow10), ("strconv.ErrRange", laid_strconv_ErrRange), ("strconv.ErrSyntax", laid_strconv_ErrSyntax)] }
def FnCountUpSaid : Prop := fnCountUpRow.holds Tryd.pinned (OpenSpec.ofChange fnCountUpSpec)

/-- ITS FALSE NEIGHBOUR: 'it returns false'. Refute it at one input. -/
def fnCountUpWrong : ChangeSpec := { name := "fnCountUp", fn := fun _ => fun
  | [d] => { results := [.lit (.bool false)], args := [d] }
  | _ => none }
def FnCountUpWrongFalsely : Prop := fnCountUpRow.holds Tryd.pinned (OpenSpec.ofChange fnCountUpWrong)

/-- 'laws.FnProcLimit': WHATEVER THE INPUT: true; the input reads as it did. -/
def fnProcLimitSpec : ChangeSpec := { name := "fnProcLimit", fn := fun _ => fun
  | [d] => { results := [.lit (.bool true)], args := [d] }
  | _ => none }
def fnProcLimitRow : OpenClaim := { program := "ytjiplnaceiofmaadoor", sum := "95d7d87d6d1922d5091aaf5fbe42d6526cd2ffcac9f9c59acd607c97c076bb58", func := "loop.example/g00974/laws.FnProcLimit", spec := "fnProcLimit", inPlace := ["slices.overlaps[string]", "slices.overlaps[loop.example/g00974/impl.Cell]"], unfollowed := true, recurses := true, named := ["strconv.ErrSyntax", "strconv.ErrRange", "internal/strconv.uint64pow10", "math/bits.deBruijn32tab", "math/bits.deBruijn64tab"], apart := false, laid := [("math/bits.deBruijn32tab", laid_math_bits_deBruijn32tab), ("math/bits.deBruijn64tab", laid_math_bits_deBruijn64tab), ("internal/strconv.uint64pow10", laid_internal_strconv_uint64pow10), ("strconv.ErrRange", laid_strconv_ErrRange), ("strconv.ErrSyntax", laid_strconv_ErrSyntax)] }
def FnProcLimitSaid : Prop := fnProcLimitRow.holds Tryd.pinned (OpenSpec.ofChange fnProcLimitSpec)

/-- ITS FALSE NEIGHBOUR: 'it returns false'. Refute it at one input. -/
def fnProcLimitWrong : ChangeSpec := { name := "fnProcLimit", fn := fun _ => fun
  | [d] => { results := [.lit (.bool false)], args := [d] }
  | _ => none }
def FnProcLimitWrongFalsely : Prop := fnProcLimitRow.holds Tryd.pinned (OpenSpec.ofChange fnProcLimitWrong)

/-- 'laws.FnFileLimit': WHATEVER THE INPUT: true; the input reads as it did. -/
def fnFileLimitSpec : ChangeSpec := { name := "fnFileLimit", fn := fun _ => fun
  | [d] => { results := [.lit (.bool true)], args := [d] }
  | _ => none }
def fnFileLimitRow : OpenClaim := { program := "ytjiplnaceiofmaadoor", sum := "95d7d87d6d1922d5091aaf5fbe42d6526cd2ffcac9f9c59acd607c97c076bb58", func := "loop.example/g00974/laws.FnFileLimit", spec := "fnFileLimit", inPlace := ["slices.overlaps[string]", "slices.overlaps[loop.example/g00974/impl.Cell]"], unfollowed := true, recurses := true, named := ["internal/strconv.uint64pow10", "math/bits.deBruijn32tab", "math/bits.deBruijn64tab", "strconv.ErrSyntax", "strconv.ErrRange"], apart := false, laid := [("math/bits.deBruijn32tab", laid_math_bits_deBruijn32tab), ("math/bits.deBruijn64tab", laid_math_bits_deBruijn64tab), ("internal/strconv.uint64pow10", laid_internal_strconv_uint64pow10), ("strconv.ErrRange", laid_strconv_ErrRange), ("strconv.ErrSyntax", laid_strconv_ErrSyntax)] }
def FnFileLimitSaid : Prop := fnFileLimitRow.holds Tryd.pinned (OpenSpec.ofChange fnFileLimitSpec)

/-- ITS FALSE NEIGHBOUR: 'it returns false'. Refute it at one input. -/
def fnFileLimitWrong : ChangeSpec := { name := "fnFileLimit", fn := fun _ => fun
  | [d] => { results := [.lit (.bool false)], args := [d] }
  | _ => none }
def FnFileLimitWrongFalsely : Prop := fnFileLimitRow.holds Tryd.pinned (OpenSpec.ofChange fnFileLimitWrong)

/-- 'laws.FnClockUp': WHATEVER THE INPUT: true; the input reads as it did. -/
def fnClockUpSpec : ChangeSpec := { name := "fnClockUp", fn := fun _ => fun
  | [d] => { results := [.lit (.bool true)], args := [d] }
  | _ => none }
def fnClockUpRow : OpenClaim := { program := "ytjiplnaceiofmaadoor", sum := "95d7d87d6d1922d5091aaf5fbe42d6526cd2ffcac9f9c59acd607c97c076bb58", func := "loop.example/g00974/laws.FnClockUp", spec := "fnClockUp", inPlace := ["slices.overlaps[string]", "slices.overlaps[loop.example/g00974/impl.Cell]"], unfollowed := true, recurses := true, named := ["strconv.ErrSyntax", "strconv.ErrRange", "internal/strconv.uint64pow10", "math/bits.deBruijn32tab", "math/bits.deBruijn64tab"], apart := false, laid := [("math/bits.deBruijn32tab", laid_math_bits_deBruijn32tab), ("math/bits.deBruijn64tab", laid_math_bits_deBruijn64tab), ("internal/strconv.uint64pow10", laid_internal_strconv_uint64pow10), ("strconv.ErrRange", laid_strconv_ErrRange), ("strconv.ErrSyntax", laid_strconv_ErrSyntax)] }
def FnClockUpSaid : Prop := fnClockUpRow.holds Tryd.pinned (OpenSpec.ofChange fnClockUpSpec)

/-- ITS FALSE NEIGHBOUR: 'it returns false'. Refute it at one input. -/
def fnClockUpWrong : ChangeSpec := { name := "fnClockUp", fn := fun _ => fun
  | [d] => { results := [.lit (.bool false)], args := [d] }
  | _ => none }
def FnClockUpWrongFalsely : Prop := fnClockUpRow.holds Tryd.pinned (OpenSpec.ofChange fnClockUpWrong)

/-- 'laws.FnPipeLimit': WHATEVER THE INPUT: true; the input reads as it did. -/
def fnPipeLimitSpec : ChangeSpec := { name := "fnPipeLimit", fn := fun _ => fun
  | [d] => { results := [.lit (.bool true)], args := [d] }
  | _ => none }
def fnPipeLimitRow : OpenClaim := { program := "ytjiplnaceiofmaadoor", sum := "95d7d87d6d1922d5091aaf5fbe42d6526cd2ffcac9f9c59acd607c97c076bb58", func := "loop.example/g00974/laws.FnPipeLimit", spec := "fnPipeLimit", inPlace := ["slices.overlaps[string]", "slices.overlaps[loop.example/g00974/impl.Cell]"], unfollowed := true, recurses := true, named := ["strconv.ErrSyntax", "strconv.ErrRange", "internal/strconv.uint64pow10", "math/bits.deBruijn32tab", "math/bits.deBruijn64tab"], apart := false, laid := [("math/bits.deBruijn32tab", laid_math_bits_deBruijn32tab), ("math/bits.deBruijn64tab", laid_math_bits_deBruijn64tab), ("internal/strconv.uint64pow10", laid_internal_strconv_uint64pow10), ("strconv.ErrRange", laid_strconv_ErrRange), ("strconv.ErrSyntax", laid_strconv_ErrSyntax)] }
def FnPipeLimitSaid : Prop := fnPipeLimitRow.holds Tryd.pinned (OpenSpec.ofChange fnPipeLimitSpec)

/-- ITS FALSE NEIGHBOUR: 'it returns false'. Refute it at one input. -/
def fnPipeLimitWrong : ChangeSpec := { name := "fnPipeLimit", fn := fun _ => fun
  | [d] => { results := [.lit (.bool false)], args := [d] }
  | _ => none }
def FnPipeLimitWrongFalsely : Prop := fnPipeLimitRow.holds Tryd.pinned (OpenSpec.ofChange fnPipeLimitWrong)

/-- 'laws.FnOutsLimit': WHATEVER THE INPUT: true; the input reads as it did. -/
def fnOutsLimitSpec : ChangeSpec := { name := "fnOutsLimit", fn := fun _ => fun
  | [d] => { results := [.lit (.bool true)], args := [d] }
  | _ => none }
def fnOutsLimitRow : OpenClaim := { program := "ytjiplnaceiofmaadoor", sum := "95d7d87d6d1922d5091aaf5fbe42d6526cd2ffcac9f9c59acd607c97c076bb58", func := "loop.example/g00974/laws.FnOutsLimit", spec := "fnOutsLimit", inPlace := ["slices.overlaps[string]", "slices.overlaps[loop.example/g00974/impl.Cell]"], unfollowed := true, recurses := true, named := ["internal/strconv.uint64pow10", "math/bits.deBruijn32tab", "math/bits.deBruijn64tab", "strconv.ErrSyntax", "strconv.ErrRange", "encoding/hex.ErrLength"], apart := false, laid := [("math/bits.deBruijn32tab", laid_math_bits_deBruijn32tab), ("math/bits.deBruijn64tab", laid_math_bits_deBruijn64tab), ("internal/strconv.uint64pow10", laid_internal_strconv_uint64pow10), ("strconv.ErrRange", laid_strconv_ErrRange), ("strconv.ErrSyntax", laid_strconv_ErrSyntax), ("encoding/hex.ErrLength", laid_encoding_hex_ErrLength)] }
def FnOutsLimitSaid : Prop := fnOutsLimitRow.holds Tryd.pinned (OpenSpec.ofChange fnOutsLimitSpec)

/-- ITS FALSE NEIGHBOUR: 'it returns false'. Refute it at one input. -/
def fnOutsLimitWrong : ChangeSpec := { name := "fnOutsLimit", fn := fun _ => fun
  | [d] => { results := [.lit (.bool false)], args := [d] }
  | _ => none }
def FnOutsLimitWrongFalsely : Prop := fnOutsLimitRow.holds Tryd.pinned (OpenSpec.ofChange fnOutsLimitWrong)

/-- 'laws.FnKidsLeft': WHATEVER THE INPUT: true; the input reads as it did. -/
def fnKidsLeftSpec : ChangeSpec := { name := "fnKidsLeft", fn := fun _ => fun
  | [d] => { results := [.lit (.bool true)], args := [d] }
  | _ => none }
def fnKidsLeftRow : OpenClaim := { program := "ytjiplnaceiofmaadoor", sum := "95d7d87d6d1922d5091aaf5fbe42d6526cd2ffcac9f9c59acd607c97c076bb58", func := "loop.example/g00974/laws.FnKidsLeft", spec := "fnKidsLeft", inPlace := ["slices.overlaps[string]", "slices.overlaps[loop.example/g00974/impl.Cell]"], unfollowed := true, recurses := true, named := ["strconv.ErrSyntax", "strconv.ErrRange", "internal/strconv.uint64pow10", "math/bits.deBruijn32tab", "math/bits.deBruijn64tab"], apart := false, laid := [("math/bits.deBruijn32tab", laid_math_bits_deBruijn32tab), ("math/bits.deBruijn64tab", laid_math_bits_deBruijn64tab), ("internal/strconv.uint64pow10", laid_internal_strconv_uint64pow10), ("strconv.ErrRange", laid_strconv_ErrRange), ("strconv.ErrSyntax", laid_strconv_ErrSyntax)] }
def FnKidsLeftSaid : Prop := fnKidsLeftRow.holds Tryd.pinned (OpenSpec.ofChange fnKidsLeftSpec)

/-- ITS FALSE NEIGHBOUR: 'it returns false'. Refute it at one input. -/
def fnKidsLeftWrong : ChangeSpec := { name := "fnKidsLeft", fn := fun _ => fun
  | [d] => { results := [.lit (.bool false)], args := [d] }
  | _ => none }
def FnKidsLeftWrongFalsely : Prop := fnKidsLeftRow.holds Tryd.pinned (OpenSpec.ofChange fnKidsLeftWrong)

/-- 'laws.FnExactLenPipe': WHATEVER THE INPUT: true; the input reads as it did. -/
def fnExactLenPipeSpec : ChangeSpec := { name := "fnExactLenPipe", fn := fun _ => fun
  | [d1, d2] => { results := [.lit (.bool true)], args := [d1, d2] }
  | _ => none }
def fnExactLenPipeRow : OpenClaim := { program := "ytjiplnaceiofmaadoor", sum := "95d7d87d6d1922d5091aaf5fbe42d6526cd2ffcac9f9c59acd607c97c076bb58", func := "loop.example/g00974/laws.FnExactLenPipe", spec := "fnExactLenPipe", inPlace := ["slices.overlaps[string]"], unfollowed := true, recurses := true, named := ["internal/strconv.uint64pow10", "math/bits.deBruijn32tab", "math/bits.deBruijn64tab", "strconv.ErrSyntax", "strconv.ErrRange"], apart := false, laid := [("math/bits.deBruijn32tab", laid_math_bits_deBruijn32tab), ("math/bits.deBruijn64tab", laid_math_bits_deBruijn64tab), ("internal/strconv.uint64pow10", laid_internal_strconv_uint64pow10), ("strconv.ErrRange", laid_strconv_ErrRange), ("strconv.ErrSyntax", laid_strconv_ErrSyntax)] }
def FnExactLenPipeSaid : Prop := fnExactLenPipeRow.holds Tryd.pinned (OpenSpec.ofChange fnExactLenPipeSpec)

/-- ITS FALSE NEIGHBOUR: 'it returns false'. Refute it at one input. -/
def fnExactLenPipeWrong : ChangeSpec := { name := "fnExactLenPipe", fn := fun _ => fun
  | [d1, d2] => { results := [.lit (.bool false)], args := [d1, d2] }
  | _ => none }
def FnExactLenPipeWrongFalsely : Prop := fnExactLenPipeRow.holds Tryd.pinned (OpenSpec.ofChange fnExactLenPipeWrong)

/-- 'laws.FnExactIsPipe': WHATEVER THE INPUT: true; the input reads as it did. -/
def fnExactIsPipeSpec : ChangeSpec := { name := "fnExactIsPipe", fn := fun _ => fun
  | [d1, d2] => { results := [.lit (.bool true)], args := [d1, d2] }
  | _ => none }
def fnExactIsPipeRow : OpenClaim := { program := "ytjiplnaceiofmaadoor", sum := "95d7d87d6d1922d5091aaf5fbe42d6526cd2ffcac9f9c59acd607c97c076bb58", func := "loop.example/g00974/laws.FnExactIsPipe", spec := "fnExactIsPipe", inPlace := ["slices.overlaps[string]"], unfollowed := true, recurses := true, named := ["internal/strconv.uint64pow10", "math/bits.deBruijn32tab", "math/bits.deBruijn64tab", "strconv.ErrSyntax", "strconv.ErrRange"], apart := false, laid := [("math/bits.deBruijn32tab", laid_math_bits_deBruijn32tab), ("math/bits.deBruijn64tab", laid_math_bits_deBruijn64tab), ("internal/strconv.uint64pow10", laid_internal_strconv_uint64pow10), ("strconv.ErrRange", laid_strconv_ErrRange), ("strconv.ErrSyntax", laid_strconv_ErrSyntax)] }
def FnExactIsPipeSaid : Prop := fnExactIsPipeRow.holds Tryd.pinned (OpenSpec.ofChange fnExactIsPipeSpec)

/-- ITS FALSE NEIGHBOUR: 'it returns false'. Refute it at one input. -/
def fnExactIsPipeWrong : ChangeSpec := { name := "fnExactIsPipe", fn := fun _ => fun
  | [d1, d2] => { results := [.lit (.bool false)], args := [d1, d2] }
  | _ => none }
def FnExactIsPipeWrongFalsely : Prop := fnExactIsPipeRow.holds Tryd.pinned (OpenSpec.ofChange fnExactIsPipeWrong)

/-- 'laws.FnExactFileOf': WHATEVER THE INPUT: true; the input reads as it did. -/
def fnExactFileOfSpec : ChangeSpec := { name := "fnExactFileOf", fn := fun _ => fun
  | [d1, d2] => { results := [.lit (.bool true)], args := [d1, d2] }
  | _ => none }
def fnExactFileOfRow : OpenClaim := { program := "ytjiplnaceiofmaadoor", sum := "95d7d87d6d1922d5091aaf5fbe42d6526cd2ffcac9f9c59acd607c97c076bb58", func := "loop.example/g00974/laws.FnExactFileOf", spec := "fnExactFileOf", inPlace := ["slices.overlaps[string]"], unfollowed := true, recurses := true, named := ["strconv.ErrSyntax", "strconv.ErrRange", "internal/strconv.uint64pow10", "math/bits.deBruijn32tab", "math/bits.deBruijn64tab"], apart := false, laid := [("math/bits.deBruijn32tab", laid_math_bits_deBruijn32tab), ("math/bits.deBruijn64tab", laid_math_bits_deBruijn64tab), ("internal/strconv.uint64pow10", laid_internal_strconv_uint64pow10), ("strconv.ErrRange", laid_strconv_ErrRange), ("strconv.ErrSyntax", laid_strconv_ErrSyntax)] }
def FnExactFileOfSaid : Prop := fnExactFileOfRow.holds Tryd.pinned (OpenSpec.ofChange fnExactFileOfSpec)

/-- ITS FALSE NEIGHBOUR: 'it returns false'. Refute it at one input. -/
def fnExactFileOfWrong : ChangeSpec := { name := "fnExactFileOf", fn := fun _ => fun
  | [d1, d2] => { results := [.lit (.bool false)], args := [d1, d2] }
  | _ => none }
def FnExactFileOfWrongFalsely : Prop := fnExactFileOfRow.holds Tryd.pinned (OpenSpec.ofChange fnExactFileOfWrong)

/- THE SECOND FORM. 'bulk': how many values and letters a reading holds, each counted each time it is reached (what is shared counts as often as it is met; a slice's spare places count too). A statement '..UptoSaid' is the law's where the arguments, and the package variables that the reading takes, are together of bulk at most 1048576: NARROWER than '..Said'. Prove '..Said' where nothing that the law and all that it calls make is longer than what came in: it says more and counts as full. Else prove '..UptoSaid'. A law counts once. -/
mutual
def uptoBulk {H : Type} : DataW H → Nat
  | .lit (.string bytes) => bytes.length + 1
  | .lit _ => 1
  | .nil => 1
  | .ptr d => uptoBulk d + 1
  | .slice elems spare => uptoBulkAll elems + uptoBulkAll spare + 1
  | .agg parts => uptoBulkAll parts + 1
  | .iface _ d => uptoBulk d + 1
  | .map entries => uptoBulkEntries entries + 1
  | .held _ => 1
def uptoBulkAll {H : Type} : List (DataW H) → Nat
  | [] => 0
  | d :: r => uptoBulk d + uptoBulkAll r
def uptoBulkEntries {H : Type} : List (Lit × DataW H) → Nat
  | [] => 0
  | x :: r => uptoBulkEntry x + uptoBulkEntries r
def uptoBulkEntry {H : Type} : Lit × DataW H → Nat
  | (.string bytes, d) => bytes.length + uptoBulk d + 1
  | (_, d) => uptoBulk d + 1
 end
def uptoSmall : (H : Type) → List (DataW H) → Bool := fun _ ds => decide (uptoBulkAll ds ≤ 1048576)
def OpenSpec.upto (s : _root_.Go.ChangeSpec) : _root_.Go.OpenSpec := { _root_.Go.OpenSpec.ofChange s with cond := some uptoSmall }

/-- 'laws.FnPagesOwn', WHERE WHAT IT READS IS OF BULK AT MOST 1048576: true; the input reads as it did. -/
def fnPagesOwnUptoRow : OpenClaim := { program := "ytjiplnaceiofmaadoor", sum := "95d7d87d6d1922d5091aaf5fbe42d6526cd2ffcac9f9c59acd607c97c076bb58", func := "loop.example/g00974/laws.FnPagesOwn", spec := "fnPagesOwn", inPlace := ["slices.overlaps[string]", "slices.overlaps[loop.example/g00974/impl.Cell]"], unfollowed := true, recurses := true, named := ["internal/strconv.uint64pow10", "math/bits.deBruijn32tab", "math/bits.deBruijn64tab", "encoding/hex.ErrLength"], apart := false, laid := [("math/bits.deBruijn32tab", laid_math_bits_deBruijn32tab), ("math/bits.deBruijn64tab", laid_math_bits_deBruijn64tab), ("internal/strconv.uint64pow10", laid_internal_strconv_uint64pow10), ("encoding/hex.ErrLength", laid_encoding_hex_ErrLength)], narrowed := true }
def FnPagesOwnUptoSaid : Prop := fnPagesOwnUptoRow.holds Tryd.pinned (OpenSpec.upto fnPagesOwnSpec)

/-- 'laws.FnSetGet', WHERE WHAT IT READS IS OF BULK AT MOST 1048576: true; the input reads as it did. -/
def fnSetGetUptoRow : OpenClaim := { program := "ytjiplnaceiofmaadoor", sum := "95d7d87d6d1922d5091aaf5fbe42d6526cd2ffcac9f9c59acd607c97c076bb58", func := "loop.example/g00974/laws.FnSetGet", spec := "fnSetGet", inPlace := ["slices.overlaps[string]", "slices.overlaps[loop.example/g00974/impl.Cell]"], unfollowed := true, recurses := true, named := ["internal/strconv.uint64pow10", "math/bits.deBruijn32tab", "math/bits.deBruijn64tab", "strconv.ErrSyntax", "strconv.ErrRange"], apart := false, laid := [("math/bits.deBruijn32tab", laid_math_bits_deBruijn32tab), ("math/bits.deBruijn64tab", laid_math_bits_deBruijn64tab), ("internal/strconv.uint64pow10", laid_internal_strconv_uint64pow10), ("strconv.ErrRange", laid_strconv_ErrRange), ("strconv.ErrSyntax", laid_strconv_ErrSyntax)], narrowed := true }
def FnSetGetUptoSaid : Prop := fnSetGetUptoRow.holds Tryd.pinned (OpenSpec.upto fnSetGetSpec)

/-- 'laws.FnCountUp', WHERE WHAT IT READS IS OF BULK AT MOST 1048576: true; the input reads as it did. -/
def fnCountUpUptoRow : OpenClaim := { program := "ytjiplnaceiofmaadoor", sum := "95d7d87d6d1922d5091aaf5fbe42d6526cd2ffcac9f9c59acd607c97c076bb58", func := "loop.example/g00974/laws.FnCountUp", spec := "fnCountUp", inPlace := ["slices.overlaps[string]", "slices.overlaps[loop.example/g00974/impl.Cell]"], unfollowed := true, recurses := true, named := ["strconv.ErrSyntax", "strconv.ErrRange", "internal/strconv.uint64pow10", "math/bits.deBruijn32tab", "math/bits.deBruijn64tab"], apart := false, laid := [("math/bits.deBruijn32tab", laid_math_bits_deBruijn32tab), ("math/bits.deBruijn64tab", laid_math_bits_deBruijn64tab), ("internal/strconv.uint64pow10", laid_internal_strconv_uint64pow10), ("strconv.ErrRange", laid_strconv_ErrRange), ("strconv.ErrSyntax", laid_strconv_ErrSyntax)], narrowed := true }
def FnCountUpUptoSaid : Prop := fnCountUpUptoRow.holds Tryd.pinned (OpenSpec.upto fnCountUpSpec)

/-- 'laws.FnProcLimit', WHERE WHAT IT READS IS OF BULK AT MOST 1048576: true; the input reads as it did. -/
def fnProcLimitUptoRow : OpenClaim := { program := "ytjiplnaceiofmaadoor", sum := "95d7d87d6d1922d5091aaf5fbe42d6526cd2ffcac9f9c59acd607c97c076bb58", func := "loop.example/g00974/laws.FnProcLimit", spec := "fnProcLimit", inPlace := ["slices.overlaps[string]", "slices.overlaps[loop.example/g00974/impl.Cell]"], unfollowed := true, recurses := true, named := ["strconv.ErrSyntax", "strconv.ErrRange", "internal/strconv.uint64pow10", "math/bits.deBruijn32tab", "math/bits.deBruijn64tab"], apart := false, laid := [("math/bits.deBruijn32tab", laid_math_bits_deBruijn32tab), ("math/bits.deBruijn64tab", laid_math_bits_deBruijn64tab), ("internal/strconv.uint64pow10", laid_internal_strconv_uint64pow10), ("strconv.ErrRange", laid_strconv_ErrRange), ("strconv.ErrSyntax", laid_strconv_ErrSyntax)], narrowed := true }
def FnProcLimitUptoSaid : Prop := fnProcLimitUptoRow.holds Tryd.pinned (OpenSpec.upto fnProcLimitSpec)

/-- 'laws.FnFileLimit', WHERE WHAT IT READS IS OF BULK AT MOST 1048576: true; the input reads as it did. -/
def fnFileLimitUptoRow : OpenClaim := { program := "ytjiplnaceiofmaadoor", sum := "95d7d87d6d1922d5091aaf5fbe42d6526cd2ffcac9f9c59acd607c97c076bb58", func := "loop.example/g00974/laws.FnFileLimit", spec := "fnFileLimit", inPlace := ["slices.overlaps[string]", "slices.overlaps[loop.example/g00974/impl.Cell]"], unfollowed := true, recurses := true, named := ["internal/strconv.uint64pow10", "math/bits.deBruijn32tab", "math/bits.deBruijn64tab", "strconv.ErrSyntax", "strconv.ErrRange"], apart := false, laid := [("math/bits.deBruijn32tab", laid_math_bits_deBruijn32tab), ("math/bits.deBruijn64tab", laid_math_bits_deBruijn64tab), ("internal/strconv.uint64pow10", laid_internal_strconv_uint64pow10), ("strconv.ErrRange", laid_strconv_ErrRange), ("strconv.ErrSyntax", laid_strconv_ErrSyntax)], narrowed := true }
def FnFileLimitUptoSaid : Prop := fnFileLimitUptoRow.holds Tryd.pinned (OpenSpec.upto fnFileLimitSpec)

/-- 'laws.FnClockUp', WHERE WHAT IT READS IS OF BULK AT MOST 1048576: true; the input reads as it did. -/
def fnClockUpUptoRow : OpenClaim := { program := "ytjiplnaceiofmaadoor", sum := "95d7d87d6d1922d5091aaf5fbe42d6526cd2ffcac9f9c59acd607c97c076bb58", func := "loop.example/g00974/laws.FnClockUp", spec := "fnClockUp", inPlace := ["slices.overlaps[string]", "slices.overlaps[loop.example/g00974/impl.Cell]"], unfollowed := true, recurses := true, named := ["strconv.ErrSyntax", "strconv.ErrRange", "internal/strconv.uint64pow10", "math/bits.deBruijn32tab", "math/bits.deBruijn64tab"], apart := false, laid := [("math/bits.deBruijn32tab", laid_math_bits_deBruijn32tab), ("math/bits.deBruijn64tab", laid_math_bits_deBruijn64tab), ("internal/strconv.uint64pow10", laid_internal_strconv_uint64pow10), ("strconv.ErrRange", laid_strconv_ErrRange), ("strconv.ErrSyntax", laid_strconv_ErrSyntax)], narrowed := true }
def FnClockUpUptoSaid : Prop := fnClockUpUptoRow.holds Tryd.pinned (OpenSpec.upto fnClockUpSpec)

/-- 'laws.FnPipeLimit', WHERE WHAT IT READS IS OF BULK AT MOST 1048576: true; the input reads as it did. -/
def fnPipeLimitUptoRow : OpenClaim := { program := "ytjiplnaceiofmaadoor", sum := "95d7d87d6d1922d5091aaf5fbe42d6526cd2ffcac9f9c59acd607c97c076bb58", func := "loop.example/g00974/laws.FnPipeLimit", spec := "fnPipeLimit", inPlace := ["slices.overlaps[string]", "slices.overlaps[loop.example/g00974/impl.Cell]"], unfollowed := true, recurses := true, named := ["strconv.ErrSyntax", "strconv.ErrRange", "internal/strconv.uint64pow10", "math/bits.deBruijn32tab", "math/bits.deBruijn64tab"], apart := false, laid := [("math/bits.deBruijn32tab", laid_math_bits_deBruijn32tab), ("math/bits.deBruijn64tab", laid_math_bits_deBruijn64tab), ("internal/strconv.uint64pow10", laid_internal_strconv_uint64pow10), ("strconv.ErrRange", laid_strconv_ErrRange), ("strconv.ErrSyntax", laid_strconv_ErrSyntax)], narrowed := true }
def FnPipeLimitUptoSaid : Prop := fnPipeLimitUptoRow.holds Tryd.pinned (OpenSpec.upto fnPipeLimitSpec)

/-- 'laws.FnOutsLimit', WHERE WHAT IT READS IS OF BULK AT MOST 1048576: true; the input reads as it did. -/
def fnOutsLimitUptoRow : OpenClaim := { program := "ytjiplnaceiofmaadoor", sum := "95d7d87d6d1922d5091aaf5fbe42d6526cd2ffcac9f9c59acd607c97c076bb58", func := "loop.example/g00974/laws.FnOutsLimit", spec := "fnOutsLimit", inPlace := ["slices.overlaps[string]", "slices.overlaps[loop.example/g00974/impl.Cell]"], unfollowed := true, recurses := true, named := ["internal/strconv.uint64pow10", "math/bits.deBruijn32tab", "math/bits.deBruijn64tab", "strconv.ErrSyntax", "strconv.ErrRange", "encoding/hex.ErrLength"], apart := false, laid := [("math/bits.deBruijn32tab", laid_math_bits_deBruijn32tab), ("math/bits.deBruijn64tab", laid_math_bits_deBruijn64tab), ("internal/strconv.uint64pow10", laid_internal_strconv_uint64pow10), ("strconv.ErrRange", laid_strconv_ErrRange), ("strconv.ErrSyntax", laid_strconv_ErrSyntax), ("encoding/hex.ErrLength", laid_encoding_hex_ErrLength)], narrowed := true }
def FnOutsLimitUptoSaid : Prop := fnOutsLimitUptoRow.holds Tryd.pinned (OpenSpec.upto fnOutsLimitSpec)

/-- 'laws.FnKidsLeft', WHERE WHAT IT READS IS OF BULK AT MOST 1048576: true; the input reads as it did. -/
def fnKidsLeftUptoRow : OpenClaim := { program := "ytjiplnaceiofmaadoor", sum := "95d7d87d6d1922d5091aaf5fbe42d6526cd2ffcac9f9c59acd607c97c076bb58", func := "loop.example/g00974/laws.FnKidsLeft", spec := "fnKidsLeft", inPlace := ["slices.overlaps[string]", "slices.overlaps[loop.example/g00974/impl.Cell]"], unfollowed := true, recurses := true, named := ["strconv.ErrSyntax", "strconv.ErrRange", "internal/strconv.uint64pow10", "math/bits.deBruijn32tab", "math/bits.deBruijn64tab"], apart := false, laid := [("math/bits.deBruijn32tab", laid_math_bits_deBruijn32tab), ("math/bits.deBruijn64tab", laid_math_bits_deBruijn64tab), ("internal/strconv.uint64pow10", laid_internal_strconv_uint64pow10), ("strconv.ErrRange", laid_strconv_ErrRange), ("strconv.ErrSyntax", laid_strconv_ErrSyntax)], narrowed := true }
def FnKidsLeftUptoSaid : Prop := fnKidsLeftUptoRow.holds Tryd.pinned (OpenSpec.upto fnKidsLeftSpec)

/-- 'laws.FnExactLenPipe', WHERE WHAT IT READS IS OF BULK AT MOST 1048576: true; the input reads as it did. -/
def fnExactLenPipeUptoRow : OpenClaim := { program := "ytjiplnaceiofmaadoor", sum := "95d7d87d6d1922d5091aaf5fbe42d6526cd2ffcac9f9c59acd607c97c076bb58", func := "loop.example/g00974/laws.FnExactLenPipe", spec := "fnExactLenPipe", inPlace := ["slices.overlaps[string]"], unfollowed := true, recurses := true, named := ["internal/strconv.uint64pow10", "math/bits.deBruijn32tab", "math/bits.deBruijn64tab", "strconv.ErrSyntax", "strconv.ErrRange"], apart := false, laid := [("math/bits.deBruijn32tab", laid_math_bits_deBruijn32tab), ("math/bits.deBruijn64tab", laid_math_bits_deBruijn64tab), ("internal/strconv.uint64pow10", laid_internal_strconv_uint64pow10), ("strconv.ErrRange", laid_strconv_ErrRange), ("strconv.ErrSyntax", laid_strconv_ErrSyntax)], narrowed := true }
def FnExactLenPipeUptoSaid : Prop := fnExactLenPipeUptoRow.holds Tryd.pinned (OpenSpec.upto fnExactLenPipeSpec)

/-- 'laws.FnExactIsPipe', WHERE WHAT IT READS IS OF BULK AT MOST 1048576: true; the input reads as it did. -/
def fnExactIsPipeUptoRow : OpenClaim := { program := "ytjiplnaceiofmaadoor", sum := "95d7d87d6d1922d5091aaf5fbe42d6526cd2ffcac9f9c59acd607c97c076bb58", func := "loop.example/g00974/laws.FnExactIsPipe", spec := "fnExactIsPipe", inPlace := ["slices.overlaps[string]"], unfollowed := true, recurses := true, named := ["internal/strconv.uint64pow10", "math/bits.deBruijn32tab", "math/bits.deBruijn64tab", "strconv.ErrSyntax", "strconv.ErrRange"], apart := false, laid := [("math/bits.deBruijn32tab", laid_math_bits_deBruijn32tab), ("math/bits.deBruijn64tab", laid_math_bits_deBruijn64tab), ("internal/strconv.uint64pow10", laid_internal_strconv_uint64pow10), ("strconv.ErrRange", laid_strconv_ErrRange), ("strconv.ErrSyntax", laid_strconv_ErrSyntax)], narrowed := true }
def FnExactIsPipeUptoSaid : Prop := fnExactIsPipeUptoRow.holds Tryd.pinned (OpenSpec.upto fnExactIsPipeSpec)

/-- 'laws.FnExactFileOf', WHERE WHAT IT READS IS OF BULK AT MOST 1048576: true; the input reads as it did. -/
def fnExactFileOfUptoRow : OpenClaim := { program := "ytjiplnaceiofmaadoor", sum := "95d7d87d6d1922d5091aaf5fbe42d6526cd2ffcac9f9c59acd607c97c076bb58", func := "loop.example/g00974/laws.FnExactFileOf", spec := "fnExactFileOf", inPlace := ["slices.overlaps[string]"], unfollowed := true, recurses := true, named := ["strconv.ErrSyntax", "strconv.ErrRange", "internal/strconv.uint64pow10", "math/bits.deBruijn32tab", "math/bits.deBruijn64tab"], apart := false, laid := [("math/bits.deBruijn32tab", laid_math_bits_deBruijn32tab), ("math/bits.deBruijn64tab", laid_math_bits_deBruijn64tab), ("internal/strconv.uint64pow10", laid_internal_strconv_uint64pow10), ("strconv.ErrRange", laid_strconv_ErrRange), ("strconv.ErrSyntax", laid_strconv_ErrSyntax)], narrowed := true }
def FnExactFileOfUptoSaid : Prop := fnExactFileOfUptoRow.holds Tryd.pinned (OpenSpec.upto fnExactFileOfSpec)

end Rows
end Go.Proofs.YtjiplnaceiofmaaDoor
