/-
  NARROWER THAN 'FOR EVERY INPUT', by the rows' own cells (each row's printed sentence says how): FnTwoSee: laid · FnTouchGrows: laid · FnBackAgain: laid · FnDone: laid · FnTxSees: laid · FnTxIsRun: laid · FnTwoApart: laid · FnTxHolds: laid · FnClashing: laid · FnExactTxAsk: laid.
  DERIVED. THE GIVEN ROWS OF THIS SEAT. 10 by the template 'for every input the law returns true; each argument reads behind the call as it read before'; 0 by the template 'total and deterministic' (their statements: YthlfmbbaomdciaaGreatDoorTotals.lean).
  GIVEN WITH THE SEED: the statements are not yours to turn. If you find one false, say at which input.
  Laid BY PROGRAM, IN A SANDBOX (cutbox-rows.mjs): the forced cells as the released guide's own fill.sh prints them over the translation fb941f43e7d1a328… (all of the seat's roots in one cut). By AI agents, Wed Nov 11 2026. No macro, syntax, notation, axiom, sorry.
-/
import Derived.Test.YthlfmbbaomdciaaGreatDoorChecked
import GoSem.Claim
import GoSem.ClaimJoined
import GoSem.ClaimMapViews
import Derived.JoinedTies
import Derived.KernelRfl
namespace Go.Proofs.YthlfmbbaomdciaaGreatDoor
/- THE CELL 'sum', in the pinned program and in every row, IS THE sha256 OF THE DUMP (.gsa) THAT YthlfmbbaomdciaaGreatDoorProg.lean LOADS. Nothing in Lean hashes anything: it is a label: what it is worth is what the hold of that sum in a sandbox is worth. -/
noncomputable def Tryz.pinned : Pinned := { name := "ythlfmbbaomdciaagreatdoor", sum := "fb941f43e7d1a328b644d136715996f96f489ad15b99139dfac01ed5b34ce4a8", checked := Tryz.checked }
namespace Rows
def none {H : Type} : Left H := { results := [], args := [] }

/- WHAT THE LISTED PACKAGE-LEVEL VARIABLES READ AS WHEN THE CALL BEGINS. Each datum BY PROGRAM (the guide's laid-datum.mjs) off the statement by which the dump's own 'gosem.cut.vars' lays the variable. In a bare row this is a premise. The card (YthlfmbbaomdciaaGreatDoorCards.lean) ties it to the program's text. -/
def laid_math_bits_deBruijn32tab {H : Type} : DataW H := .agg [.lit (.int .u8 0), .lit (.int .u8 1), .lit (.int .u8 28), .lit (.int .u8 2), .lit (.int .u8 29), .lit (.int .u8 14), .lit (.int .u8 24), .lit (.int .u8 3), .lit (.int .u8 30), .lit (.int .u8 22), .lit (.int .u8 20), .lit (.int .u8 15), .lit (.int .u8 25), .lit (.int .u8 17), .lit (.int .u8 4), .lit (.int .u8 8), .lit (.int .u8 31), .lit (.int .u8 27), .lit (.int .u8 13), .lit (.int .u8 23), .lit (.int .u8 21), .lit (.int .u8 19), .lit (.int .u8 16), .lit (.int .u8 7), .lit (.int .u8 26), .lit (.int .u8 12), .lit (.int .u8 18), .lit (.int .u8 6), .lit (.int .u8 11), .lit (.int .u8 5), .lit (.int .u8 10), .lit (.int .u8 9)]
def laid_math_bits_deBruijn64tab {H : Type} : DataW H := .agg [.lit (.int .u8 0), .lit (.int .u8 1), .lit (.int .u8 56), .lit (.int .u8 2), .lit (.int .u8 57), .lit (.int .u8 49), .lit (.int .u8 28), .lit (.int .u8 3), .lit (.int .u8 61), .lit (.int .u8 58), .lit (.int .u8 42), .lit (.int .u8 50), .lit (.int .u8 38), .lit (.int .u8 29), .lit (.int .u8 17), .lit (.int .u8 4), .lit (.int .u8 62), .lit (.int .u8 47), .lit (.int .u8 59), .lit (.int .u8 36), .lit (.int .u8 45), .lit (.int .u8 43), .lit (.int .u8 51), .lit (.int .u8 22), .lit (.int .u8 53), .lit (.int .u8 39), .lit (.int .u8 33), .lit (.int .u8 30), .lit (.int .u8 24), .lit (.int .u8 18), .lit (.int .u8 12), .lit (.int .u8 5), .lit (.int .u8 63), .lit (.int .u8 55), .lit (.int .u8 48), .lit (.int .u8 27), .lit (.int .u8 60), .lit (.int .u8 41), .lit (.int .u8 37), .lit (.int .u8 16), .lit (.int .u8 46), .lit (.int .u8 35), .lit (.int .u8 44), .lit (.int .u8 21), .lit (.int .u8 52), .lit (.int .u8 32), .lit (.int .u8 23), .lit (.int .u8 11), .lit (.int .u8 54), .lit (.int .u8 26), .lit (.int .u8 40), .lit (.int .u8 15), .lit (.int .u8 34), .lit (.int .u8 20), .lit (.int .u8 31), .lit (.int .u8 10), .lit (.int .u8 25), .lit (.int .u8 14), .lit (.int .u8 19), .lit (.int .u8 9), .lit (.int .u8 13), .lit (.int .u8 8), .lit (.int .u8 7), .lit (.int .u8 6)]
def laid_internal_strconv_uint64pow10 {H : Type} : DataW H := .agg [.lit (.int .u64 1), .lit (.int .u64 10), .lit (.int .u64 100), .lit (.int .u64 1000), .lit (.int .u64 10000), .lit (.int .u64 100000), .lit (.int .u64 1000000), .lit (.int .u64 10000000), .lit (.int .u64 100000000), .lit (.int .u64 1000000000), .lit (.int .u64 10000000000), .lit (.int .u64 100000000000), .lit (.int .u64 1000000000000), .lit (.int .u64 10000000000000), .lit (.int .u64 100000000000000), .lit (.int .u64 1000000000000000), .lit (.int .u64 10000000000000000), .lit (.int .u64 100000000000000000), .lit (.int .u64 1000000000000000000), .lit (.int .u64 10000000000000000000)]
def laid_strconv_ErrRange {H : Type} : DataW H := .iface "*errors.errorString" (.ptr (.agg [.lit (.string [118, 97, 108, 117, 101, 32, 111, 117, 116, 32, 111, 102, 32, 114, 97, 110, 103, 101])]))
def laid_strconv_ErrSyntax {H : Type} : DataW H := .iface "*errors.errorString" (.ptr (.agg [.lit (.string [105, 110, 118, 97, 108, 105, 100, 32, 115, 121, 110, 116, 97, 120])]))
def laid_encoding_hex_ErrLength {H : Type} : DataW H := .iface "*errors.errorString" (.ptr (.agg [.lit (.string [101, 110, 99, 111, 100, 105, 110, 103, 47, 104, 101, 120, 58, 32, 111, 100, 100, 32, 108, 101, 110, 103, 116, 104, 32, 104, 101, 120, 32, 115, 116, 114, 105, 110, 103])]))

/-- 'laws.FnTwoSee': WHATEVER THE INPUT: true; the input reads as it did. -/
def fnTwoSeeSpec : ChangeSpec := { name := "fnTwoSee", fn := fun _ => fun
  | [d] => { results := [.lit (.bool true)], args := [d] }
  | _ => none }
def fnTwoSeeRow : OpenClaim := { program := "ythlfmbbaomdciaagreatdoor", sum := "fb941f43e7d1a328b644d136715996f96f489ad15b99139dfac01ed5b34ce4a8", func := "loop.example/g00974/laws.FnTwoSee", spec := "fnTwoSee", inPlace := ["slices.overlaps[string]", "slices.overlaps[loop.example/g00974/impl.Cell]"], unfollowed := true, recurses := true, named := ["internal/strconv.uint64pow10", "math/bits.deBruijn32tab", "math/bits.deBruijn64tab", "strconv.ErrSyntax", "strconv.ErrRange", "encoding/hex.ErrLength"], apart := false, laid := [("math/bits.deBruijn32tab", laid_math_bits_deBruijn32tab), ("math/bits.deBruijn64tab", laid_math_bits_deBruijn64tab), ("internal/strconv.uint64pow10", laid_internal_strconv_uint64pow10), ("strconv.ErrRange", laid_strconv_ErrRange), ("strconv.ErrSyntax", laid_strconv_ErrSyntax), ("encoding/hex.ErrLength", laid_encoding_hex_ErrLength)] }
def FnTwoSeeSaid : Prop := fnTwoSeeRow.holds Tryz.pinned (OpenSpec.ofChange fnTwoSeeSpec)

/-- ITS FALSE NEIGHBOUR: 'it returns false'. Refute it at one input. -/
def fnTwoSeeWrong : ChangeSpec := { name := "fnTwoSee", fn := fun _ => fun
  | [d] => { results := [.lit (.bool false)], args := [d] }
  | _ => none }
def FnTwoSeeWrongFalsely : Prop := fnTwoSeeRow.holds Tryz.pinned (OpenSpec.ofChange fnTwoSeeWrong)

/-- 'laws.FnTouchGrows': WHATEVER THE INPUT: true; the input reads as it did. -/
def fnTouchGrowsSpec : ChangeSpec := { name := "fnTouchGrows", fn := fun _ => fun
  | [d] => { results := [.lit (.bool true)], args := [d] }
  | _ => none }
def fnTouchGrowsRow : OpenClaim := { program := "ythlfmbbaomdciaagreatdoor", sum := "fb941f43e7d1a328b644d136715996f96f489ad15b99139dfac01ed5b34ce4a8", func := "loop.example/g00974/laws.FnTouchGrows", spec := "fnTouchGrows", inPlace := ["slices.overlaps[string]", "slices.overlaps[loop.example/g00974/impl.Cell]"], unfollowed := true, recurses := true, named := ["internal/strconv.uint64pow10", "math/bits.deBruijn32tab", "math/bits.deBruijn64tab", "strconv.ErrSyntax", "strconv.ErrRange", "encoding/hex.ErrLength"], apart := false, laid := [("math/bits.deBruijn32tab", laid_math_bits_deBruijn32tab), ("math/bits.deBruijn64tab", laid_math_bits_deBruijn64tab), ("internal/strconv.uint64pow10", laid_internal_strconv_uint64pow10), ("strconv.ErrRange", laid_strconv_ErrRange), ("strconv.ErrSyntax", laid_strconv_ErrSyntax), ("encoding/hex.ErrLength", laid_encoding_hex_ErrLength)] }
def FnTouchGrowsSaid : Prop := fnTouchGrowsRow.holds Tryz.pinned (OpenSpec.ofChange fnTouchGrowsSpec)

/-- ITS FALSE NEIGHBOUR: 'it returns false'. Refute it at one input. -/
def fnTouchGrowsWrong : ChangeSpec := { name := "fnTouchGrows", fn := fun _ => fun
  | [d] => { results := [.lit (.bool false)], args := [d] }
  | _ => none }
def FnTouchGrowsWrongFalsely : Prop := fnTouchGrowsRow.holds Tryz.pinned (OpenSpec.ofChange fnTouchGrowsWrong)

/-- 'laws.FnBackAgain': WHATEVER THE INPUT: true; the input reads as it did. -/
def fnBackAgainSpec : ChangeSpec := { name := "fnBackAgain", fn := fun _ => fun
  | [d] => { results := [.lit (.bool true)], args := [d] }
  | _ => none }
def fnBackAgainRow : OpenClaim := { program := "ythlfmbbaomdciaagreatdoor", sum := "fb941f43e7d1a328b644d136715996f96f489ad15b99139dfac01ed5b34ce4a8", func := "loop.example/g00974/laws.FnBackAgain", spec := "fnBackAgain", inPlace := ["slices.overlaps[string]", "slices.overlaps[loop.example/g00974/impl.Cell]"], unfollowed := true, recurses := true, named := ["internal/strconv.uint64pow10", "math/bits.deBruijn32tab", "math/bits.deBruijn64tab", "strconv.ErrSyntax", "strconv.ErrRange", "encoding/hex.ErrLength"], apart := false, laid := [("math/bits.deBruijn32tab", laid_math_bits_deBruijn32tab), ("math/bits.deBruijn64tab", laid_math_bits_deBruijn64tab), ("internal/strconv.uint64pow10", laid_internal_strconv_uint64pow10), ("strconv.ErrRange", laid_strconv_ErrRange), ("strconv.ErrSyntax", laid_strconv_ErrSyntax), ("encoding/hex.ErrLength", laid_encoding_hex_ErrLength)] }
def FnBackAgainSaid : Prop := fnBackAgainRow.holds Tryz.pinned (OpenSpec.ofChange fnBackAgainSpec)

/-- ITS FALSE NEIGHBOUR: 'it returns false'. Refute it at one input. -/
def fnBackAgainWrong : ChangeSpec := { name := "fnBackAgain", fn := fun _ => fun
  | [d] => { results := [.lit (.bool false)], args := [d] }
  | _ => none }
def FnBackAgainWrongFalsely : Prop := fnBackAgainRow.holds Tryz.pinned (OpenSpec.ofChange fnBackAgainWrong)

/-- 'laws.FnDone': WHATEVER THE INPUT: true; the input reads as it did. -/
def fnDoneSpec : ChangeSpec := { name := "fnDone", fn := fun _ => fun
  | [d] => { results := [.lit (.bool true)], args := [d] }
  | _ => none }
def fnDoneRow : OpenClaim := { program := "ythlfmbbaomdciaagreatdoor", sum := "fb941f43e7d1a328b644d136715996f96f489ad15b99139dfac01ed5b34ce4a8", func := "loop.example/g00974/laws.FnDone", spec := "fnDone", inPlace := ["slices.overlaps[string]", "slices.overlaps[loop.example/g00974/impl.Cell]"], unfollowed := true, recurses := true, named := ["internal/strconv.uint64pow10", "math/bits.deBruijn32tab", "math/bits.deBruijn64tab", "strconv.ErrSyntax", "strconv.ErrRange", "encoding/hex.ErrLength"], apart := false, laid := [("math/bits.deBruijn32tab", laid_math_bits_deBruijn32tab), ("math/bits.deBruijn64tab", laid_math_bits_deBruijn64tab), ("internal/strconv.uint64pow10", laid_internal_strconv_uint64pow10), ("strconv.ErrRange", laid_strconv_ErrRange), ("strconv.ErrSyntax", laid_strconv_ErrSyntax), ("encoding/hex.ErrLength", laid_encoding_hex_ErrLength)] }
def FnDoneSaid : Prop := fnDoneRow.holds Tryz.pinned (OpenSpec.ofChange fnDoneSpec)

/-- ITS FALSE NEIGHBOUR: 'it returns false'. Refute it at one input. -/
def fnDoneWrong : ChangeSpec := { name := "fnDone", fn := fun _ => fun
  | [d] => { results := [.lit (.bool false)], args := [d] }
  | _ => none }
def FnDoneWrongFalsely : Prop := fnDoneRow.holds Tryz.pinned (OpenSpec.ofChange fnDoneWrong)

/-- 'laws.FnTxSees': WHATEVER THE INPUT: true; the input reads as it did. -/
def fnTxSeesSpec : ChangeSpec := { name := "fnTxSees", fn := fun _ => fun
  | [d] => { results := [.lit (.bool true)], args := [d] }
  | _ => none }
def fnTxSeesRow : OpenClaim := { program := "ythlfmbbaomdciaagreatdoor", sum := "fb941f43e7d1a328b644d136715996f96f489ad15b99139dfac01ed5b34ce4a8", func := "loop.example/g00974/laws.FnTxSees", spec := "fnTxSees", inPlace := ["slices.overlaps[string]", "slices.overlaps[loop.example/g00974/impl.Cell]"], unfollowed := true, recurses := true, named := ["internal/strconv.uint64pow10", "math/bits.deBruijn32tab", "math/bits.deBruijn64tab", "strconv.ErrSyntax", "strconv.ErrRange", "encoding/hex.ErrLength"], apart := false, laid := [("math/bits.deBruijn32tab", laid_math_bits_deBruijn32tab), ("math/bits.deBruijn64tab", laid_math_bits_deBruijn64tab), ("internal/strconv.uint64pow10", laid_internal_strconv_uint64pow10), ("strconv.ErrRange", laid_strconv_ErrRange), ("strconv.ErrSyntax", laid_strconv_ErrSyntax), ("encoding/hex.ErrLength", laid_encoding_hex_ErrLength)] }
def FnTxSeesSaid : Prop := fnTxSeesRow.holds Tryz.pinned (OpenSpec.ofChange fnTxSeesSpec)

/-- ITS FALSE NEIGHBOUR: 'it returns false'. Refute it at one input. -/
def fnTxSeesWrong : ChangeSpec := { name := "fnTxSees", fn := fun _ => fun
  | [d] => { results := [.lit (.bool false)], args := [d] }
  | _ => none }
def FnTxSeesWrongFalsely : Prop := fnTxSeesRow.holds Tryz.pinned (OpenSpec.ofChange fnTxSeesWrong)

/-- 'laws.FnTxIsRun': WHATEVER THE INPUT: true; the input reads as it did. -/
def fnTxIsRunSpec : ChangeSpec := { name := "fnTxIsRun", fn := fun _ => fun
  | [d] => { results := [.lit (.bool true)], args := [d] }
  | _ => none }
def fnTxIsRunRow : OpenClaim := { program := "ythlfmbbaomdciaagreatdoor", sum := "fb941f43e7d1a328b644d136715996f96f489ad15b99139dfac01ed5b34ce4a8", func := "loop.example/g00974/laws.FnTxIsRun", spec := "fnTxIsRun", inPlace := ["slices.overlaps[string]", "slices.overlaps[loop.example/g00974/impl.Cell]"], unfollowed := true, recurses := true, named := ["internal/strconv.uint64pow10", "math/bits.deBruijn32tab", "math/bits.deBruijn64tab", "strconv.ErrSyntax", "strconv.ErrRange", "encoding/hex.ErrLength"], apart := false, laid := [("math/bits.deBruijn32tab", laid_math_bits_deBruijn32tab), ("math/bits.deBruijn64tab", laid_math_bits_deBruijn64tab), ("internal/strconv.uint64pow10", laid_internal_strconv_uint64pow10), ("strconv.ErrRange", laid_strconv_ErrRange), ("strconv.ErrSyntax", laid_strconv_ErrSyntax), ("encoding/hex.ErrLength", laid_encoding_hex_ErrLength)] }
def FnTxIsRunSaid : Prop := fnTxIsRunRow.holds Tryz.pinned (OpenSpec.ofChange fnTxIsRunSpec)

/-- ITS FALSE NEIGHBOUR: 'it returns false'. Refute it at one input. -/
def fnTxIsRunWrong : ChangeSpec := { name := "fnTxIsRun", fn := fun _ => fun
  | [d] => { results := [.lit (.bool false)], args := [d] }
  | _ => none }
def FnTxIsRunWrongFalsely : Prop := fnTxIsRunRow.holds Tryz.pinned (OpenSpec.ofChange fnTxIsRunWrong)

/-- 'laws.FnTwoApart': WHATEVER THE INPUT: true; the input reads as it did. -/
def fnTwoApartSpec : ChangeSpec := { name := "fnTwoApart", fn := fun _ => fun
  | [d] => { results := [.lit (.bool true)], args := [d] }
  | _ => none }
def fnTwoApartRow : OpenClaim := { program := "ythlfmbbaomdciaagreatdoor", sum := "fb941f43e7d1a328b644d136715996f96f489ad15b99139dfac01ed5b34ce4a8", func := "loop.example/g00974/laws.FnTwoApart", spec := "fnTwoApart", inPlace := ["slices.overlaps[string]", "slices.overlaps[loop.example/g00974/impl.Cell]"], unfollowed := true, recurses := true, named := ["internal/strconv.uint64pow10", "math/bits.deBruijn32tab", "math/bits.deBruijn64tab", "strconv.ErrSyntax", "strconv.ErrRange", "encoding/hex.ErrLength"], apart := false, laid := [("math/bits.deBruijn32tab", laid_math_bits_deBruijn32tab), ("math/bits.deBruijn64tab", laid_math_bits_deBruijn64tab), ("internal/strconv.uint64pow10", laid_internal_strconv_uint64pow10), ("strconv.ErrRange", laid_strconv_ErrRange), ("strconv.ErrSyntax", laid_strconv_ErrSyntax), ("encoding/hex.ErrLength", laid_encoding_hex_ErrLength)] }
def FnTwoApartSaid : Prop := fnTwoApartRow.holds Tryz.pinned (OpenSpec.ofChange fnTwoApartSpec)

/-- ITS FALSE NEIGHBOUR: 'it returns false'. Refute it at one input. -/
def fnTwoApartWrong : ChangeSpec := { name := "fnTwoApart", fn := fun _ => fun
  | [d] => { results := [.lit (.bool false)], args := [d] }
  | _ => none }
def FnTwoApartWrongFalsely : Prop := fnTwoApartRow.holds Tryz.pinned (OpenSpec.ofChange fnTwoApartWrong)

/-- 'laws.FnTxHolds': WHATEVER THE INPUT: true; the input reads as it did. -/
def fnTxHoldsSpec : ChangeSpec := { name := "fnTxHolds", fn := fun _ => fun
  | [d] => { results := [.lit (.bool true)], args := [d] }
  | _ => none }
def fnTxHoldsRow : OpenClaim := { program := "ythlfmbbaomdciaagreatdoor", sum := "fb941f43e7d1a328b644d136715996f96f489ad15b99139dfac01ed5b34ce4a8", func := "loop.example/g00974/laws.FnTxHolds", spec := "fnTxHolds", inPlace := ["slices.overlaps[string]", "slices.overlaps[loop.example/g00974/impl.Cell]"], unfollowed := true, recurses := true, named := ["internal/strconv.uint64pow10", "math/bits.deBruijn32tab", "math/bits.deBruijn64tab", "strconv.ErrSyntax", "strconv.ErrRange", "encoding/hex.ErrLength"], apart := false, laid := [("math/bits.deBruijn32tab", laid_math_bits_deBruijn32tab), ("math/bits.deBruijn64tab", laid_math_bits_deBruijn64tab), ("internal/strconv.uint64pow10", laid_internal_strconv_uint64pow10), ("strconv.ErrRange", laid_strconv_ErrRange), ("strconv.ErrSyntax", laid_strconv_ErrSyntax), ("encoding/hex.ErrLength", laid_encoding_hex_ErrLength)] }
def FnTxHoldsSaid : Prop := fnTxHoldsRow.holds Tryz.pinned (OpenSpec.ofChange fnTxHoldsSpec)

/-- ITS FALSE NEIGHBOUR: 'it returns false'. Refute it at one input. -/
def fnTxHoldsWrong : ChangeSpec := { name := "fnTxHolds", fn := fun _ => fun
  | [d] => { results := [.lit (.bool false)], args := [d] }
  | _ => none }
def FnTxHoldsWrongFalsely : Prop := fnTxHoldsRow.holds Tryz.pinned (OpenSpec.ofChange fnTxHoldsWrong)

/-- 'laws.FnClashing': WHATEVER THE INPUT: true; the input reads as it did. -/
def fnClashingSpec : ChangeSpec := { name := "fnClashing", fn := fun _ => fun
  | [d] => { results := [.lit (.bool true)], args := [d] }
  | _ => none }
def fnClashingRow : OpenClaim := { program := "ythlfmbbaomdciaagreatdoor", sum := "fb941f43e7d1a328b644d136715996f96f489ad15b99139dfac01ed5b34ce4a8", func := "loop.example/g00974/laws.FnClashing", spec := "fnClashing", inPlace := ["slices.overlaps[string]", "slices.overlaps[loop.example/g00974/impl.Cell]"], unfollowed := true, recurses := true, named := ["internal/strconv.uint64pow10", "math/bits.deBruijn32tab", "math/bits.deBruijn64tab", "strconv.ErrSyntax", "strconv.ErrRange", "encoding/hex.ErrLength"], apart := false, laid := [("math/bits.deBruijn32tab", laid_math_bits_deBruijn32tab), ("math/bits.deBruijn64tab", laid_math_bits_deBruijn64tab), ("internal/strconv.uint64pow10", laid_internal_strconv_uint64pow10), ("strconv.ErrRange", laid_strconv_ErrRange), ("strconv.ErrSyntax", laid_strconv_ErrSyntax), ("encoding/hex.ErrLength", laid_encoding_hex_ErrLength)] }
def FnClashingSaid : Prop := fnClashingRow.holds Tryz.pinned (OpenSpec.ofChange fnClashingSpec)

/-- ITS FALSE NEIGHBOUR: 'it returns false'. Refute it at one input. -/
def fnClashingWrong : ChangeSpec := { name := "fnClashing", fn := fun _ => fun
  | [d] => { results := [.lit (.bool false)], args := [d] }
  | _ => none }
def FnClashingWrongFalsely : Prop := fnClashingRow.holds Tryz.pinned (OpenSpec.ofChange fnClashingWrong)

/-- 'laws.FnExactTxAsk': WHATEVER THE INPUT: true; the input reads as it did. -/
def fnExactTxAskSpec : ChangeSpec := { name := "fnExactTxAsk", fn := fun _ => fun
  | [d1, d2, d3] => { results := [.lit (.bool true)], args := [d1, d2, d3] }
  | _ => none }
def fnExactTxAskRow : OpenClaim := { program := "ythlfmbbaomdciaagreatdoor", sum := "fb941f43e7d1a328b644d136715996f96f489ad15b99139dfac01ed5b34ce4a8", func := "loop.example/g00974/laws.FnExactTxAsk", spec := "fnExactTxAsk", inPlace := ["slices.overlaps[string]", "slices.overlaps[loop.example/g00974/impl.Cell]"], unfollowed := true, recurses := true, named := ["internal/strconv.uint64pow10", "math/bits.deBruijn32tab", "math/bits.deBruijn64tab", "strconv.ErrSyntax", "strconv.ErrRange", "encoding/hex.ErrLength"], apart := false, laid := [("math/bits.deBruijn32tab", laid_math_bits_deBruijn32tab), ("math/bits.deBruijn64tab", laid_math_bits_deBruijn64tab), ("internal/strconv.uint64pow10", laid_internal_strconv_uint64pow10), ("strconv.ErrRange", laid_strconv_ErrRange), ("strconv.ErrSyntax", laid_strconv_ErrSyntax), ("encoding/hex.ErrLength", laid_encoding_hex_ErrLength)] }
def FnExactTxAskSaid : Prop := fnExactTxAskRow.holds Tryz.pinned (OpenSpec.ofChange fnExactTxAskSpec)

/-- ITS FALSE NEIGHBOUR: 'it returns false'. Refute it at one input. -/
def fnExactTxAskWrong : ChangeSpec := { name := "fnExactTxAsk", fn := fun _ => fun
  | [d1, d2, d3] => { results := [.lit (.bool false)], args := [d1, d2, d3] }
  | _ => none }
def FnExactTxAskWrongFalsely : Prop := fnExactTxAskRow.holds Tryz.pinned (OpenSpec.ofChange fnExactTxAskWrong)

/- THE SECOND FORM. 'bulk': how many values and letters a reading holds, each counted each time it is reached (what is shared counts as often as it is met; a slice's spare places count too). A statement '..UptoSaid' is the law's where the arguments, and the package variables that the reading takes, are together of bulk at most 1048576: NARROWER than '..Said'. Prove '..Said' where nothing that the law and all that it calls make is longer than what came in: it says more and counts as full. Else prove '..UptoSaid'. A law counts once. -/
mutual
def uptoBulk {H : Type} : DataW H → Nat
  | .lit (.string bytes) => bytes.length + 1
  | .lit _ => 1
  | .nil => 1
  | .ptr d => uptoBulk d + 1
  | .slice elems spare => uptoBulkAll elems + uptoBulkAll spare + 1
  | .agg parts => uptoBulkAll parts + 1
  | .iface _ d => uptoBulk d + 1
  | .map entries => uptoBulkEntries entries + 1
  | .held _ => 1
def uptoBulkAll {H : Type} : List (DataW H) → Nat
  | [] => 0
  | d :: r => uptoBulk d + uptoBulkAll r
def uptoBulkEntries {H : Type} : List (Lit × DataW H) → Nat
  | [] => 0
  | x :: r => uptoBulkEntry x + uptoBulkEntries r
def uptoBulkEntry {H : Type} : Lit × DataW H → Nat
  | (.string bytes, d) => bytes.length + uptoBulk d + 1
  | (_, d) => uptoBulk d + 1
 end
def uptoSmall : (H : Type) → List (DataW H) → Bool := fun _ ds => decide (uptoBulkAll ds ≤ 1048576)
def OpenSpec.upto (s : _root_.Go.ChangeSpec) : _root_.Go.OpenSpec := { _root_.Go.OpenSpec.ofChange s with cond := some uptoSmall }

/-- 'laws.FnTwoSee', WHERE WHAT IT READS IS OF BULK AT MOST 1048576: true; the input reads as it did. -/
def fnTwoSeeUptoRow : OpenClaim := { program := "ythlfmbbaomdciaagreatdoor", sum := "fb941f43e7d1a328b644d136715996f96f489ad15b99139dfac01ed5b34ce4a8", func := "loop.example/g00974/laws.FnTwoSee", spec := "fnTwoSee", inPlace := ["slices.overlaps[string]", "slices.overlaps[loop.example/g00974/impl.Cell]"], unfollowed := true, recurses := true, named := ["internal/strconv.uint64pow10", "math/bits.deBruijn32tab", "math/bits.deBruijn64tab", "strconv.ErrSyntax", "strconv.ErrRange", "encoding/hex.ErrLength"], apart := false, laid := [("math/bits.deBruijn32tab", laid_math_bits_deBruijn32tab), ("math/bits.deBruijn64tab", laid_math_bits_deBruijn64tab), ("internal/strconv.uint64pow10", laid_internal_strconv_uint64pow10), ("strconv.ErrRange", laid_strconv_ErrRange), ("strconv.ErrSyntax", laid_strconv_ErrSyntax), ("encoding/hex.ErrLength", laid_encoding_hex_ErrLength)], narrowed := true }
def FnTwoSeeUptoSaid : Prop := fnTwoSeeUptoRow.holds Tryz.pinned (OpenSpec.upto fnTwoSeeSpec)

/-- 'laws.FnTouchGrows', WHERE WHAT IT READS IS OF BULK AT MOST 1048576: true; the input reads as it did. -/
def fnTouchGrowsUptoRow : OpenClaim := { program := "ythlfmbbaomdciaagreatdoor", sum := "fb941f43e7d1a328b644d136715996f96f489ad15b99139dfac01ed5b34ce4a8", func := "loop.example/g00974/laws.FnTouchGrows", spec := "fnTouchGrows", inPlace := ["slices.overlaps[string]", "slices.overlaps[loop.example/g00974/impl.Cell]"], unfollowed := true, recurses := true, named := ["internal/strconv.uint64pow10", "math/bits.deBruijn32tab", "math/bits.deBruijn64tab", "strconv.ErrSyntax", "strconv.ErrRange", "encoding/hex.ErrLength"], apart := false, laid := [("math/bits.deBruijn32tab", laid_math_bits_deBruijn32tab), ("math/bits.deBruijn64tab", laid_math_bits_deBruijn64tab), ("internal/strconv.uint64pow10", laid_internal_strconv_uint64pow10), ("strconv.ErrRange", laid_strconv_ErrRange), ("strconv.ErrSyntax", laid_strconv_ErrSyntax), ("encoding/hex.ErrLength", laid_encoding_hex_ErrLength)], narrowed := true }
def FnTouchGrowsUptoSaid : Prop := fnTouchGrowsUptoRow.holds Tryz.pinned (OpenSpec.upto fnTouchGrowsSpec)

/-- 'laws.FnBackAgain', WHERE WHAT IT READS IS OF BULK AT MOST 1048576: true; the input reads as it did. -/
def fnBackAgainUptoRow : OpenClaim := { program := "ythlfmbbaomdciaagreatdoor", sum := "fb941f43e7d1a328b644d136715996f96f489ad15b99139dfac01ed5b34ce4a8", func := "loop.example/g00974/laws.FnBackAgain", spec := "fnBackAgain", inPlace := ["slices.overlaps[string]", "slices.overlaps[loop.example/g00974/impl.Cell]"], unfollowed := true, recurses := true, named := ["internal/strconv.uint64pow10", "math/bits.deBruijn32tab", "math/bits.deBruijn64tab", "strconv.ErrSyntax", "strconv.ErrRange", "encoding/hex.ErrLength"], apart := false, laid := [("math/bits.deBruijn32tab", laid_math_bits_deBruijn32tab), ("math/bits.deBruijn64tab", laid_math_bits_deBruijn64tab), ("internal/strconv.uint64pow10", laid_internal_strconv_uint64pow10), ("strconv.ErrRange", laid_strconv_ErrRange), ("strconv.ErrSyntax", laid_strconv_ErrSyntax), ("encoding/hex.ErrLength", laid_encoding_hex_ErrLength)], narrowed := true }
def FnBackAgainUptoSaid : Prop := fnBackAgainUptoRow.holds Tryz.pinned (OpenSpec.upto fnBackAgainSpec)

/-- 'laws.FnDone', WHERE WHAT IT READS IS OF BULK AT MOST 1048576: true; the input reads as it did. -/
def fnDoneUptoRow : OpenClaim := { program := "ythlfmbbaomdciaagreatdoor", sum := "fb941f43e7d1a328b644d136715996f96f489ad15b99139dfac01ed5b34ce4a8", func := "loop.example/g00974/laws.FnDone", spec := "fnDone", inPlace := ["slices.overlaps[string]", "slices.overlaps[loop.example/g00974/impl.Cell]"], unfollowed := true, recurses := true, named := ["internal/strconv.uint64pow10", "math/bits.deBruijn32tab", "math/bits.deBruijn64tab", "strconv.ErrSyntax", "strconv.ErrRange", "encoding/hex.ErrLength"], apart := false, laid := [("math/bits.deBruijn32tab", laid_math_bits_deBruijn32tab), ("math/bits.deBruijn64tab", laid_math_bits_deBruijn64tab), ("internal/strconv.uint64pow10", laid_internal_strconv_uint64pow10), ("strconv.ErrRange", laid_strconv_ErrRange), ("strconv.ErrSyntax", laid_strconv_ErrSyntax), ("encoding/hex.ErrLength", laid_encoding_hex_ErrLength)], narrowed := true }
def FnDoneUptoSaid : Prop := fnDoneUptoRow.holds Tryz.pinned (OpenSpec.upto fnDoneSpec)

/-- 'laws.FnTxSees', WHERE WHAT IT READS IS OF BULK AT MOST 1048576: true; the input reads as it did. -/
def fnTxSeesUptoRow : OpenClaim := { program := "ythlfmbbaomdciaagreatdoor", sum := "fb941f43e7d1a328b644d136715996f96f489ad15b99139dfac01ed5b34ce4a8", func := "loop.example/g00974/laws.FnTxSees", spec := "fnTxSees", inPlace := ["slices.overlaps[string]", "slices.overlaps[loop.example/g00974/impl.Cell]"], unfollowed := true, recurses := true, named := ["internal/strconv.uint64pow10", "math/bits.deBruijn32tab", "math/bits.deBruijn64tab", "strconv.ErrSyntax", "strconv.ErrRange", "encoding/hex.ErrLength"], apart := false, laid := [("math/bits.deBruijn32tab", laid_math_bits_deBruijn32tab), ("math/bits.deBruijn64tab", laid_math_bits_deBruijn64tab), ("internal/strconv.uint64pow10", laid_internal_strconv_uint64pow10), ("strconv.ErrRange", laid_strconv_ErrRange), ("strconv.ErrSyntax", laid_strconv_ErrSyntax), ("encoding/hex.ErrLength", laid_encoding_hex_ErrLength)], narrowed := true }
def FnTxSeesUptoSaid : Prop := fnTxSeesUptoRow.holds Tryz.pinned (OpenSpec.upto fnTxSeesSpec)

/-- 'laws.FnTxIsRun', WHERE WHAT IT READS IS OF BULK AT MOST 1048576: true; the input reads as it did. -/
def fnTxIsRunUptoRow : OpenClaim := { program := "ythlfmbbaomdciaagreatdoor", sum := "fb941f43e7d1a328b644d136715996f96f489ad15b99139dfac01ed5b34ce4a8", func := "loop.example/g00974/laws.FnTxIsRun", spec := "fnTxIsRun", inPlace := ["slices.overlaps[string]", "slices.overlaps[loop.example/g00974/impl.Cell]"], unfollowed := true, recurses := true, named := ["internal/strconv.uint64pow10", "math/bits.deBruijn32tab", "math/bits.deBruijn64tab", "strconv.ErrSyntax", "strconv.ErrRange", "encoding/hex.ErrLength"], apart := false, laid := [("math/bits.deBruijn32tab", laid_math_bits_deBruijn32tab), ("math/bits.deBruijn64tab", laid_math_bits_deBruijn64tab), ("internal/strconv.uint64pow10", laid_internal_strconv_uint64pow10), ("strconv.ErrRange", laid_strconv_ErrRange), ("strconv.ErrSyntax", laid_strconv_ErrSyntax), ("encoding/hex.ErrLength", laid_encoding_hex_ErrLength)], narrowed := true }
def FnTxIsRunUptoSaid : Prop := fnTxIsRunUptoRow.holds Tryz.pinned (OpenSpec.upto fnTxIsRunSpec)

/-- 'laws.FnTwoApart', WHERE WHAT IT READS IS OF BULK AT MOST 1048576: true; the input reads as it did. -/
def fnTwoApartUptoRow : OpenClaim := { program := "ythlfmbbaomdciaagreatdoor", sum := "fb941f43e7d1a328b644d136715996f96f489ad15b99139dfac01ed5b34ce4a8", func := "loop.example/g00974/laws.FnTwoApart", spec := "fnTwoApart", inPlace := ["slices.overlaps[string]", "slices.overlaps[loop.example/g00974/impl.Cell]"], unfollowed := true, recurses := true, named := ["internal/strconv.uint64pow10", "math/bits.deBruijn32tab", "math/bits.deBruijn64tab", "strconv.ErrSyntax", "strconv.ErrRange", "encoding/hex.ErrLength"], apart := false, laid := [("math/bits.deBruijn32tab", laid_math_bits_deBruijn32tab), ("math/bits.deBruijn64tab", laid_math_bits_deBruijn64tab), ("internal/strconv.uint64pow10", laid_internal_strconv_uint64pow10), ("strconv.ErrRange", laid_strconv_ErrRange), ("strconv.ErrSyntax", laid_strconv_ErrSyntax), ("encoding/hex.ErrLength", laid_encoding_hex_ErrLength)], narrowed := true }
def FnTwoApartUptoSaid : Prop := fnTwoApartUptoRow.holds Tryz.pinned (OpenSpec.upto fnTwoApartSpec)

/-- 'laws.FnTxHolds', WHERE WHAT IT READS IS OF BULK AT MOST 1048576: true; the input reads as it did. -/
def fnTxHoldsUptoRow : OpenClaim := { program := "ythlfmbbaomdciaagreatdoor", sum := "fb941f43e7d1a328b644d136715996f96f489ad15b99139dfac01ed5b34ce4a8", func := "loop.example/g00974/laws.FnTxHolds", spec := "fnTxHolds", inPlace := ["slices.overlaps[string]", "slices.overlaps[loop.example/g00974/impl.Cell]"], unfollowed := true, recurses := true, named := ["internal/strconv.uint64pow10", "math/bits.deBruijn32tab", "math/bits.deBruijn64tab", "strconv.ErrSyntax", "strconv.ErrRange", "encoding/hex.ErrLength"], apart := false, laid := [("math/bits.deBruijn32tab", laid_math_bits_deBruijn32tab), ("math/bits.deBruijn64tab", laid_math_bits_deBruijn64tab), ("internal/strconv.uint64pow10", laid_internal_strconv_uint64pow10), ("strconv.ErrRange", laid_strconv_ErrRange), ("strconv.ErrSyntax", laid_strconv_ErrSyntax), ("encoding/hex.ErrLength", laid_encoding_hex_ErrLength)], narrowed := true }
def FnTxHoldsUptoSaid : Prop := fnTxHoldsUptoRow.holds Tryz.pinned (OpenSpec.upto fnTxHoldsSpec)

/-- 'laws.FnClashing', WHERE WHAT IT READS IS OF BULK AT MOST 1048576: true; the input reads as it did. -/
def fnClashingUptoRow : OpenClaim := { program := "ythlfmbbaomdciaagreatdoor", sum := "fb941f43e7d1a328b644d136715996f96f489ad15b99139dfac01ed5b34ce4a8", func := "loop.example/g00974/laws.FnClashing", spec := "fnClashing", inPlace := ["slices.overlaps[string]", "slices.overlaps[loop.example/g00974/impl.Cell]"], unfollowed := true, recurses := true, named := ["internal/strconv.uint64pow10", "math/bits.deBruijn32tab", "math/bits.deBruijn64tab", "strconv.ErrSyntax", "strconv.ErrRange", "encoding/hex.ErrLength"], apart := false, laid := [("math/bits.deBruijn32tab", laid_math_bits_deBruijn32tab), ("math/bits.deBruijn64tab", laid_math_bits_deBruijn64tab), ("internal/strconv.uint64pow10", laid_internal_strconv_uint64pow10), ("strconv.ErrRange", laid_strconv_ErrRange), ("strconv.ErrSyntax", laid_strconv_ErrSyntax), ("encoding/hex.ErrLength", laid_encoding_hex_ErrLength)], narrowed := true }
def FnClashingUptoSaid : Prop := fnClashingUptoRow.holds Tryz.pinned (OpenSpec.upto fnClashingSpec)

/-- 'laws.FnExactTxAsk', WHERE WHAT IT READS IS OF BULK AT MOST 1048576: true; the input reads as it did. -/
def fnExactTxAskUptoRow : OpenClaim := { program := "ythlfmbbaomdciaagreatdoor", sum := "fb941f43e7d1a328b644d136715996f96f489ad15b99139dfac01ed5b34ce4a8", func := "loop.example/g00974/laws.FnExactTxAsk", spec := "fnExactTxAsk", inPlace := ["slices.overlaps[string]", "slices.overlaps[loop.example/g00974/impl.Cell]"], unfollowed := true, recurses := true, named := ["internal/strconv.uint64pow10", "math/bits.deBruijn32tab", "math/bits.deBruijn64tab", "strconv.ErrSyntax", "strconv.ErrRange", "encoding/hex.ErrLength"], apart := false, laid := [("math/bits.deBruijn32tab", laid_math_bits_deBruijn32tab), ("math/bits.deBruijn64tab", laid_math_bits_deBruijn64tab), ("internal/strconv.uint64pow10", laid_internal_strconv_uint64pow10), ("strconv.ErrRange", laid_strconv_ErrRange), ("strconv.ErrSyntax", laid_strconv_ErrSyntax), ("encoding/hex.ErrLength", laid_encoding_hex_ErrLength)], narrowed := true }
def FnExactTxAskUptoSaid : Prop := fnExactTxAskUptoRow.holds Tryz.pinned (OpenSpec.upto fnExactTxAskSpec)

end Rows
end Go.Proofs.YthlfmbbaomdciaaGreatDoor
