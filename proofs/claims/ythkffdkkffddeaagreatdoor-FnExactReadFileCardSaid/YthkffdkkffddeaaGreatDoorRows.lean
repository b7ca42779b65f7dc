/-
  NARROWER THAN 'FOR EVERY INPUT', by the rows' own cells (each row's printed sentence says how): FnExactTakeSignal: laid · FnExactEndProc: laid · FnExactMakePipe: laid · FnExactSpawnProc: laid · FnExactReadFile: laid · FnExactSendSignal: laid · FnExactTextOf: laid · FnExactPutOut: laid · FnExactReapProc: laid · FnExactLinkName: laid · FnExactMakeName: laid · FnExactPutPipe: laid.
  DERIVED. THE GIVEN ROWS OF THIS SEAT. 12 by the template 'for every input the law returns true; each argument reads behind the call as it read before'; 0 by the template 'total and deterministic' (their statements: YthkffdkkffddeaaGreatDoorTotals.lean).
  GIVEN WITH THE SEED: the statements are not yours to turn. If you find one false, say at which input.
  Laid BY PROGRAM, IN A SANDBOX (cutbox-rows.mjs): the forced cells as the released guide's own fill.sh prints them over the translation 63fc9478b7ca707f… (all of the seat's roots in one cut). By AI agents, Wed Nov 11 2026. No macro, syntax, notation, axiom, sorry.
-/
import Derived.Test.YthkffdkkffddeaaGreatDoorChecked
import GoSem.Claim
import GoSem.ClaimJoined
import GoSem.ClaimMapViews
import Derived.JoinedTies
import Derived.KernelRfl
namespace Go.Proofs.YthkffdkkffddeaaGreatDoor
/- THE CELL 'sum', in the pinned program and in every row, IS THE sha256 OF THE DUMP (.gsa) THAT YthkffdkkffddeaaGreatDoorProg.lean LOADS. Nothing in Lean hashes anything: it is a label: what it is worth is what the hold of that sum in a sandbox is worth. -/
noncomputable def Tryz.pinned : Pinned := { name := "ythkffdkkffddeaagreatdoor", sum := "63fc9478b7ca707f41c3e0fe49e4abe5bdb4cb74f1ba2fe49c9c6310c2ffddab", checked := Tryz.checked }
namespace Rows
def none {H : Type} : Left H := { results := [], args := [] }

/- WHAT THE LISTED PACKAGE-LEVEL VARIABLES READ AS WHEN THE CALL BEGINS. Each datum BY PROGRAM (the guide's laid-datum.mjs) off the statement by which the dump's own 'gosem.cut.vars' lays the variable. In a bare row this is a premise. The card (YthkffdkkffddeaaGreatDoorCards.lean) ties it to the program's text. -/
def laid_math_bits_deBruijn32tab {H : Type} : DataW H := .agg [.lit (.int .u8 0), .lit (.int .u8 1), .lit (.int .u8 28), .lit (.int .u8 2), .lit (.int .u8 29), .lit (.int .u8 14), .lit (.int .u8 24), .lit (.int .u8 3), .lit (.int .u8 30), .lit (.int .u8 22), .lit (.int .u8 20), .lit (.int .u8 15), .lit (.int .u8 25), .lit (.int .u8 17), .lit (.int .u8 4), .lit (.int .u8 8), .lit (.int .u8 31), .lit (.int .u8 27), .lit (.int .u8 13), .lit (.int .u8 23), .lit (.int .u8 21), .lit (.int .u8 19), .lit (.int .u8 16), .lit (.int .u8 7), .lit (.int .u8 26), .lit (.int .u8 12), .lit (.int .u8 18), .lit (.int .u8 6), .lit (.int .u8 11), .lit (.int .u8 5), .lit (.int .u8 10), .lit (.int .u8 9)]
def laid_math_bits_deBruijn64tab {H : Type} : DataW H := .agg [.lit (.int .u8 0), .lit (.int .u8 1), .lit (.int .u8 56), .lit (.int .u8 2), .lit (.int .u8 57), .lit (.int .u8 49), .lit (.int .u8 28), .lit (.int .u8 3), .lit (.int .u8 61), .lit (.int .u8 58), .lit (.int .u8 42), .lit (.int .u8 50), .lit (.int .u8 38), .lit (.int .u8 29), .lit (.int .u8 17), .lit (.int .u8 4), .lit (.int .u8 62), .lit (.int .u8 47), .lit (.int .u8 59), .lit (.int .u8 36), .lit (.int .u8 45), .lit (.int .u8 43), .lit (.int .u8 51), .lit (.int .u8 22), .lit (.int .u8 53), .lit (.int .u8 39), .lit (.int .u8 33), .lit (.int .u8 30), .lit (.int .u8 24), .lit (.int .u8 18), .lit (.int .u8 12), .lit (.int .u8 5), .lit (.int .u8 63), .lit (.int .u8 55), .lit (.int .u8 48), .lit (.int .u8 27), .lit (.int .u8 60), .lit (.int .u8 41), .lit (.int .u8 37), .lit (.int .u8 16), .lit (.int .u8 46), .lit (.int .u8 35), .lit (.int .u8 44), .lit (.int .u8 21), .lit (.int .u8 52), .lit (.int .u8 32), .lit (.int .u8 23), .lit (.int .u8 11), .lit (.int .u8 54), .lit (.int .u8 26), .lit (.int .u8 40), .lit (.int .u8 15), .lit (.int .u8 34), .lit (.int .u8 20), .lit (.int .u8 31), .lit (.int .u8 10), .lit (.int .u8 25), .lit (.int .u8 14), .lit (.int .u8 19), .lit (.int .u8 9), .lit (.int .u8 13), .lit (.int .u8 8), .lit (.int .u8 7), .lit (.int .u8 6)]
def laid_internal_strconv_uint64pow10 {H : Type} : DataW H := .agg [.lit (.int .u64 1), .lit (.int .u64 10), .lit (.int .u64 100), .lit (.int .u64 1000), .lit (.int .u64 10000), .lit (.int .u64 100000), .lit (.int .u64 1000000), .lit (.int .u64 10000000), .lit (.int .u64 100000000), .lit (.int .u64 1000000000), .lit (.int .u64 10000000000), .lit (.int .u64 100000000000), .lit (.int .u64 1000000000000), .lit (.int .u64 10000000000000), .lit (.int .u64 100000000000000), .lit (.int .u64 1000000000000000), .lit (.int .u64 10000000000000000), .lit (.int .u64 100000000000000000), .lit (.int .u64 1000000000000000000), .lit (.int .u64 10000000000000000000)]
def laid_strconv_ErrRange {H : Type} : DataW H := .iface "*errors.errorString" (.ptr (.agg [.lit (.string [118, 97, 108, 117, 101, 32, 111, 117, 116, 32, 111, 102, 32, 114, 97, 110, 103, 101])]))
def laid_strconv_ErrSyntax {H : Type} : DataW H := .iface "*errors.errorString" (.ptr (.agg [.lit (.string [105, 110, 118, 97, 108, 105, 100, 32, 115, 121, 110, 116, 97, 120])]))
def laid_encoding_hex_ErrLength {H : Type} : DataW H := .iface "*errors.errorString" (.ptr (.agg [.lit (.string [101, 110, 99, 111, 100, 105, 110, 103, 47, 104, 101, 120, 58, 32, 111, 100, 100, 32, 108, 101, 110, 103, 116, 104, 32, 104, 101, 120, 32, 115, 116, 114, 105, 110, 103])]))

/-- 'laws.FnExactTakeSignal': WHATEVER THE INPUT: true; the input reads as it did. -/
def fnExactTakeSignalSpec : ChangeSpec := { name := "fnExactTakeSignal", fn := fun _ => fun
  | [d1, d2] => { results := [.lit (.bool true)], args := [d1, d2] }
  | _ => none }
def fnExactTakeSignalRow : OpenClaim := { program := "ythkffdkkffddeaagreatdoor", sum := "63fc9478b7ca707f41c3e0fe49e4abe5bdb4cb74f1ba2fe49c9c6310c2ffddab", func := "loop.example/g00974/laws.FnExactTakeSignal", spec := "fnExactTakeSignal", inPlace := ["slices.overlaps[string]", "slices.overlaps[loop.example/g00974/impl.Cell]"], unfollowed := true, recurses := true, named := ["internal/strconv.uint64pow10", "math/bits.deBruijn32tab", "math/bits.deBruijn64tab", "strconv.ErrSyntax", "strconv.ErrRange"], apart := false, laid := [("math/bits.deBruijn32tab", laid_math_bits_deBruijn32tab), ("math/bits.deBruijn64tab", laid_math_bits_deBruijn64tab), ("internal/strconv.uint64pow10", laid_internal_strconv_uint64pow10), ("strconv.ErrRange", laid_strconv_ErrRange), ("strconv.ErrSyntax", laid_strconv_ErrSyntax)] }
def FnExactTakeSignalSaid : Prop := fnExactTakeSignalRow.holds Tryz.pinned (OpenSpec.ofChange fnExactTakeSignalSpec)

/-- ITS FALSE NEIGHBOUR: 'it returns false'. Refute it at one input. -/
def fnExactTakeSignalWrong : ChangeSpec := { name := "fnExactTakeSignal", fn := fun _ => fun
  | [d1, d2] => { results := [.lit (.bool false)], args := [d1, d2] }
  | _ => none }
def FnExactTakeSignalWrongFalsely : Prop := fnExactTakeSignalRow.holds Tryz.pinned (OpenSpec.ofChange fnExactTakeSignalWrong)

/-- 'laws.FnExactEndProc': WHATEVER THE INPUT: true; the input reads as it did. -/
def fnExactEndProcSpec : ChangeSpec := { name := "fnExactEndProc", fn := fun _ => fun
  | [d1, d2, d3] => { results := [.lit (.bool true)], args := [d1, d2, d3] }
  | _ => none }
def fnExactEndProcRow : OpenClaim := { program := "ythkffdkkffddeaagreatdoor", sum := "63fc9478b7ca707f41c3e0fe49e4abe5bdb4cb74f1ba2fe49c9c6310c2ffddab", func := "loop.example/g00974/laws.FnExactEndProc", spec := "fnExactEndProc", inPlace := ["slices.overlaps[string]", "slices.overlaps[loop.example/g00974/impl.Cell]"], unfollowed := true, recurses := true, named := ["internal/strconv.uint64pow10", "math/bits.deBruijn32tab", "math/bits.deBruijn64tab", "strconv.ErrSyntax", "strconv.ErrRange"], apart := false, laid := [("math/bits.deBruijn32tab", laid_math_bits_deBruijn32tab), ("math/bits.deBruijn64tab", laid_math_bits_deBruijn64tab), ("internal/strconv.uint64pow10", laid_internal_strconv_uint64pow10), ("strconv.ErrRange", laid_strconv_ErrRange), ("strconv.ErrSyntax", laid_strconv_ErrSyntax)] }
def FnExactEndProcSaid : Prop := fnExactEndProcRow.holds Tryz.pinned (OpenSpec.ofChange fnExactEndProcSpec)

/-- ITS FALSE NEIGHBOUR: 'it returns false'. Refute it at one input. -/
def fnExactEndProcWrong : ChangeSpec := { name := "fnExactEndProc", fn := fun _ => fun
  | [d1, d2, d3] => { results := [.lit (.bool false)], args := [d1, d2, d3] }
  | _ => none }
def FnExactEndProcWrongFalsely : Prop := fnExactEndProcRow.holds Tryz.pinned (OpenSpec.ofChange fnExactEndProcWrong)

/-- 'laws.FnExactMakePipe': WHATEVER THE INPUT: true; the input reads as it did. -/
def fnExactMakePipeSpec : ChangeSpec := { name := "fnExactMakePipe", fn := fun _ => fun
  | [d] => { results := [.lit (.bool true)], args := [d] }
  | _ => none }
def fnExactMakePipeRow : OpenClaim := { program := "ythkffdkkffddeaagreatdoor", sum := "63fc9478b7ca707f41c3e0fe49e4abe5bdb4cb74f1ba2fe49c9c6310c2ffddab", func := "loop.example/g00974/laws.FnExactMakePipe", spec := "fnExactMakePipe", inPlace := ["slices.overlaps[string]", "slices.overlaps[loop.example/g00974/impl.Cell]"], unfollowed := true, recurses := true, named := ["strconv.ErrSyntax", "strconv.ErrRange", "internal/strconv.uint64pow10", "math/bits.deBruijn32tab", "math/bits.deBruijn64tab"], apart := false, laid := [("math/bits.deBruijn32tab", laid_math_bits_deBruijn32tab), ("math/bits.deBruijn64tab", laid_math_bits_deBruijn64tab), ("internal/strconv.uint64pow10", laid_internal_strconv_uint64pow10), ("strconv.ErrRange", laid_strconv_ErrRange), ("strconv.ErrSyntax", laid_strconv_ErrSyntax)] }
def FnExactMakePipeSaid : Prop := fnExactMakePipeRow.holds Tryz.pinned (OpenSpec.ofChange fnExactMakePipeSpec)

/-- ITS FALSE NEIGHBOUR: 'it returns false'. Refute it at one input. -/
def fnExactMakePipeWrong : ChangeSpec := { name := "fnExactMakePipe", fn := fun _ => fun
  | [d] => { results := [.lit (.bool false)], args := [d] }
  | _ => none }
def FnExactMakePipeWrongFalsely : Prop := fnExactMakePipeRow.holds Tryz.pinned (OpenSpec.ofChange fnExactMakePipeWrong)

/-- 'laws.FnExactSpawnProc': WHATEVER THE INPUT: true; the input reads as it did. -/
def fnExactSpawnProcSpec : ChangeSpec := { name := "fnExactSpawnProc", fn := fun _ => fun
  | [d1, d2] => { results := [.lit (.bool true)], args := [d1, d2] }
  | _ => none }
def fnExactSpawnProcRow : OpenClaim := { program := "ythkffdkkffddeaagreatdoor", sum := "63fc9478b7ca707f41c3e0fe49e4abe5bdb4cb74f1ba2fe49c9c6310c2ffddab", func := "loop.example/g00974/laws.FnExactSpawnProc", spec := "fnExactSpawnProc", inPlace := ["slices.overlaps[string]", "slices.overlaps[loop.example/g00974/impl.Cell]"], unfollowed := true, recurses := true, named := ["strconv.ErrSyntax", "strconv.ErrRange", "internal/strconv.uint64pow10", "math/bits.deBruijn32tab", "math/bits.deBruijn64tab"], apart := false, laid := [("math/bits.deBruijn32tab", laid_math_bits_deBruijn32tab), ("math/bits.deBruijn64tab", laid_math_bits_deBruijn64tab), ("internal/strconv.uint64pow10", laid_internal_strconv_uint64pow10), ("strconv.ErrRange", laid_strconv_ErrRange), ("strconv.ErrSyntax", laid_strconv_ErrSyntax)] }
def FnExactSpawnProcSaid : Prop := fnExactSpawnProcRow.holds Tryz.pinned (OpenSpec.ofChange fnExactSpawnProcSpec)

/-- ITS FALSE NEIGHBOUR: 'it returns false'. Refute it at one input. -/
def fnExactSpawnProcWrong : ChangeSpec := { name := "fnExactSpawnProc", fn := fun _ => fun
  | [d1, d2] => { results := [.lit (.bool false)], args := [d1, d2] }
  | _ => none }
def FnExactSpawnProcWrongFalsely : Prop := fnExactSpawnProcRow.holds Tryz.pinned (OpenSpec.ofChange fnExactSpawnProcWrong)

/-- 'laws.FnExactReadFile': WHATEVER THE INPUT: true; the input reads as it did. -/
def fnExactReadFileSpec : ChangeSpec := { name := "fnExactReadFile", fn := fun _ => fun
  | [d1, d2, d3, d4] => { results := [.lit (.bool true)], args := [d1, d2, d3, d4] }
  | _ => none }
def fnExactReadFileRow : OpenClaim := { program := "ythkffdkkffddeaagreatdoor", sum := "63fc9478b7ca707f41c3e0fe49e4abe5bdb4cb74f1ba2fe49c9c6310c2ffddab", func := "loop.example/g00974/laws.FnExactReadFile", spec := "fnExactReadFile", inPlace := ["slices.overlaps[string]"], unfollowed := true, recurses := true, named := ["internal/strconv.uint64pow10", "math/bits.deBruijn32tab", "math/bits.deBruijn64tab", "strconv.ErrSyntax", "strconv.ErrRange", "encoding/hex.ErrLength"], apart := false, laid := [("math/bits.deBruijn32tab", laid_math_bits_deBruijn32tab), ("math/bits.deBruijn64tab", laid_math_bits_deBruijn64tab), ("internal/strconv.uint64pow10", laid_internal_strconv_uint64pow10), ("strconv.ErrRange", laid_strconv_ErrRange), ("strconv.ErrSyntax", laid_strconv_ErrSyntax), ("encoding/hex.ErrLength", laid_encoding_hex_ErrLength)] }
def FnExactReadFileSaid : Prop := fnExactReadFileRow.holds Tryz.pinned (OpenSpec.ofChange fnExactReadFileSpec)

/-- ITS FALSE NEIGHBOUR: 'it returns false'. Refute it at one input. -/
def fnExactReadFileWrong : ChangeSpec := { name := "fnExactReadFile", fn := fun _ => fun
  | [d1, d2, d3, d4] => { results := [.lit (.bool false)], args := [d1, d2, d3, d4] }
  | _ => none }
def FnExactReadFileWrongFalsely : Prop := fnExactReadFileRow.holds Tryz.pinned (OpenSpec.ofChange fnExactReadFileWrong)

/-- 'laws.FnExactSendSignal': WHATEVER THE INPUT: true; the input reads as it did. -/
def fnExactSendSignalSpec : ChangeSpec := { name := "fnExactSendSignal", fn := fun _ => fun
  | [d1, d2, d3] => { results := [.lit (.bool true)], args := [d1, d2, d3] }
  | _ => none }
def fnExactSendSignalRow : OpenClaim := { program := "ythkffdkkffddeaagreatdoor", sum := "63fc9478b7ca707f41c3e0fe49e4abe5bdb4cb74f1ba2fe49c9c6310c2ffddab", func := "loop.example/g00974/laws.FnExactSendSignal", spec := "fnExactSendSignal", inPlace := ["slices.overlaps[string]", "slices.overlaps[loop.example/g00974/impl.Cell]"], unfollowed := true, recurses := true, named := ["internal/strconv.uint64pow10", "math/bits.deBruijn32tab", "math/bits.deBruijn64tab", "strconv.ErrSyntax", "strconv.ErrRange"], apart := false, laid := [("math/bits.deBruijn32tab", laid_math_bits_deBruijn32tab), ("math/bits.deBruijn64tab", laid_math_bits_deBruijn64tab), ("internal/strconv.uint64pow10", laid_internal_strconv_uint64pow10), ("strconv.ErrRange", laid_strconv_ErrRange), ("strconv.ErrSyntax", laid_strconv_ErrSyntax)] }
def FnExactSendSignalSaid : Prop := fnExactSendSignalRow.holds Tryz.pinned (OpenSpec.ofChange fnExactSendSignalSpec)

/-- ITS FALSE NEIGHBOUR: 'it returns false'. Refute it at one input. -/
def fnExactSendSignalWrong : ChangeSpec := { name := "fnExactSendSignal", fn := fun _ => fun
  | [d1, d2, d3] => { results := [.lit (.bool false)], args := [d1, d2, d3] }
  | _ => none }
def FnExactSendSignalWrongFalsely : Prop := fnExactSendSignalRow.holds Tryz.pinned (OpenSpec.ofChange fnExactSendSignalWrong)

/-- 'laws.FnExactTextOf': WHATEVER THE INPUT: true; the input reads as it did. -/
def fnExactTextOfSpec : ChangeSpec := { name := "fnExactTextOf", fn := fun _ => fun
  | [d1, d2] => { results := [.lit (.bool true)], args := [d1, d2] }
  | _ => none }
def fnExactTextOfRow : OpenClaim := { program := "ythkffdkkffddeaagreatdoor", sum := "63fc9478b7ca707f41c3e0fe49e4abe5bdb4cb74f1ba2fe49c9c6310c2ffddab", func := "loop.example/g00974/laws.FnExactTextOf", spec := "fnExactTextOf", inPlace := ["slices.overlaps[string]"], unfollowed := true, recurses := true, named := ["internal/strconv.uint64pow10", "math/bits.deBruijn32tab", "math/bits.deBruijn64tab", "strconv.ErrSyntax", "strconv.ErrRange", "encoding/hex.ErrLength"], apart := false, laid := [("math/bits.deBruijn32tab", laid_math_bits_deBruijn32tab), ("math/bits.deBruijn64tab", laid_math_bits_deBruijn64tab), ("internal/strconv.uint64pow10", laid_internal_strconv_uint64pow10), ("strconv.ErrRange", laid_strconv_ErrRange), ("strconv.ErrSyntax", laid_strconv_ErrSyntax), ("encoding/hex.ErrLength", laid_encoding_hex_ErrLength)] }
def FnExactTextOfSaid : Prop := fnExactTextOfRow.holds Tryz.pinned (OpenSpec.ofChange fnExactTextOfSpec)

/-- ITS FALSE NEIGHBOUR: 'it returns false'. Refute it at one input. -/
def fnExactTextOfWrong : ChangeSpec := { name := "fnExactTextOf", fn := fun _ => fun
  | [d1, d2] => { results := [.lit (.bool false)], args := [d1, d2] }
  | _ => none }
def FnExactTextOfWrongFalsely : Prop := fnExactTextOfRow.holds Tryz.pinned (OpenSpec.ofChange fnExactTextOfWrong)

/-- 'laws.FnExactPutOut': WHATEVER THE INPUT: true; the input reads as it did. -/
def fnExactPutOutSpec : ChangeSpec := { name := "fnExactPutOut", fn := fun _ => fun
  | [d1, d2] => { results := [.lit (.bool true)], args := [d1, d2] }
  | _ => none }
def fnExactPutOutRow : OpenClaim := { program := "ythkffdkkffddeaagreatdoor", sum := "63fc9478b7ca707f41c3e0fe49e4abe5bdb4cb74f1ba2fe49c9c6310c2ffddab", func := "loop.example/g00974/laws.FnExactPutOut", spec := "fnExactPutOut", inPlace := ["slices.overlaps[string]", "slices.overlaps[loop.example/g00974/impl.Cell]"], unfollowed := true, recurses := true, named := ["strconv.ErrSyntax", "strconv.ErrRange", "internal/strconv.uint64pow10", "math/bits.deBruijn32tab", "math/bits.deBruijn64tab"], apart := false, laid := [("math/bits.deBruijn32tab", laid_math_bits_deBruijn32tab), ("math/bits.deBruijn64tab", laid_math_bits_deBruijn64tab), ("internal/strconv.uint64pow10", laid_internal_strconv_uint64pow10), ("strconv.ErrRange", laid_strconv_ErrRange), ("strconv.ErrSyntax", laid_strconv_ErrSyntax)] }
def FnExactPutOutSaid : Prop := fnExactPutOutRow.holds Tryz.pinned (OpenSpec.ofChange fnExactPutOutSpec)

/-- ITS FALSE NEIGHBOUR: 'it returns false'. Refute it at one input. -/
def fnExactPutOutWrong : ChangeSpec := { name := "fnExactPutOut", fn := fun _ => fun
  | [d1, d2] => { results := [.lit (.bool false)], args := [d1, d2] }
  | _ => none }
def FnExactPutOutWrongFalsely : Prop := fnExactPutOutRow.holds Tryz.pinned (OpenSpec.ofChange fnExactPutOutWrong)

/-- 'laws.FnExactReapProc': WHATEVER THE INPUT: true; the input reads as it did. -/
def fnExactReapProcSpec : ChangeSpec := { name := "fnExactReapProc", fn := fun _ => fun
  | [d1, d2, d3] => { results := [.lit (.bool true)], args := [d1, d2, d3] }
  | _ => none }
def fnExactReapProcRow : OpenClaim := { program := "ythkffdkkffddeaagreatdoor", sum := "63fc9478b7ca707f41c3e0fe49e4abe5bdb4cb74f1ba2fe49c9c6310c2ffddab", func := "loop.example/g00974/laws.FnExactReapProc", spec := "fnExactReapProc", inPlace := ["slices.overlaps[string]", "slices.overlaps[loop.example/g00974/impl.Cell]"], unfollowed := true, recurses := true, named := ["internal/strconv.uint64pow10", "math/bits.deBruijn32tab", "math/bits.deBruijn64tab", "strconv.ErrSyntax", "strconv.ErrRange"], apart := false, laid := [("math/bits.deBruijn32tab", laid_math_bits_deBruijn32tab), ("math/bits.deBruijn64tab", laid_math_bits_deBruijn64tab), ("internal/strconv.uint64pow10", laid_internal_strconv_uint64pow10), ("strconv.ErrRange", laid_strconv_ErrRange), ("strconv.ErrSyntax", laid_strconv_ErrSyntax)] }
def FnExactReapProcSaid : Prop := fnExactReapProcRow.holds Tryz.pinned (OpenSpec.ofChange fnExactReapProcSpec)

/-- ITS FALSE NEIGHBOUR: 'it returns false'. Refute it at one input. -/
def fnExactReapProcWrong : ChangeSpec := { name := "fnExactReapProc", fn := fun _ => fun
  | [d1, d2, d3] => { results := [.lit (.bool false)], args := [d1, d2, d3] }
  | _ => none }
def FnExactReapProcWrongFalsely : Prop := fnExactReapProcRow.holds Tryz.pinned (OpenSpec.ofChange fnExactReapProcWrong)

/-- 'laws.FnExactLinkName': WHATEVER THE INPUT: true; the input reads as it did. -/
def fnExactLinkNameSpec : ChangeSpec := { name := "fnExactLinkName", fn := fun _ => fun
  | [d1, d2, d3] => { results := [.lit (.bool true)], args := [d1, d2, d3] }
  | _ => none }
def fnExactLinkNameRow : OpenClaim := { program := "ythkffdkkffddeaagreatdoor", sum := "63fc9478b7ca707f41c3e0fe49e4abe5bdb4cb74f1ba2fe49c9c6310c2ffddab", func := "loop.example/g00974/laws.FnExactLinkName", spec := "fnExactLinkName", inPlace := ["slices.overlaps[string]", "slices.overlaps[loop.example/g00974/impl.Cell]"], unfollowed := true, recurses := true, named := ["strconv.ErrSyntax", "strconv.ErrRange", "internal/strconv.uint64pow10", "math/bits.deBruijn32tab", "math/bits.deBruijn64tab"], apart := false, laid := [("math/bits.deBruijn32tab", laid_math_bits_deBruijn32tab), ("math/bits.deBruijn64tab", laid_math_bits_deBruijn64tab), ("internal/strconv.uint64pow10", laid_internal_strconv_uint64pow10), ("strconv.ErrRange", laid_strconv_ErrRange), ("strconv.ErrSyntax", laid_strconv_ErrSyntax)] }
def FnExactLinkNameSaid : Prop := fnExactLinkNameRow.holds Tryz.pinned (OpenSpec.ofChange fnExactLinkNameSpec)

/-- ITS FALSE NEIGHBOUR: 'it returns false'. Refute it at one input. -/
def fnExactLinkNameWrong : ChangeSpec := { name := "fnExactLinkName", fn := fun _ => fun
  | [d1, d2, d3] => { results := [.lit (.bool false)], args := [d1, d2, d3] }
  | _ => none }
def FnExactLinkNameWrongFalsely : Prop := fnExactLinkNameRow.holds Tryz.pinned (OpenSpec.ofChange fnExactLinkNameWrong)

/-- 'laws.FnExactMakeName': WHATEVER THE INPUT: true; the input reads as it did. -/
def fnExactMakeNameSpec : ChangeSpec := { name := "fnExactMakeName", fn := fun _ => fun
  | [d1, d2] => { results := [.lit (.bool true)], args := [d1, d2] }
  | _ => none }
def fnExactMakeNameRow : OpenClaim := { program := "ythkffdkkffddeaagreatdoor", sum := "63fc9478b7ca707f41c3e0fe49e4abe5bdb4cb74f1ba2fe49c9c6310c2ffddab", func := "loop.example/g00974/laws.FnExactMakeName", spec := "fnExactMakeName", inPlace := ["slices.overlaps[string]", "slices.overlaps[loop.example/g00974/impl.Cell]"], unfollowed := true, recurses := true, named := ["strconv.ErrSyntax", "strconv.ErrRange", "internal/strconv.uint64pow10", "math/bits.deBruijn32tab", "math/bits.deBruijn64tab"], apart := false, laid := [("math/bits.deBruijn32tab", laid_math_bits_deBruijn32tab), ("math/bits.deBruijn64tab", laid_math_bits_deBruijn64tab), ("internal/strconv.uint64pow10", laid_internal_strconv_uint64pow10), ("strconv.ErrRange", laid_strconv_ErrRange), ("strconv.ErrSyntax", laid_strconv_ErrSyntax)] }
def FnExactMakeNameSaid : Prop := fnExactMakeNameRow.holds Tryz.pinned (OpenSpec.ofChange fnExactMakeNameSpec)

/-- ITS FALSE NEIGHBOUR: 'it returns false'. Refute it at one input. -/
def fnExactMakeNameWrong : ChangeSpec := { name := "fnExactMakeName", fn := fun _ => fun
  | [d1, d2] => { results := [.lit (.bool false)], args := [d1, d2] }
  | _ => none }
def FnExactMakeNameWrongFalsely : Prop := fnExactMakeNameRow.holds Tryz.pinned (OpenSpec.ofChange fnExactMakeNameWrong)

/-- 'laws.FnExactPutPipe': WHATEVER THE INPUT: true; the input reads as it did. -/
def fnExactPutPipeSpec : ChangeSpec := { name := "fnExactPutPipe", fn := fun _ => fun
  | [d1, d2, d3] => { results := [.lit (.bool true)], args := [d1, d2, d3] }
  | _ => none }
def fnExactPutPipeRow : OpenClaim := { program := "ythkffdkkffddeaagreatdoor", sum := "63fc9478b7ca707f41c3e0fe49e4abe5bdb4cb74f1ba2fe49c9c6310c2ffddab", func := "loop.example/g00974/laws.FnExactPutPipe", spec := "fnExactPutPipe", inPlace := ["slices.overlaps[string]", "slices.overlaps[loop.example/g00974/impl.Cell]"], unfollowed := true, recurses := true, named := ["internal/strconv.uint64pow10", "math/bits.deBruijn32tab", "math/bits.deBruijn64tab", "strconv.ErrSyntax", "strconv.ErrRange"], apart := false, laid := [("math/bits.deBruijn32tab", laid_math_bits_deBruijn32tab), ("math/bits.deBruijn64tab", laid_math_bits_deBruijn64tab), ("internal/strconv.uint64pow10", laid_internal_strconv_uint64pow10), ("strconv.ErrRange", laid_strconv_ErrRange), ("strconv.ErrSyntax", laid_strconv_ErrSyntax)] }
def FnExactPutPipeSaid : Prop := fnExactPutPipeRow.holds Tryz.pinned (OpenSpec.ofChange fnExactPutPipeSpec)

/-- ITS FALSE NEIGHBOUR: 'it returns false'. Refute it at one input. -/
def fnExactPutPipeWrong : ChangeSpec := { name := "fnExactPutPipe", fn := fun _ => fun
  | [d1, d2, d3] => { results := [.lit (.bool false)], args := [d1, d2, d3] }
  | _ => none }
def FnExactPutPipeWrongFalsely : Prop := fnExactPutPipeRow.holds Tryz.pinned (OpenSpec.ofChange fnExactPutPipeWrong)

/- THE SECOND FORM. 'bulk': how many values and letters a reading holds, each counted each time it is reached (what is shared counts as often as it is met; a slice's spare places count too). A statement '..UptoSaid' is the law's where the arguments, and the package variables that the reading takes, are together of bulk at most 1048576: NARROWER than '..Said'. Prove '..Said' where nothing that the law and all that it calls make is longer than what came in: it says more and counts as full. Else prove '..UptoSaid'. A law counts once. -/
mutual
def uptoBulk {H : Type} : DataW H → Nat
  | .lit (.string bytes) => bytes.length + 1
  | .lit _ => 1
  | .nil => 1
  | .ptr d => uptoBulk d + 1
  | .slice elems spare => uptoBulkAll elems + uptoBulkAll spare + 1
  | .agg parts => uptoBulkAll parts + 1
  | .iface _ d => uptoBulk d + 1
  | .map entries => uptoBulkEntries entries + 1
  | .held _ => 1
def uptoBulkAll {H : Type} : List (DataW H) → Nat
  | [] => 0
  | d :: r => uptoBulk d + uptoBulkAll r
def uptoBulkEntries {H : Type} : List (Lit × DataW H) → Nat
  | [] => 0
  | x :: r => uptoBulkEntry x + uptoBulkEntries r
def uptoBulkEntry {H : Type} : Lit × DataW H → Nat
  | (.string bytes, d) => bytes.length + uptoBulk d + 1
  | (_, d) => uptoBulk d + 1
 end
def uptoSmall : (H : Type) → List (DataW H) → Bool := fun _ ds => decide (uptoBulkAll ds ≤ 1048576)
def OpenSpec.upto (s : _root_.Go.ChangeSpec) : _root_.Go.OpenSpec := { _root_.Go.OpenSpec.ofChange s with cond := some uptoSmall }

/-- 'laws.FnExactTakeSignal', WHERE WHAT IT READS IS OF BULK AT MOST 1048576: true; the input reads as it did. -/
def fnExactTakeSignalUptoRow : OpenClaim := { program := "ythkffdkkffddeaagreatdoor", sum := "63fc9478b7ca707f41c3e0fe49e4abe5bdb4cb74f1ba2fe49c9c6310c2ffddab", func := "loop.example/g00974/laws.FnExactTakeSignal", spec := "fnExactTakeSignal", inPlace := ["slices.overlaps[string]", "slices.overlaps[loop.example/g00974/impl.Cell]"], unfollowed := true, recurses := true, named := ["internal/strconv.uint64pow10", "math/bits.deBruijn32tab", "math/bits.deBruijn64tab", "strconv.ErrSyntax", "strconv.ErrRange"], apart := false, laid := [("math/bits.deBruijn32tab", laid_math_bits_deBruijn32tab), ("math/bits.deBruijn64tab", laid_math_bits_deBruijn64tab), ("internal/strconv.uint64pow10", laid_internal_strconv_uint64pow10), ("strconv.ErrRange", laid_strconv_ErrRange), ("strconv.ErrSyntax", laid_strconv_ErrSyntax)], narrowed := true }
def FnExactTakeSignalUptoSaid : Prop := fnExactTakeSignalUptoRow.holds Tryz.pinned (OpenSpec.upto fnExactTakeSignalSpec)

/-- 'laws.FnExactEndProc', WHERE WHAT IT READS IS OF BULK AT MOST 1048576: true; the input reads as it did. -/
def fnExactEndProcUptoRow : OpenClaim := { program := "ythkffdkkffddeaagreatdoor", sum := "63fc9478b7ca707f41c3e0fe49e4abe5bdb4cb74f1ba2fe49c9c6310c2ffddab", func := "loop.example/g00974/laws.FnExactEndProc", spec := "fnExactEndProc", inPlace := ["slices.overlaps[string]", "slices.overlaps[loop.example/g00974/impl.Cell]"], unfollowed := true, recurses := true, named := ["internal/strconv.uint64pow10", "math/bits.deBruijn32tab", "math/bits.deBruijn64tab", "strconv.ErrSyntax", "strconv.ErrRange"], apart := false, laid := [("math/bits.deBruijn32tab", laid_math_bits_deBruijn32tab), ("math/bits.deBruijn64tab", laid_math_bits_deBruijn64tab), ("internal/strconv.uint64pow10", laid_internal_strconv_uint64pow10), ("strconv.ErrRange", laid_strconv_ErrRange), ("strconv.ErrSyntax", laid_strconv_ErrSyntax)], narrowed := true }
def FnExactEndProcUptoSaid : Prop := fnExactEndProcUptoRow.holds Tryz.pinned (OpenSpec.upto fnExactEndProcSpec)

/-- 'laws.FnExactMakePipe', WHERE WHAT IT READS IS OF BULK AT MOST 1048576: true; the input reads as it did. -/
def fnExactMakePipeUptoRow : OpenClaim := { program := "ythkffdkkffddeaagreatdoor", sum := "63fc9478b7ca707f41c3e0fe49e4abe5bdb4cb74f1ba2fe49c9c6310c2ffddab", func := "loop.example/g00974/laws.FnExactMakePipe", spec := "fnExactMakePipe", inPlace := ["slices.overlaps[string]", "slices.overlaps[loop.example/g00974/impl.Cell]"], unfollowed := true, recurses := true, named := ["strconv.ErrSyntax", "strconv.ErrRange", "internal/strconv.uint64pow10", "math/bits.deBruijn32tab", "math/bits.deBruijn64tab"], apart := false, laid := [("math/bits.deBruijn32tab", laid_math_bits_deBruijn32tab), ("math/bits.deBruijn64tab", laid_math_bits_deBruijn64tab), ("internal/strconv.uint64pow10", laid_internal_strconv_uint64pow10), ("strconv.ErrRange", laid_strconv_ErrRange), ("strconv.ErrSyntax", laid_strconv_ErrSyntax)], narrowed := true }
def FnExactMakePipeUptoSaid : Prop := fnExactMakePipeUptoRow.holds Tryz.pinned (OpenSpec.upto fnExactMakePipeSpec)

/-- 'laws.FnExactSpawnProc', WHERE WHAT IT READS IS OF BULK AT MOST 1048576: true; the input reads as it did. -/
def fnExactSpawnProcUptoRow : OpenClaim := { program := "ythkffdkkffddeaagreatdoor", sum := "63fc9478b7ca707f41c3e0fe49e4abe5bdb4cb74f1ba2fe49c9c6310c2ffddab", func := "loop.example/g00974/laws.FnExactSpawnProc", spec := "fnExactSpawnProc", inPlace := ["slices.overlaps[string]", "slices.overlaps[loop.example/g00974/impl.Cell]"], unfollowed := true, recurses := true, named := ["strconv.ErrSyntax", "strconv.ErrRange", "internal/strconv.uint64pow10", "math/bits.deBruijn32tab", "math/bits.deBruijn64tab"], apart := false, laid := [("math/bits.deBruijn32tab", laid_math_bits_deBruijn32tab), ("math/bits.deBruijn64tab", laid_math_bits_deBruijn64tab), ("internal/strconv.uint64pow10", laid_internal_strconv_uint64pow10), ("strconv.ErrRange", laid_strconv_ErrRange), ("strconv.ErrSyntax", laid_strconv_ErrSyntax)], narrowed := true }
def FnExactSpawnProcUptoSaid : Prop := fnExactSpawnProcUptoRow.holds Tryz.pinned (OpenSpec.upto fnExactSpawnProcSpec)

/-- 'laws.FnExactReadFile', WHERE WHAT IT READS IS OF BULK AT MOST 1048576: true; the input reads as it did. -/
def fnExactReadFileUptoRow : OpenClaim := { program := "ythkffdkkffddeaagreatdoor", sum := "63fc9478b7ca707f41c3e0fe49e4abe5bdb4cb74f1ba2fe49c9c6310c2ffddab", func := "loop.example/g00974/laws.FnExactReadFile", spec := "fnExactReadFile", inPlace := ["slices.overlaps[string]"], unfollowed := true, recurses := true, named := ["internal/strconv.uint64pow10", "math/bits.deBruijn32tab", "math/bits.deBruijn64tab", "strconv.ErrSyntax", "strconv.ErrRange", "encoding/hex.ErrLength"], apart := false, laid := [("math/bits.deBruijn32tab", laid_math_bits_deBruijn32tab), ("math/bits.deBruijn64tab", laid_math_bits_deBruijn64tab), ("internal/strconv.uint64pow10", laid_internal_strconv_uint64pow10), ("strconv.ErrRange", laid_strconv_ErrRange), ("strconv.ErrSyntax", laid_strconv_ErrSyntax), ("encoding/hex.ErrLength", laid_encoding_hex_ErrLength)], narrowed := true }
def FnExactReadFileUptoSaid : Prop := fnExactReadFileUptoRow.holds Tryz.pinned (OpenSpec.upto fnExactReadFileSpec)

/-- 'laws.FnExactSendSignal', WHERE WHAT IT READS IS OF BULK AT MOST 1048576: true; the input reads as it did. -/
def fnExactSendSignalUptoRow : OpenClaim := { program := "ythkffdkkffddeaagreatdoor", sum := "63fc9478b7ca707f41c3e0fe49e4abe5bdb4cb74f1ba2fe49c9c6310c2ffddab", func := "loop.example/g00974/laws.FnExactSendSignal", spec := "fnExactSendSignal", inPlace := ["slices.overlaps[string]", "slices.overlaps[loop.example/g00974/impl.Cell]"], unfollowed := true, recurses := true, named := ["internal/strconv.uint64pow10", "math/bits.deBruijn32tab", "math/bits.deBruijn64tab", "strconv.ErrSyntax", "strconv.ErrRange"], apart := false, laid := [("math/bits.deBruijn32tab", laid_math_bits_deBruijn32tab), ("math/bits.deBruijn64tab", laid_math_bits_deBruijn64tab), ("internal/strconv.uint64pow10", laid_internal_strconv_uint64pow10), ("strconv.ErrRange", laid_strconv_ErrRange), ("strconv.ErrSyntax", laid_strconv_ErrSyntax)], narrowed := true }
def FnExactSendSignalUptoSaid : Prop := fnExactSendSignalUptoRow.holds Tryz.pinned (OpenSpec.upto fnExactSendSignalSpec)

/-- 'laws.FnExactTextOf', WHERE WHAT IT READS IS OF BULK AT MOST 1048576: true; the input reads as it did. -/
def fnExactTextOfUptoRow : OpenClaim := { program := "ythkffdkkffddeaagreatdoor", sum := "63fc9478b7ca707f41c3e0fe49e4abe5bdb4cb74f1ba2fe49c9c6310c2ffddab", func := "loop.example/g00974/laws.FnExactTextOf", spec := "fnExactTextOf", inPlace := ["slices.overlaps[string]"], unfollowed := true, recurses := true, named := ["internal/strconv.uint64pow10", "math/bits.deBruijn32tab", "math/bits.deBruijn64tab", "strconv.ErrSyntax", "strconv.ErrRange", "encoding/hex.ErrLength"], apart := false, laid := [("math/bits.deBruijn32tab", laid_math_bits_deBruijn32tab), ("math/bits.deBruijn64tab", laid_math_bits_deBruijn64tab), ("internal/strconv.uint64pow10", laid_internal_strconv_uint64pow10), ("strconv.ErrRange", laid_strconv_ErrRange), ("strconv.ErrSyntax", laid_strconv_ErrSyntax), ("encoding/hex.ErrLength", laid_encoding_hex_ErrLength)], narrowed := true }
def FnExactTextOfUptoSaid : Prop := fnExactTextOfUptoRow.holds Tryz.pinned (OpenSpec.upto fnExactTextOfSpec)

/-- 'laws.FnExactPutOut', WHERE WHAT IT READS IS OF BULK AT MOST 1048576: true; the input reads as it did. -/
def fnExactPutOutUptoRow : OpenClaim := { program := "ythkffdkkffddeaagreatdoor", sum := "63fc9478b7ca707f41c3e0fe49e4abe5bdb4cb74f1ba2fe49c9c6310c2ffddab", func := "loop.example/g00974/laws.FnExactPutOut", spec := "fnExactPutOut", inPlace := ["slices.overlaps[string]", "slices.overlaps[loop.example/g00974/impl.Cell]"], unfollowed := true, recurses := true, named := ["strconv.ErrSyntax", "strconv.ErrRange", "internal/strconv.uint64pow10", "math/bits.deBruijn32tab", "math/bits.deBruijn64tab"], apart := false, laid := [("math/bits.deBruijn32tab", laid_math_bits_deBruijn32tab), ("math/bits.deBruijn64tab", laid_math_bits_deBruijn64tab), ("internal/strconv.uint64pow10", laid_internal_strconv_uint64pow10), ("strconv.ErrRange", laid_strconv_ErrRange), ("strconv.ErrSyntax", laid_strconv_ErrSyntax)], narrowed := true }
def FnExactPutOutUptoSaid : Prop := fnExactPutOutUptoRow.holds Tryz.pinned (OpenSpec.upto fnExactPutOutSpec)

/-- 'laws.FnExactReapProc', WHERE WHAT IT READS IS OF BULK AT MOST 1048576: true; the input reads as it did. -/
def fnExactReapProcUptoRow : OpenClaim := { program := "ythkffdkkffddeaagreatdoor", sum := "63fc9478b7ca707f41c3e0fe49e4abe5bdb4cb74f1ba2fe49c9c6310c2ffddab", func := "loop.example/g00974/laws.FnExactReapProc", spec := "fnExactReapProc", inPlace := ["slices.overlaps[string]", "slices.overlaps[loop.example/g00974/impl.Cell]"], unfollowed := true, recurses := true, named := ["internal/strconv.uint64pow10", "math/bits.deBruijn32tab", "math/bits.deBruijn64tab", "strconv.ErrSyntax", "strconv.ErrRange"], apart := false, laid := [("math/bits.deBruijn32tab", laid_math_bits_deBruijn32tab), ("math/bits.deBruijn64tab", laid_math_bits_deBruijn64tab), ("internal/strconv.uint64pow10", laid_internal_strconv_uint64pow10), ("strconv.ErrRange", laid_strconv_ErrRange), ("strconv.ErrSyntax", laid_strconv_ErrSyntax)], narrowed := true }
def FnExactReapProcUptoSaid : Prop := fnExactReapProcUptoRow.holds Tryz.pinned (OpenSpec.upto fnExactReapProcSpec)

/-- 'laws.FnExactLinkName', WHERE WHAT IT READS IS OF BULK AT MOST 1048576: true; the input reads as it did. -/
def fnExactLinkNameUptoRow : OpenClaim := { program := "ythkffdkkffddeaagreatdoor", sum := "63fc9478b7ca707f41c3e0fe49e4abe5bdb4cb74f1ba2fe49c9c6310c2ffddab", func := "loop.example/g00974/laws.FnExactLinkName", spec := "fnExactLinkName", inPlace := ["slices.overlaps[string]", "slices.overlaps[loop.example/g00974/impl.Cell]"], unfollowed := true, recurses := true, named := ["strconv.ErrSyntax", "strconv.ErrRange", "internal/strconv.uint64pow10", "math/bits.deBruijn32tab", "math/bits.deBruijn64tab"], apart := false, laid := [("math/bits.deBruijn32tab", laid_math_bits_deBruijn32tab), ("math/bits.deBruijn64tab", laid_math_bits_deBruijn64tab), ("internal/strconv.uint64pow10", laid_internal_strconv_uint64pow10), ("strconv.ErrRange", laid_strconv_ErrRange), ("strconv.ErrSyntax", laid_strconv_ErrSyntax)], narrowed := true }
def FnExactLinkNameUptoSaid : Prop := fnExactLinkNameUptoRow.holds Tryz.pinned (OpenSpec.upto fnExactLinkNameSpec)

/-- 'laws.FnExactMakeName', WHERE WHAT IT READS IS OF BULK AT MOST 1048576: true; the input reads as it did. -/
def fnExactMakeNameUptoRow : OpenClaim := { program := "ythkffdkkffddeaagreatdoor", sum := "63fc9478b7ca707f41c3e0fe49e4abe5bdb4cb74f1ba2fe49c9c6310c2ffddab", func := "loop.example/g00974/laws.FnExactMakeName", spec := "fnExactMakeName", inPlace := ["slices.overlaps[string]", "slices.overlaps[loop.example/g00974/impl.Cell]"], unfollowed := true, recurses := true, named := ["strconv.ErrSyntax", "strconv.ErrRange", "internal/strconv.uint64pow10", "math/bits.deBruijn32tab", "math/bits.deBruijn64tab"], apart := false, laid := [("math/bits.deBruijn32tab", laid_math_bits_deBruijn32tab), ("math/bits.deBruijn64tab", laid_math_bits_deBruijn64tab), ("internal/strconv.uint64pow10", laid_internal_strconv_uint64pow10), ("strconv.ErrRange", laid_strconv_ErrRange), ("strconv.ErrSyntax", laid_strconv_ErrSyntax)], narrowed := true }
def FnExactMakeNameUptoSaid : Prop := fnExactMakeNameUptoRow.holds Tryz.pinned (OpenSpec.upto fnExactMakeNameSpec)

/-- 'laws.FnExactPutPipe', WHERE WHAT IT READS IS OF BULK AT MOST 1048576: true; the input reads as it did. -/
def fnExactPutPipeUptoRow : OpenClaim := { program := "ythkffdkkffddeaagreatdoor", sum := "63fc9478b7ca707f41c3e0fe49e4abe5bdb4cb74f1ba2fe49c9c6310c2ffddab", func := "loop.example/g00974/laws.FnExactPutPipe", spec := "fnExactPutPipe", inPlace := ["slices.overlaps[string]", "slices.overlaps[loop.example/g00974/impl.Cell]"], unfollowed := true, recurses := true, named := ["internal/strconv.uint64pow10", "math/bits.deBruijn32tab", "math/bits.deBruijn64tab", "strconv.ErrSyntax", "strconv.ErrRange"], apart := false, laid := [("math/bits.deBruijn32tab", laid_math_bits_deBruijn32tab), ("math/bits.deBruijn64tab", laid_math_bits_deBruijn64tab), ("internal/strconv.uint64pow10", laid_internal_strconv_uint64pow10), ("strconv.ErrRange", laid_strconv_ErrRange), ("strconv.ErrSyntax", laid_strconv_ErrSyntax)], narrowed := true }
def FnExactPutPipeUptoSaid : Prop := fnExactPutPipeUptoRow.holds Tryz.pinned (OpenSpec.upto fnExactPutPipeSpec)

end Rows
end Go.Proofs.YthkffdkkffddeaaGreatDoor
