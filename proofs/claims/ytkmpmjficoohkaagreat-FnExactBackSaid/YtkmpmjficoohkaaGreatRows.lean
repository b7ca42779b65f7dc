/-
  No cell of these rows narrows 'for every input' (looked for: loops, veiled, ifaces, maps, wideKeys, modest, calm, conditions, laid).
  DERIVED. THE GIVEN ROWS OF THIS SEAT. 5 by the template 'for every input the law returns true; each argument reads behind the call as it read before'; 0 by the template 'total and deterministic' (their statements: YtkmpmjficoohkaaGreatTotals.lean).
  GIVEN WITH THE SEED: the statements are not yours to turn. If you find one false, say at which input.
  Laid BY PROGRAM, IN A SANDBOX (cutbox-rows.mjs): the forced cells as the released guide's own fill.sh prints them over the translation 63bc62c854a11b8b… (all of the seat's roots in one cut). By AI agents, Wed Nov 11 2026. No macro, syntax, notation, axiom, sorry.
-/
import Derived.Test.YtkmpmjficoohkaaGreatChecked
import GoSem.Claim
import GoSem.ClaimJoined
import GoSem.ClaimMapViews
import Derived.JoinedTies
import Derived.KernelRfl
namespace Go.Proofs.YtkmpmjficoohkaaGreat
/- THE CELL 'sum', in the pinned program and in every row, IS THE sha256 OF THE DUMP (.gsa) THAT YtkmpmjficoohkaaGreatProg.lean LOADS. Nothing in Lean hashes anything: it is a label: what it is worth is what the hold of that sum in a sandbox is worth. -/
noncomputable def Tryz.pinned : Pinned := { name := "ytkmpmjficoohkaagreat", sum := "63bc62c854a11b8bfc2ed5b54475d9596f4ed9e284beee3fb8a8aeb1ba91167e", checked := Tryz.checked }
namespace Rows
def none {H : Type} : Left H := { results := [], args := [] }

/-- 'laws.FnExactHour': WHATEVER THE INPUT: true; the input reads as it did. -/
def fnExactHourSpec : ChangeSpec := { name := "fnExactHour", fn := fun _ => fun
  | [d] => { results := [.lit (.bool true)], args := [d] }
  | _ => none }
def fnExactHourRow : OpenClaim := { program := "ytkmpmjficoohkaagreat", sum := "63bc62c854a11b8bfc2ed5b54475d9596f4ed9e284beee3fb8a8aeb1ba91167e", func := "loop.example/g00974/laws.FnExactHour", spec := "fnExactHour", apart := false }
def FnExactHourSaid : Prop := fnExactHourRow.holds Tryz.pinned (OpenSpec.ofChange fnExactHourSpec)

/-- ITS FALSE NEIGHBOUR: 'it returns false'. Refute it at one input. -/
def fnExactHourWrong : ChangeSpec := { name := "fnExactHour", fn := fun _ => fun
  | [d] => { results := [.lit (.bool false)], args := [d] }
  | _ => none }
def FnExactHourWrongFalsely : Prop := fnExactHourRow.holds Tryz.pinned (OpenSpec.ofChange fnExactHourWrong)

/-- 'laws.FnExactWithTx': WHATEVER THE INPUT: true; the input reads as it did. -/
def fnExactWithTxSpec : ChangeSpec := { name := "fnExactWithTx", fn := fun _ => fun
  | [d1, d2] => { results := [.lit (.bool true)], args := [d1, d2] }
  | _ => none }
def fnExactWithTxRow : OpenClaim := { program := "ytkmpmjficoohkaagreat", sum := "63bc62c854a11b8bfc2ed5b54475d9596f4ed9e284beee3fb8a8aeb1ba91167e", func := "loop.example/g00974/laws.FnExactWithTx", spec := "fnExactWithTx", unfollowed := true, recurses := true, apart := false }
def FnExactWithTxSaid : Prop := fnExactWithTxRow.holds Tryz.pinned (OpenSpec.ofChange fnExactWithTxSpec)

/-- ITS FALSE NEIGHBOUR: 'it returns false'. Refute it at one input. -/
def fnExactWithTxWrong : ChangeSpec := { name := "fnExactWithTx", fn := fun _ => fun
  | [d1, d2] => { results := [.lit (.bool false)], args := [d1, d2] }
  | _ => none }
def FnExactWithTxWrongFalsely : Prop := fnExactWithTxRow.holds Tryz.pinned (OpenSpec.ofChange fnExactWithTxWrong)

/-- 'laws.FnExactDrop': WHATEVER THE INPUT: true; the input reads as it did. -/
def fnExactDropSpec : ChangeSpec := { name := "fnExactDrop", fn := fun _ => fun
  | [d1, d2] => { results := [.lit (.bool true)], args := [d1, d2] }
  | _ => none }
def fnExactDropRow : OpenClaim := { program := "ytkmpmjficoohkaagreat", sum := "63bc62c854a11b8bfc2ed5b54475d9596f4ed9e284beee3fb8a8aeb1ba91167e", func := "loop.example/g00974/laws.FnExactDrop", spec := "fnExactDrop", unfollowed := true, recurses := true, apart := false }
def FnExactDropSaid : Prop := fnExactDropRow.holds Tryz.pinned (OpenSpec.ofChange fnExactDropSpec)

/-- ITS FALSE NEIGHBOUR: 'it returns false'. Refute it at one input. -/
def fnExactDropWrong : ChangeSpec := { name := "fnExactDrop", fn := fun _ => fun
  | [d1, d2] => { results := [.lit (.bool false)], args := [d1, d2] }
  | _ => none }
def FnExactDropWrongFalsely : Prop := fnExactDropRow.holds Tryz.pinned (OpenSpec.ofChange fnExactDropWrong)

/-- 'laws.FnExactMark': WHATEVER THE INPUT: true; the input reads as it did. -/
def fnExactMarkSpec : ChangeSpec := { name := "fnExactMark", fn := fun _ => fun
  | [d1, d2] => { results := [.lit (.bool true)], args := [d1, d2] }
  | _ => none }
def fnExactMarkRow : OpenClaim := { program := "ytkmpmjficoohkaagreat", sum := "63bc62c854a11b8bfc2ed5b54475d9596f4ed9e284beee3fb8a8aeb1ba91167e", func := "loop.example/g00974/laws.FnExactMark", spec := "fnExactMark", unfollowed := true, recurses := true, apart := false }
def FnExactMarkSaid : Prop := fnExactMarkRow.holds Tryz.pinned (OpenSpec.ofChange fnExactMarkSpec)

/-- ITS FALSE NEIGHBOUR: 'it returns false'. Refute it at one input. -/
def fnExactMarkWrong : ChangeSpec := { name := "fnExactMark", fn := fun _ => fun
  | [d1, d2] => { results := [.lit (.bool false)], args := [d1, d2] }
  | _ => none }
def FnExactMarkWrongFalsely : Prop := fnExactMarkRow.holds Tryz.pinned (OpenSpec.ofChange fnExactMarkWrong)

/-- 'laws.FnExactBack': WHATEVER THE INPUT: true; the input reads as it did. -/
def fnExactBackSpec : ChangeSpec := { name := "fnExactBack", fn := fun _ => fun
  | [d1, d2, d3] => { results := [.lit (.bool true)], args := [d1, d2, d3] }
  | _ => none }
def fnExactBackRow : OpenClaim := { program := "ytkmpmjficoohkaagreat", sum := "63bc62c854a11b8bfc2ed5b54475d9596f4ed9e284beee3fb8a8aeb1ba91167e", func := "loop.example/g00974/laws.FnExactBack", spec := "fnExactBack", unfollowed := true, recurses := true, apart := false }
def FnExactBackSaid : Prop := fnExactBackRow.holds Tryz.pinned (OpenSpec.ofChange fnExactBackSpec)

/-- ITS FALSE NEIGHBOUR: 'it returns false'. Refute it at one input. -/
def fnExactBackWrong : ChangeSpec := { name := "fnExactBack", fn := fun _ => fun
  | [d1, d2, d3] => { results := [.lit (.bool false)], args := [d1, d2, d3] }
  | _ => none }
def FnExactBackWrongFalsely : Prop := fnExactBackRow.holds Tryz.pinned (OpenSpec.ofChange fnExactBackWrong)

/- THE SECOND FORM. 'bulk': how many values and letters a reading holds, each counted each time it is reached (what is shared counts as often as it is met; a slice's spare places count too). A statement '..UptoSaid' is the law's where the arguments, and the package variables that the reading takes, are together of bulk at most 1048576: NARROWER than '..Said'. Prove '..Said' where nothing that the law and all that it calls make is longer than what came in: it says more and counts as full. Else prove '..UptoSaid'. A law counts once. -/
mutual
def uptoBulk {H : Type} : DataW H → Nat
  | .lit (.string bytes) => bytes.length + 1
  | .lit _ => 1
  | .nil => 1
  | .ptr d => uptoBulk d + 1
  | .slice elems spare => uptoBulkAll elems + uptoBulkAll spare + 1
  | .agg parts => uptoBulkAll parts + 1
  | .iface _ d => uptoBulk d + 1
  | .map entries => uptoBulkEntries entries + 1
  | .held _ => 1
def uptoBulkAll {H : Type} : List (DataW H) → Nat
  | [] => 0
  | d :: r => uptoBulk d + uptoBulkAll r
def uptoBulkEntries {H : Type} : List (Lit × DataW H) → Nat
  | [] => 0
  | x :: r => uptoBulkEntry x + uptoBulkEntries r
def uptoBulkEntry {H : Type} : Lit × DataW H → Nat
  | (.string bytes, d) => bytes.length + uptoBulk d + 1
  | (_, d) => uptoBulk d + 1
 end
def uptoSmall : (H : Type) → List (DataW H) → Bool := fun _ ds => decide (uptoBulkAll ds ≤ 1048576)
def OpenSpec.upto (s : _root_.Go.ChangeSpec) : _root_.Go.OpenSpec := { _root_.Go.OpenSpec.ofChange s with cond := some uptoSmall }

/-- 'laws.FnExactHour', WHERE WHAT IT READS IS OF BULK AT MOST 1048576: true; the input reads as it did. -/
def fnExactHourUptoRow : OpenClaim := { program := "ytkmpmjficoohkaagreat", sum := "63bc62c854a11b8bfc2ed5b54475d9596f4ed9e284beee3fb8a8aeb1ba91167e", func := "loop.example/g00974/laws.FnExactHour", spec := "fnExactHour", apart := false, narrowed := true }
def FnExactHourUptoSaid : Prop := fnExactHourUptoRow.holds Tryz.pinned (OpenSpec.upto fnExactHourSpec)

/-- 'laws.FnExactWithTx', WHERE WHAT IT READS IS OF BULK AT MOST 1048576: true; the input reads as it did. -/
def fnExactWithTxUptoRow : OpenClaim := { program := "ytkmpmjficoohkaagreat", sum := "63bc62c854a11b8bfc2ed5b54475d9596f4ed9e284beee3fb8a8aeb1ba91167e", func := "loop.example/g00974/laws.FnExactWithTx", spec := "fnExactWithTx", unfollowed := true, recurses := true, apart := false, narrowed := true }
def FnExactWithTxUptoSaid : Prop := fnExactWithTxUptoRow.holds Tryz.pinned (OpenSpec.upto fnExactWithTxSpec)

/-- 'laws.FnExactDrop', WHERE WHAT IT READS IS OF BULK AT MOST 1048576: true; the input reads as it did. -/
def fnExactDropUptoRow : OpenClaim := { program := "ytkmpmjficoohkaagreat", sum := "63bc62c854a11b8bfc2ed5b54475d9596f4ed9e284beee3fb8a8aeb1ba91167e", func := "loop.example/g00974/laws.FnExactDrop", spec := "fnExactDrop", unfollowed := true, recurses := true, apart := false, narrowed := true }
def FnExactDropUptoSaid : Prop := fnExactDropUptoRow.holds Tryz.pinned (OpenSpec.upto fnExactDropSpec)

/-- 'laws.FnExactMark', WHERE WHAT IT READS IS OF BULK AT MOST 1048576: true; the input reads as it did. -/
def fnExactMarkUptoRow : OpenClaim := { program := "ytkmpmjficoohkaagreat", sum := "63bc62c854a11b8bfc2ed5b54475d9596f4ed9e284beee3fb8a8aeb1ba91167e", func := "loop.example/g00974/laws.FnExactMark", spec := "fnExactMark", unfollowed := true, recurses := true, apart := false, narrowed := true }
def FnExactMarkUptoSaid : Prop := fnExactMarkUptoRow.holds Tryz.pinned (OpenSpec.upto fnExactMarkSpec)

/-- 'laws.FnExactBack', WHERE WHAT IT READS IS OF BULK AT MOST 1048576: true; the input reads as it did. -/
def fnExactBackUptoRow : OpenClaim := { program := "ytkmpmjficoohkaagreat", sum := "63bc62c854a11b8bfc2ed5b54475d9596f4ed9e284beee3fb8a8aeb1ba91167e", func := "loop.example/g00974/laws.FnExactBack", spec := "fnExactBack", unfollowed := true, recurses := true, apart := false, narrowed := true }
def FnExactBackUptoSaid : Prop := fnExactBackUptoRow.holds Tryz.pinned (OpenSpec.upto fnExactBackSpec)

end Rows
end Go.Proofs.YtkmpmjficoohkaaGreat
