/-
  The package-level variables that this program's code reads: none of these laws reads one.
-/
import Derived.Test.YtkmpmjficoohkaaGreatProg
import Derived.WalkKit
import Derived.Lib.LaidTab
import Derived.Lib.ItoaNum
set_option linter.unusedSimpArgs false
set_option linter.unusedVariables false
namespace Go.Proofs.YtkmpmjficoohkaaGreat
open Go Go.RowKit

/-- How many blocks hold package-level variables. -/
def GB : Nat := 0
/-- The type of a byte. -/
def TB : Nat := 5
/-- Nothing is asked of them. -/
def Glob (w : World) : Prop := 0 ≤ w.heap.size
theorem Glob.keep {w w' : World} (h : ∀ k, k < GB → w'.heap[k]? = w.heap[k]?) (hg : Glob w) : Glob w' := Nat.zero_le _
end Go.Proofs.YtkmpmjficoohkaaGreat
