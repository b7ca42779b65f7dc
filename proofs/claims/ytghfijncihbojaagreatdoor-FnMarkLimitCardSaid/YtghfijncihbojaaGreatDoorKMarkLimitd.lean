/-
  laws.FnExactMarkLimit: the statement and its card: for every machine and every other argument the law returns true, and the arguments read as they did. Conditions: the package-level variables that the row lists hold what it lists.
-/
import Derived.Test.YtghfijncihbojaaGreatDoorS10SPEC
import Derived.ChangeMaps5
import Derived.Deep.DeepWitnessRowRef
import Derived.Test.YtghfijncihbojaaGreatDoorCards
set_option linter.unusedSimpArgs false
set_option linter.unusedVariables false
set_option linter.unnecessarySimpa false
namespace Go.Proofs.YtghfijncihbojaaGreatDoor
open Go Go.RowKit Go.ChangeShapes Go.WideShapes Go.ChangeAt

theorem g_MarkLimit : false = Rows.fnMarkLimitRow.goesBy Tryz.pinned.checked.prog := by kernel_rfl

end Go.Proofs.YtghfijncihbojaaGreatDoor
