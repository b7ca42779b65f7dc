/-
  laws.FnExactMarkLimit: the statement and its card: for every machine and every other argument the law returns true, and the arguments read as they did. Conditions: the package-level variables that the row lists hold what it lists.
-/
import Derived.Test.YtghfijncihbojaaGreatDoorS10SPEC
import Derived.ChangeMaps5
import Derived.Deep.DeepWitnessRowRef
set_option linter.unusedSimpArgs false
set_option linter.unusedVariables false
set_option linter.unnecessarySimpa false
namespace Go.Proofs.YtghfijncihbojaaGreatDoor
open Go Go.RowKit Go.ChangeShapes Go.WideShapes Go.ChangeAt

theorem cl0_fnMarkLimit : ((Rows.fnMarkLimitRow.wf (OpenSpec.ofChange (OpenSpec.ofChange Rows.fnMarkLimitSpec).bare)) && (laidOutB Tryz.pinned.checked.prog) && (mapsRowed Tryz.pinned.checked.prog) && (Tryz.f3.params.all (Tryz.pinned.checked.prog.readableRec ·)) && (namedTie Tryz.pinned.checked.prog Rows.fnMarkLimitRow.named (OpenSpec.ofChange Rows.fnMarkLimitSpec).bare.vars) && ((Rows.fnMarkLimitRow.stops == [])) && ((Tryz.pinned.checked.prog.stops == [])) && ((Rows.fnMarkLimitRow.knobs == [])) && ((Tryz.pinned.checked.prog.stopKnobs == []))) = true := by kernel_rfl
theorem cl1_fnMarkLimit : (((Rows.fnMarkLimitRow.inPlace == Tryz.pinned.checked.prog.inPlace 3)) && ((Rows.fnMarkLimitRow.unfollowed == Tryz.pinned.checked.prog.unfollowed 3)) && ((Rows.fnMarkLimitRow.recurses == Tryz.pinned.checked.prog.recurses 3)) && ((Rows.fnMarkLimitRow.named == Tryz.pinned.checked.prog.varsNamed 3)) && ((Rows.fnMarkLimitRow.maps == (Tryz.f3.params.toList ++ (OpenSpec.ofChange Rows.fnMarkLimitSpec).bare.plain.varTypes Tryz.pinned.checked.prog).any (Tryz.pinned.checked.prog.mapsRec ·))) && ((Rows.fnMarkLimitRow.ifaces == (Tryz.f3.params.toList ++ (OpenSpec.ofChange Rows.fnMarkLimitSpec).bare.plain.varTypes Tryz.pinned.checked.prog).any (Tryz.pinned.checked.prog.ifacesRec ·))) && ((Rows.fnMarkLimitRow.mapsOut == Tryz.pinned.checked.prog.mapsAmong Tryz.f3.resultTypes.toList)) && ((Rows.fnMarkLimitRow.loops == (Tryz.f3.params.toList ++ (OpenSpec.ofChange Rows.fnMarkLimitSpec).bare.plain.varTypes Tryz.pinned.checked.prog).any (Tryz.pinned.checked.prog.loopsFrom ·)))) = true := by kernel_rfl

end Go.Proofs.YtghfijncihbojaaGreatDoor
