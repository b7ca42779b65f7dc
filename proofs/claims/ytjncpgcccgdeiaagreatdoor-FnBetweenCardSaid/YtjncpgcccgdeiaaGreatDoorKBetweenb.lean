/-
  laws.FnExactBetween: the statement and its card: for every machine and every other argument the law returns true, and the arguments read as they did. Conditions: the package-level variables that the row lists hold what it lists.
-/
import Derived.Test.YtjncpgcccgdeiaaGreatDoorDatT
import Derived.ChangeMaps5
import Derived.Deep.DeepWitnessRowRef
set_option linter.unusedSimpArgs false
set_option linter.unusedVariables false
set_option linter.unnecessarySimpa false
namespace Go.Proofs.YtjncpgcccgdeiaaGreatDoor
open Go Go.RowKit Go.ChangeShapes Go.WideShapes Go.ChangeAt

theorem cl0_fnBetween : ((Rows.fnBetweenRow.wf (OpenSpec.ofChange (OpenSpec.ofChange Rows.fnBetweenSpec).bare)) && (laidOutB Tryz.pinned.checked.prog) && (mapsRowed Tryz.pinned.checked.prog) && (Tryz.f7.params.all (Tryz.pinned.checked.prog.readableRec ·)) && (namedTie Tryz.pinned.checked.prog Rows.fnBetweenRow.named (OpenSpec.ofChange Rows.fnBetweenSpec).bare.vars) && ((Rows.fnBetweenRow.stops == [])) && ((Tryz.pinned.checked.prog.stops == [])) && ((Rows.fnBetweenRow.knobs == [])) && ((Tryz.pinned.checked.prog.stopKnobs == []))) = true := by kernel_rfl
theorem cl1_fnBetween : (((Rows.fnBetweenRow.inPlace == Tryz.pinned.checked.prog.inPlace 7)) && ((Rows.fnBetweenRow.unfollowed == Tryz.pinned.checked.prog.unfollowed 7)) && ((Rows.fnBetweenRow.recurses == Tryz.pinned.checked.prog.recurses 7)) && ((Rows.fnBetweenRow.named == Tryz.pinned.checked.prog.varsNamed 7)) && ((Rows.fnBetweenRow.maps == (Tryz.f7.params.toList ++ (OpenSpec.ofChange Rows.fnBetweenSpec).bare.plain.varTypes Tryz.pinned.checked.prog).any (Tryz.pinned.checked.prog.mapsRec ·))) && ((Rows.fnBetweenRow.ifaces == (Tryz.f7.params.toList ++ (OpenSpec.ofChange Rows.fnBetweenSpec).bare.plain.varTypes Tryz.pinned.checked.prog).any (Tryz.pinned.checked.prog.ifacesRec ·))) && ((Rows.fnBetweenRow.mapsOut == Tryz.pinned.checked.prog.mapsAmong Tryz.f7.resultTypes.toList)) && ((Rows.fnBetweenRow.loops == (Tryz.f7.params.toList ++ (OpenSpec.ofChange Rows.fnBetweenSpec).bare.plain.varTypes Tryz.pinned.checked.prog).any (Tryz.pinned.checked.prog.loopsFrom ·)))) = true := by kernel_rfl

end Go.Proofs.YtjncpgcccgdeiaaGreatDoor
