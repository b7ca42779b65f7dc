/-
  laws.FnExactCleaned: the statement and its card: for every machine and every other argument the law returns true, and the arguments read as they did. Conditions: the package-level variables that the row lists hold what it lists.
-/
import Derived.Test.YtjncpgcccgdeiaaGreatDoorDatT
import Derived.ChangeMaps5
import Derived.Deep.DeepWitnessRowRef
set_option linter.unusedSimpArgs false
set_option linter.unusedVariables false
set_option linter.unnecessarySimpa false
namespace Go.Proofs.YtjncpgcccgdeiaaGreatDoor
open Go Go.RowKit Go.ChangeShapes Go.WideShapes Go.ChangeAt

theorem cl0_fnExactCleaned : ((Rows.fnExactCleanedRow.wf (OpenSpec.ofChange (OpenSpec.ofChange Rows.fnExactCleanedSpec).bare)) && (laidOutB Tryz.pinned.checked.prog) && (mapsRowed Tryz.pinned.checked.prog) && (Tryz.f4.params.all (Tryz.pinned.checked.prog.readableRec ·)) && (namedTie Tryz.pinned.checked.prog Rows.fnExactCleanedRow.named (OpenSpec.ofChange Rows.fnExactCleanedSpec).bare.vars) && ((Rows.fnExactCleanedRow.stops == [])) && ((Tryz.pinned.checked.prog.stops == [])) && ((Rows.fnExactCleanedRow.knobs == [])) && ((Tryz.pinned.checked.prog.stopKnobs == []))) = true := by kernel_rfl
theorem cl1_fnExactCleaned : (((Rows.fnExactCleanedRow.inPlace == Tryz.pinned.checked.prog.inPlace 4)) && ((Rows.fnExactCleanedRow.unfollowed == Tryz.pinned.checked.prog.unfollowed 4)) && ((Rows.fnExactCleanedRow.recurses == Tryz.pinned.checked.prog.recurses 4)) && ((Rows.fnExactCleanedRow.named == Tryz.pinned.checked.prog.varsNamed 4)) && ((Rows.fnExactCleanedRow.maps == (Tryz.f4.params.toList ++ (OpenSpec.ofChange Rows.fnExactCleanedSpec).bare.plain.varTypes Tryz.pinned.checked.prog).any (Tryz.pinned.checked.prog.mapsRec ·))) && ((Rows.fnExactCleanedRow.ifaces == (Tryz.f4.params.toList ++ (OpenSpec.ofChange Rows.fnExactCleanedSpec).bare.plain.varTypes Tryz.pinned.checked.prog).any (Tryz.pinned.checked.prog.ifacesRec ·))) && ((Rows.fnExactCleanedRow.mapsOut == Tryz.pinned.checked.prog.mapsAmong Tryz.f4.resultTypes.toList)) && ((Rows.fnExactCleanedRow.loops == (Tryz.f4.params.toList ++ (OpenSpec.ofChange Rows.fnExactCleanedSpec).bare.plain.varTypes Tryz.pinned.checked.prog).any (Tryz.pinned.checked.prog.loopsFrom ·)))) = true := by kernel_rfl

end Go.Proofs.YtjncpgcccgdeiaaGreatDoor
