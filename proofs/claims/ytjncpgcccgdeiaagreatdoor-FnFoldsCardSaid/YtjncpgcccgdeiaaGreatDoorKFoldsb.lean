/-
  laws.FnExactFolds: the statement and its card: for every machine and every other argument the law returns true, and the arguments read as they did. Conditions: the package-level variables that the row lists hold what it lists.
-/
import Derived.Test.YtjncpgcccgdeiaaGreatDoorDatH
import Derived.ChangeMaps5
import Derived.Deep.DeepWitnessRowRef
set_option linter.unusedSimpArgs false
set_option linter.unusedVariables false
set_option linter.unnecessarySimpa false
namespace Go.Proofs.YtjncpgcccgdeiaaGreatDoor
open Go Go.RowKit Go.ChangeShapes Go.WideShapes Go.ChangeAt

theorem cl0_fnFolds : ((Rows.fnFoldsRow.wf (OpenSpec.ofChange (OpenSpec.ofChange Rows.fnFoldsSpec).bare)) && (laidOutB Tryz.pinned.checked.prog) && (mapsRowed Tryz.pinned.checked.prog) && (Tryz.f8.params.all (Tryz.pinned.checked.prog.readableRec ·)) && (namedTie Tryz.pinned.checked.prog Rows.fnFoldsRow.named (OpenSpec.ofChange Rows.fnFoldsSpec).bare.vars) && ((Rows.fnFoldsRow.stops == [])) && ((Tryz.pinned.checked.prog.stops == [])) && ((Rows.fnFoldsRow.knobs == [])) && ((Tryz.pinned.checked.prog.stopKnobs == []))) = true := by kernel_rfl
theorem cl1_fnFolds : (((Rows.fnFoldsRow.inPlace == Tryz.pinned.checked.prog.inPlace 8)) && ((Rows.fnFoldsRow.unfollowed == Tryz.pinned.checked.prog.unfollowed 8)) && ((Rows.fnFoldsRow.recurses == Tryz.pinned.checked.prog.recurses 8)) && ((Rows.fnFoldsRow.named == Tryz.pinned.checked.prog.varsNamed 8)) && ((Rows.fnFoldsRow.maps == (Tryz.f8.params.toList ++ (OpenSpec.ofChange Rows.fnFoldsSpec).bare.plain.varTypes Tryz.pinned.checked.prog).any (Tryz.pinned.checked.prog.mapsRec ·))) && ((Rows.fnFoldsRow.ifaces == (Tryz.f8.params.toList ++ (OpenSpec.ofChange Rows.fnFoldsSpec).bare.plain.varTypes Tryz.pinned.checked.prog).any (Tryz.pinned.checked.prog.ifacesRec ·))) && ((Rows.fnFoldsRow.mapsOut == Tryz.pinned.checked.prog.mapsAmong Tryz.f8.resultTypes.toList)) && ((Rows.fnFoldsRow.loops == (Tryz.f8.params.toList ++ (OpenSpec.ofChange Rows.fnFoldsSpec).bare.plain.varTypes Tryz.pinned.checked.prog).any (Tryz.pinned.checked.prog.loopsFrom ·)))) = true := by kernel_rfl

end Go.Proofs.YtjncpgcccgdeiaaGreatDoor
