/-
  laws.FnExactFolded: the statement and its card: for every machine and every other argument the law returns true, and the arguments read as they did. Conditions: the package-level variables that the row lists hold what it lists.
-/
import Derived.Test.YtjncpgcccgdeiaaGreatDoorDatM
import Derived.ChangeMaps5
import Derived.Deep.DeepWitnessRowRef
set_option linter.unusedSimpArgs false
set_option linter.unusedVariables false
set_option linter.unnecessarySimpa false
namespace Go.Proofs.YtjncpgcccgdeiaaGreatDoor
open Go Go.RowKit Go.ChangeShapes Go.WideShapes Go.ChangeAt

theorem cl0_fnExactFolded : ((Rows.fnExactFoldedRow.wf (OpenSpec.ofChange (OpenSpec.ofChange Rows.fnExactFoldedSpec).bare)) && (laidOutB Tryz.pinned.checked.prog) && (mapsRowed Tryz.pinned.checked.prog) && (Tryz.f6.params.all (Tryz.pinned.checked.prog.readableRec ·)) && (namedTie Tryz.pinned.checked.prog Rows.fnExactFoldedRow.named (OpenSpec.ofChange Rows.fnExactFoldedSpec).bare.vars) && ((Rows.fnExactFoldedRow.stops == [])) && ((Tryz.pinned.checked.prog.stops == [])) && ((Rows.fnExactFoldedRow.knobs == [])) && ((Tryz.pinned.checked.prog.stopKnobs == []))) = true := by kernel_rfl
theorem cl1_fnExactFolded : (((Rows.fnExactFoldedRow.inPlace == Tryz.pinned.checked.prog.inPlace 6)) && ((Rows.fnExactFoldedRow.unfollowed == Tryz.pinned.checked.prog.unfollowed 6)) && ((Rows.fnExactFoldedRow.recurses == Tryz.pinned.checked.prog.recurses 6)) && ((Rows.fnExactFoldedRow.named == Tryz.pinned.checked.prog.varsNamed 6)) && ((Rows.fnExactFoldedRow.maps == (Tryz.f6.params.toList ++ (OpenSpec.ofChange Rows.fnExactFoldedSpec).bare.plain.varTypes Tryz.pinned.checked.prog).any (Tryz.pinned.checked.prog.mapsRec ·))) && ((Rows.fnExactFoldedRow.ifaces == (Tryz.f6.params.toList ++ (OpenSpec.ofChange Rows.fnExactFoldedSpec).bare.plain.varTypes Tryz.pinned.checked.prog).any (Tryz.pinned.checked.prog.ifacesRec ·))) && ((Rows.fnExactFoldedRow.mapsOut == Tryz.pinned.checked.prog.mapsAmong Tryz.f6.resultTypes.toList)) && ((Rows.fnExactFoldedRow.loops == (Tryz.f6.params.toList ++ (OpenSpec.ofChange Rows.fnExactFoldedSpec).bare.plain.varTypes Tryz.pinned.checked.prog).any (Tryz.pinned.checked.prog.loopsFrom ·)))) = true := by kernel_rfl

end Go.Proofs.YtjncpgcccgdeiaaGreatDoor
