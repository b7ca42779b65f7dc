/-
  laws.FnExactFoldBegin: the statement and its card: for every machine and every other argument the law returns true, and the arguments read as they did. Conditions: the package-level variables that the row lists hold what it lists.
-/
import Derived.Test.YtjncpgcccgdeiaaGreatDoorDatM
import Derived.ChangeMaps5
import Derived.Deep.DeepWitnessRowRef
set_option linter.unusedSimpArgs false
set_option linter.unusedVariables false
set_option linter.unnecessarySimpa false
namespace Go.Proofs.YtjncpgcccgdeiaaGreatDoor
open Go Go.RowKit Go.ChangeShapes Go.WideShapes Go.ChangeAt

theorem cl0_fnExactFoldBegin : ((Rows.fnExactFoldBeginRow.wf (OpenSpec.ofChange (OpenSpec.ofChange Rows.fnExactFoldBeginSpec).bare)) && (laidOutB Tryz.pinned.checked.prog) && (mapsRowed Tryz.pinned.checked.prog) && (Tryz.f5.params.all (Tryz.pinned.checked.prog.readableRec ·)) && (namedTie Tryz.pinned.checked.prog Rows.fnExactFoldBeginRow.named (OpenSpec.ofChange Rows.fnExactFoldBeginSpec).bare.vars) && ((Rows.fnExactFoldBeginRow.stops == [])) && ((Tryz.pinned.checked.prog.stops == [])) && ((Rows.fnExactFoldBeginRow.knobs == [])) && ((Tryz.pinned.checked.prog.stopKnobs == []))) = true := by kernel_rfl
theorem cl1_fnExactFoldBegin : (((Rows.fnExactFoldBeginRow.inPlace == Tryz.pinned.checked.prog.inPlace 5)) && ((Rows.fnExactFoldBeginRow.unfollowed == Tryz.pinned.checked.prog.unfollowed 5)) && ((Rows.fnExactFoldBeginRow.recurses == Tryz.pinned.checked.prog.recurses 5)) && ((Rows.fnExactFoldBeginRow.named == Tryz.pinned.checked.prog.varsNamed 5)) && ((Rows.fnExactFoldBeginRow.maps == (Tryz.f5.params.toList ++ (OpenSpec.ofChange Rows.fnExactFoldBeginSpec).bare.plain.varTypes Tryz.pinned.checked.prog).any (Tryz.pinned.checked.prog.mapsRec ·))) && ((Rows.fnExactFoldBeginRow.ifaces == (Tryz.f5.params.toList ++ (OpenSpec.ofChange Rows.fnExactFoldBeginSpec).bare.plain.varTypes Tryz.pinned.checked.prog).any (Tryz.pinned.checked.prog.ifacesRec ·))) && ((Rows.fnExactFoldBeginRow.mapsOut == Tryz.pinned.checked.prog.mapsAmong Tryz.f5.resultTypes.toList)) && ((Rows.fnExactFoldBeginRow.loops == (Tryz.f5.params.toList ++ (OpenSpec.ofChange Rows.fnExactFoldBeginSpec).bare.plain.varTypes Tryz.pinned.checked.prog).any (Tryz.pinned.checked.prog.loopsFrom ·)))) = true := by kernel_rfl

end Go.Proofs.YtjncpgcccgdeiaaGreatDoor
