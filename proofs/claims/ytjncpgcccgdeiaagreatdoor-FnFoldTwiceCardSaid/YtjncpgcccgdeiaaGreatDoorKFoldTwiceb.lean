/-
  laws.FnExactFoldTwice: the statement and its card: for every machine and every other argument the law returns true, and the arguments read as they did. Conditions: the package-level variables that the row lists hold what it lists.
-/
import Derived.Test.YtjncpgcccgdeiaaGreatDoorDatH
import Derived.ChangeMaps5
import Derived.Deep.DeepWitnessRowRef
set_option linter.unusedSimpArgs false
set_option linter.unusedVariables false
set_option linter.unnecessarySimpa false
namespace Go.Proofs.YtjncpgcccgdeiaaGreatDoor
open Go Go.RowKit Go.ChangeShapes Go.WideShapes Go.ChangeAt

theorem cl0_fnFoldTwice : ((Rows.fnFoldTwiceRow.wf (OpenSpec.ofChange (OpenSpec.ofChange Rows.fnFoldTwiceSpec).bare)) && (laidOutB Tryz.pinned.checked.prog) && (mapsRowed Tryz.pinned.checked.prog) && (Tryz.f9.params.all (Tryz.pinned.checked.prog.readableRec ·)) && (namedTie Tryz.pinned.checked.prog Rows.fnFoldTwiceRow.named (OpenSpec.ofChange Rows.fnFoldTwiceSpec).bare.vars) && ((Rows.fnFoldTwiceRow.stops == [])) && ((Tryz.pinned.checked.prog.stops == [])) && ((Rows.fnFoldTwiceRow.knobs == [])) && ((Tryz.pinned.checked.prog.stopKnobs == []))) = true := by kernel_rfl
theorem cl1_fnFoldTwice : (((Rows.fnFoldTwiceRow.inPlace == Tryz.pinned.checked.prog.inPlace 9)) && ((Rows.fnFoldTwiceRow.unfollowed == Tryz.pinned.checked.prog.unfollowed 9)) && ((Rows.fnFoldTwiceRow.recurses == Tryz.pinned.checked.prog.recurses 9)) && ((Rows.fnFoldTwiceRow.named == Tryz.pinned.checked.prog.varsNamed 9)) && ((Rows.fnFoldTwiceRow.maps == (Tryz.f9.params.toList ++ (OpenSpec.ofChange Rows.fnFoldTwiceSpec).bare.plain.varTypes Tryz.pinned.checked.prog).any (Tryz.pinned.checked.prog.mapsRec ·))) && ((Rows.fnFoldTwiceRow.ifaces == (Tryz.f9.params.toList ++ (OpenSpec.ofChange Rows.fnFoldTwiceSpec).bare.plain.varTypes Tryz.pinned.checked.prog).any (Tryz.pinned.checked.prog.ifacesRec ·))) && ((Rows.fnFoldTwiceRow.mapsOut == Tryz.pinned.checked.prog.mapsAmong Tryz.f9.resultTypes.toList)) && ((Rows.fnFoldTwiceRow.loops == (Tryz.f9.params.toList ++ (OpenSpec.ofChange Rows.fnFoldTwiceSpec).bare.plain.varTypes Tryz.pinned.checked.prog).any (Tryz.pinned.checked.prog.loopsFrom ·)))) = true := by kernel_rfl

end Go.Proofs.YtjncpgcccgdeiaaGreatDoor
