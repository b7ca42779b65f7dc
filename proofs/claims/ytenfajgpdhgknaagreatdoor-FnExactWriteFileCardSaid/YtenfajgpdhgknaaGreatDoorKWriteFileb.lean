/-
  laws.FnExactWriteFile: the statement and its card: for every machine and every other argument the law returns true, and the arguments read as they did. Conditions: the package-level variables that the row lists hold what it lists.
-/
import Derived.Test.YtenfajgpdhgknaaGreatDoorLd
import Derived.ChangeMaps5
import Derived.Deep.DeepWitnessRowRef
set_option linter.unusedSimpArgs false
set_option linter.unusedVariables false
set_option linter.unnecessarySimpa false
namespace Go.Proofs.YtenfajgpdhgknaaGreatDoor
open Go Go.RowKit Go.ChangeShapes Go.WideShapes Go.ChangeAt

theorem cl0_fnExactWriteFile : ((Rows.fnExactWriteFileRow.wf (OpenSpec.ofChange (OpenSpec.ofChange Rows.fnExactWriteFileSpec).bare)) && (laidOutB Tryz.pinned.checked.prog) && (mapsRowed Tryz.pinned.checked.prog) && (Tryz.f5.params.all (Tryz.pinned.checked.prog.readableRec ·)) && (namedTie Tryz.pinned.checked.prog Rows.fnExactWriteFileRow.named (OpenSpec.ofChange Rows.fnExactWriteFileSpec).bare.vars) && ((Rows.fnExactWriteFileRow.stops == [])) && ((Tryz.pinned.checked.prog.stops == [])) && ((Rows.fnExactWriteFileRow.knobs == [])) && ((Tryz.pinned.checked.prog.stopKnobs == []))) = true := by kernel_rfl
theorem cl1_fnExactWriteFile : (((Rows.fnExactWriteFileRow.inPlace == Tryz.pinned.checked.prog.inPlace 5)) && ((Rows.fnExactWriteFileRow.unfollowed == Tryz.pinned.checked.prog.unfollowed 5)) && ((Rows.fnExactWriteFileRow.recurses == Tryz.pinned.checked.prog.recurses 5)) && ((Rows.fnExactWriteFileRow.named == Tryz.pinned.checked.prog.varsNamed 5)) && ((Rows.fnExactWriteFileRow.maps == (Tryz.f5.params.toList ++ (OpenSpec.ofChange Rows.fnExactWriteFileSpec).bare.plain.varTypes Tryz.pinned.checked.prog).any (Tryz.pinned.checked.prog.mapsRec ·))) && ((Rows.fnExactWriteFileRow.ifaces == (Tryz.f5.params.toList ++ (OpenSpec.ofChange Rows.fnExactWriteFileSpec).bare.plain.varTypes Tryz.pinned.checked.prog).any (Tryz.pinned.checked.prog.ifacesRec ·))) && ((Rows.fnExactWriteFileRow.mapsOut == Tryz.pinned.checked.prog.mapsAmong Tryz.f5.resultTypes.toList)) && ((Rows.fnExactWriteFileRow.loops == (Tryz.f5.params.toList ++ (OpenSpec.ofChange Rows.fnExactWriteFileSpec).bare.plain.varTypes Tryz.pinned.checked.prog).any (Tryz.pinned.checked.prog.loopsFrom ·)))) = true := by kernel_rfl

end Go.Proofs.YtenfajgpdhgknaaGreatDoor
