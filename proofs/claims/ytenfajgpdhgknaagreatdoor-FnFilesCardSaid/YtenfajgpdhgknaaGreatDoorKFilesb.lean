/-
  laws.FnExactFiles: the statement and its card: for every machine and every other argument the law returns true, and the arguments read as they did. Conditions: the package-level variables that the row lists hold what it lists.
-/
import Derived.Test.YtenfajgpdhgknaaGreatDoorS06HELD
import Derived.ChangeMaps5
import Derived.Deep.DeepWitnessRowRef
set_option linter.unusedSimpArgs false
set_option linter.unusedVariables false
set_option linter.unnecessarySimpa false
namespace Go.Proofs.YtenfajgpdhgknaaGreatDoor
open Go Go.RowKit Go.ChangeShapes Go.WideShapes Go.ChangeAt

theorem cl0_fnFiles : ((Rows.fnFilesRow.wf (OpenSpec.ofChange (OpenSpec.ofChange Rows.fnFilesSpec).bare)) && (laidOutB Tryz.pinned.checked.prog) && (mapsRowed Tryz.pinned.checked.prog) && (Tryz.f13.params.all (Tryz.pinned.checked.prog.readableRec ·)) && (namedTie Tryz.pinned.checked.prog Rows.fnFilesRow.named (OpenSpec.ofChange Rows.fnFilesSpec).bare.vars) && ((Rows.fnFilesRow.stops == [])) && ((Tryz.pinned.checked.prog.stops == [])) && ((Rows.fnFilesRow.knobs == [])) && ((Tryz.pinned.checked.prog.stopKnobs == []))) = true := by kernel_rfl
theorem cl1_fnFiles : (((Rows.fnFilesRow.inPlace == Tryz.pinned.checked.prog.inPlace 13)) && ((Rows.fnFilesRow.unfollowed == Tryz.pinned.checked.prog.unfollowed 13)) && ((Rows.fnFilesRow.recurses == Tryz.pinned.checked.prog.recurses 13)) && ((Rows.fnFilesRow.named == Tryz.pinned.checked.prog.varsNamed 13)) && ((Rows.fnFilesRow.maps == (Tryz.f13.params.toList ++ (OpenSpec.ofChange Rows.fnFilesSpec).bare.plain.varTypes Tryz.pinned.checked.prog).any (Tryz.pinned.checked.prog.mapsRec ·))) && ((Rows.fnFilesRow.ifaces == (Tryz.f13.params.toList ++ (OpenSpec.ofChange Rows.fnFilesSpec).bare.plain.varTypes Tryz.pinned.checked.prog).any (Tryz.pinned.checked.prog.ifacesRec ·))) && ((Rows.fnFilesRow.mapsOut == Tryz.pinned.checked.prog.mapsAmong Tryz.f13.resultTypes.toList)) && ((Rows.fnFilesRow.loops == (Tryz.f13.params.toList ++ (OpenSpec.ofChange Rows.fnFilesSpec).bare.plain.varTypes Tryz.pinned.checked.prog).any (Tryz.pinned.checked.prog.loopsFrom ·)))) = true := by kernel_rfl

end Go.Proofs.YtenfajgpdhgknaaGreatDoor
