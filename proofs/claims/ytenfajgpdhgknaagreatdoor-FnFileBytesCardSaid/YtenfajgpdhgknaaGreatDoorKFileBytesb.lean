/-
  laws.FnExactFileBytes: the statement and its card: for every machine and every other argument the law returns true, and the arguments read as they did. Conditions: the package-level variables that the row lists hold what it lists.
-/
import Derived.Test.YtenfajgpdhgknaaGreatDoorLd
import Derived.ChangeMaps5
import Derived.Deep.DeepWitnessRowRef
set_option linter.unusedSimpArgs false
set_option linter.unusedVariables false
set_option linter.unnecessarySimpa false
namespace Go.Proofs.YtenfajgpdhgknaaGreatDoor
open Go Go.RowKit Go.ChangeShapes Go.WideShapes Go.ChangeAt

theorem cl0_fnFileBytes : ((Rows.fnFileBytesRow.wf (OpenSpec.ofChange (OpenSpec.ofChange Rows.fnFileBytesSpec).bare)) && (laidOutB Tryz.pinned.checked.prog) && (mapsRowed Tryz.pinned.checked.prog) && (Tryz.f12.params.all (Tryz.pinned.checked.prog.readableRec ·)) && (namedTie Tryz.pinned.checked.prog Rows.fnFileBytesRow.named (OpenSpec.ofChange Rows.fnFileBytesSpec).bare.vars) && ((Rows.fnFileBytesRow.stops == [])) && ((Tryz.pinned.checked.prog.stops == [])) && ((Rows.fnFileBytesRow.knobs == [])) && ((Tryz.pinned.checked.prog.stopKnobs == []))) = true := by kernel_rfl
theorem cl1_fnFileBytes : (((Rows.fnFileBytesRow.inPlace == Tryz.pinned.checked.prog.inPlace 12)) && ((Rows.fnFileBytesRow.unfollowed == Tryz.pinned.checked.prog.unfollowed 12)) && ((Rows.fnFileBytesRow.recurses == Tryz.pinned.checked.prog.recurses 12)) && ((Rows.fnFileBytesRow.named == Tryz.pinned.checked.prog.varsNamed 12)) && ((Rows.fnFileBytesRow.maps == (Tryz.f12.params.toList ++ (OpenSpec.ofChange Rows.fnFileBytesSpec).bare.plain.varTypes Tryz.pinned.checked.prog).any (Tryz.pinned.checked.prog.mapsRec ·))) && ((Rows.fnFileBytesRow.ifaces == (Tryz.f12.params.toList ++ (OpenSpec.ofChange Rows.fnFileBytesSpec).bare.plain.varTypes Tryz.pinned.checked.prog).any (Tryz.pinned.checked.prog.ifacesRec ·))) && ((Rows.fnFileBytesRow.mapsOut == Tryz.pinned.checked.prog.mapsAmong Tryz.f12.resultTypes.toList)) && ((Rows.fnFileBytesRow.loops == (Tryz.f12.params.toList ++ (OpenSpec.ofChange Rows.fnFileBytesSpec).bare.plain.varTypes Tryz.pinned.checked.prog).any (Tryz.pinned.checked.prog.loopsFrom ·)))) = true := by kernel_rfl

end Go.Proofs.YtenfajgpdhgknaaGreatDoor
