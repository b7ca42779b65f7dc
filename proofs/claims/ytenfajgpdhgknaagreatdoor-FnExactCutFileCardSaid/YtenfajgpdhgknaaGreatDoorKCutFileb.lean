/-
  laws.FnExactCutFile: the statement and its card: for every machine and every other argument the law returns true, and the arguments read as they did. Conditions: the package-level variables that the row lists hold what it lists.
-/
import Derived.Test.YtenfajgpdhgknaaGreatDoorLd
import Derived.ChangeMaps5
import Derived.Deep.DeepWitnessRowRef
set_option linter.unusedSimpArgs false
set_option linter.unusedVariables false
set_option linter.unnecessarySimpa false
namespace Go.Proofs.YtenfajgpdhgknaaGreatDoor
open Go Go.RowKit Go.ChangeShapes Go.WideShapes Go.ChangeAt

theorem cl0_fnExactCutFile : ((Rows.fnExactCutFileRow.wf (OpenSpec.ofChange (OpenSpec.ofChange Rows.fnExactCutFileSpec).bare)) && (laidOutB Tryz.pinned.checked.prog) && (mapsRowed Tryz.pinned.checked.prog) && (Tryz.f4.params.all (Tryz.pinned.checked.prog.readableRec ·)) && (namedTie Tryz.pinned.checked.prog Rows.fnExactCutFileRow.named (OpenSpec.ofChange Rows.fnExactCutFileSpec).bare.vars) && ((Rows.fnExactCutFileRow.stops == [])) && ((Tryz.pinned.checked.prog.stops == [])) && ((Rows.fnExactCutFileRow.knobs == [])) && ((Tryz.pinned.checked.prog.stopKnobs == []))) = true := by kernel_rfl
theorem cl1_fnExactCutFile : (((Rows.fnExactCutFileRow.inPlace == Tryz.pinned.checked.prog.inPlace 4)) && ((Rows.fnExactCutFileRow.unfollowed == Tryz.pinned.checked.prog.unfollowed 4)) && ((Rows.fnExactCutFileRow.recurses == Tryz.pinned.checked.prog.recurses 4)) && ((Rows.fnExactCutFileRow.named == Tryz.pinned.checked.prog.varsNamed 4)) && ((Rows.fnExactCutFileRow.maps == (Tryz.f4.params.toList ++ (OpenSpec.ofChange Rows.fnExactCutFileSpec).bare.plain.varTypes Tryz.pinned.checked.prog).any (Tryz.pinned.checked.prog.mapsRec ·))) && ((Rows.fnExactCutFileRow.ifaces == (Tryz.f4.params.toList ++ (OpenSpec.ofChange Rows.fnExactCutFileSpec).bare.plain.varTypes Tryz.pinned.checked.prog).any (Tryz.pinned.checked.prog.ifacesRec ·))) && ((Rows.fnExactCutFileRow.mapsOut == Tryz.pinned.checked.prog.mapsAmong Tryz.f4.resultTypes.toList)) && ((Rows.fnExactCutFileRow.loops == (Tryz.f4.params.toList ++ (OpenSpec.ofChange Rows.fnExactCutFileSpec).bare.plain.varTypes Tryz.pinned.checked.prog).any (Tryz.pinned.checked.prog.loopsFrom ·)))) = true := by kernel_rfl

end Go.Proofs.YtenfajgpdhgknaaGreatDoor
