/-
  laws.FnExactProcs: the statement and its card: for every machine and every other argument the law returns true, and the arguments read as they did. Conditions: the package-level variables that the row lists hold what it lists.
-/
import Derived.Test.YtenfajgpdhgknaaGreatDoorS06HELD
import Derived.ChangeMaps5
import Derived.Deep.DeepWitnessRowRef
set_option linter.unusedSimpArgs false
set_option linter.unusedVariables false
set_option linter.unnecessarySimpa false
namespace Go.Proofs.YtenfajgpdhgknaaGreatDoor
open Go Go.RowKit Go.ChangeShapes Go.WideShapes Go.ChangeAt

theorem cl0_fnProcs : ((Rows.fnProcsRow.wf (OpenSpec.ofChange (OpenSpec.ofChange Rows.fnProcsSpec).bare)) && (laidOutB Tryz.pinned.checked.prog) && (mapsRowed Tryz.pinned.checked.prog) && (Tryz.f10.params.all (Tryz.pinned.checked.prog.readableRec ·)) && (namedTie Tryz.pinned.checked.prog Rows.fnProcsRow.named (OpenSpec.ofChange Rows.fnProcsSpec).bare.vars) && ((Rows.fnProcsRow.stops == [])) && ((Tryz.pinned.checked.prog.stops == [])) && ((Rows.fnProcsRow.knobs == [])) && ((Tryz.pinned.checked.prog.stopKnobs == []))) = true := by kernel_rfl
theorem cl1_fnProcs : (((Rows.fnProcsRow.inPlace == Tryz.pinned.checked.prog.inPlace 10)) && ((Rows.fnProcsRow.unfollowed == Tryz.pinned.checked.prog.unfollowed 10)) && ((Rows.fnProcsRow.recurses == Tryz.pinned.checked.prog.recurses 10)) && ((Rows.fnProcsRow.named == Tryz.pinned.checked.prog.varsNamed 10)) && ((Rows.fnProcsRow.maps == (Tryz.f10.params.toList ++ (OpenSpec.ofChange Rows.fnProcsSpec).bare.plain.varTypes Tryz.pinned.checked.prog).any (Tryz.pinned.checked.prog.mapsRec ·))) && ((Rows.fnProcsRow.ifaces == (Tryz.f10.params.toList ++ (OpenSpec.ofChange Rows.fnProcsSpec).bare.plain.varTypes Tryz.pinned.checked.prog).any (Tryz.pinned.checked.prog.ifacesRec ·))) && ((Rows.fnProcsRow.mapsOut == Tryz.pinned.checked.prog.mapsAmong Tryz.f10.resultTypes.toList)) && ((Rows.fnProcsRow.loops == (Tryz.f10.params.toList ++ (OpenSpec.ofChange Rows.fnProcsSpec).bare.plain.varTypes Tryz.pinned.checked.prog).any (Tryz.pinned.checked.prog.loopsFrom ·)))) = true := by kernel_rfl

end Go.Proofs.YtenfajgpdhgknaaGreatDoor
