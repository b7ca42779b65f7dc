/-
  laws.FnExactTakePipe: the statement and its card: for every machine and every other argument the law returns true, and the arguments read as they did. Conditions: the package-level variables that the row lists hold what it lists.
-/
import Derived.Test.YtenfajgpdhgknaaGreatDoorLd
import Derived.ChangeMaps5
import Derived.Deep.DeepWitnessRowRef
set_option linter.unusedSimpArgs false
set_option linter.unusedVariables false
set_option linter.unnecessarySimpa false
namespace Go.Proofs.YtenfajgpdhgknaaGreatDoor
open Go Go.RowKit Go.ChangeShapes Go.WideShapes Go.ChangeAt

theorem cl0_fnExactTakePipe : ((Rows.fnExactTakePipeRow.wf (OpenSpec.ofChange (OpenSpec.ofChange Rows.fnExactTakePipeSpec).bare)) && (laidOutB Tryz.pinned.checked.prog) && (mapsRowed Tryz.pinned.checked.prog) && (Tryz.f3.params.all (Tryz.pinned.checked.prog.readableRec ·)) && (namedTie Tryz.pinned.checked.prog Rows.fnExactTakePipeRow.named (OpenSpec.ofChange Rows.fnExactTakePipeSpec).bare.vars) && ((Rows.fnExactTakePipeRow.stops == [])) && ((Tryz.pinned.checked.prog.stops == [])) && ((Rows.fnExactTakePipeRow.knobs == [])) && ((Tryz.pinned.checked.prog.stopKnobs == []))) = true := by kernel_rfl
theorem cl1_fnExactTakePipe : (((Rows.fnExactTakePipeRow.inPlace == Tryz.pinned.checked.prog.inPlace 3)) && ((Rows.fnExactTakePipeRow.unfollowed == Tryz.pinned.checked.prog.unfollowed 3)) && ((Rows.fnExactTakePipeRow.recurses == Tryz.pinned.checked.prog.recurses 3)) && ((Rows.fnExactTakePipeRow.named == Tryz.pinned.checked.prog.varsNamed 3)) && ((Rows.fnExactTakePipeRow.maps == (Tryz.f3.params.toList ++ (OpenSpec.ofChange Rows.fnExactTakePipeSpec).bare.plain.varTypes Tryz.pinned.checked.prog).any (Tryz.pinned.checked.prog.mapsRec ·))) && ((Rows.fnExactTakePipeRow.ifaces == (Tryz.f3.params.toList ++ (OpenSpec.ofChange Rows.fnExactTakePipeSpec).bare.plain.varTypes Tryz.pinned.checked.prog).any (Tryz.pinned.checked.prog.ifacesRec ·))) && ((Rows.fnExactTakePipeRow.mapsOut == Tryz.pinned.checked.prog.mapsAmong Tryz.f3.resultTypes.toList)) && ((Rows.fnExactTakePipeRow.loops == (Tryz.f3.params.toList ++ (OpenSpec.ofChange Rows.fnExactTakePipeSpec).bare.plain.varTypes Tryz.pinned.checked.prog).any (Tryz.pinned.checked.prog.loopsFrom ·)))) = true := by kernel_rfl

end Go.Proofs.YtenfajgpdhgknaaGreatDoor
