/-
  laws.FnExactMake: the statement and its card: for every machine and every other argument the law returns true, and the arguments read as they did. Conditions: the package-level variables that the row lists hold what it lists.
-/
import Derived.Test.YtenfajgpdhgknaaGreatDoorLd
import Derived.ChangeMaps5
import Derived.Deep.DeepWitnessRowRef
set_option linter.unusedSimpArgs false
set_option linter.unusedVariables false
set_option linter.unnecessarySimpa false
namespace Go.Proofs.YtenfajgpdhgknaaGreatDoor
open Go Go.RowKit Go.ChangeShapes Go.WideShapes Go.ChangeAt

theorem cl0_fnMake : ((Rows.fnMakeRow.wf (OpenSpec.ofChange (OpenSpec.ofChange Rows.fnMakeSpec).bare)) && (laidOutB Tryz.pinned.checked.prog) && (mapsRowed Tryz.pinned.checked.prog) && (Tryz.f6.params.all (Tryz.pinned.checked.prog.readableRec ·)) && (namedTie Tryz.pinned.checked.prog Rows.fnMakeRow.named (OpenSpec.ofChange Rows.fnMakeSpec).bare.vars) && ((Rows.fnMakeRow.stops == [])) && ((Tryz.pinned.checked.prog.stops == [])) && ((Rows.fnMakeRow.knobs == [])) && ((Tryz.pinned.checked.prog.stopKnobs == []))) = true := by kernel_rfl
theorem cl1_fnMake : (((Rows.fnMakeRow.inPlace == Tryz.pinned.checked.prog.inPlace 6)) && ((Rows.fnMakeRow.unfollowed == Tryz.pinned.checked.prog.unfollowed 6)) && ((Rows.fnMakeRow.recurses == Tryz.pinned.checked.prog.recurses 6)) && ((Rows.fnMakeRow.named == Tryz.pinned.checked.prog.varsNamed 6)) && ((Rows.fnMakeRow.maps == (Tryz.f6.params.toList ++ (OpenSpec.ofChange Rows.fnMakeSpec).bare.plain.varTypes Tryz.pinned.checked.prog).any (Tryz.pinned.checked.prog.mapsRec ·))) && ((Rows.fnMakeRow.ifaces == (Tryz.f6.params.toList ++ (OpenSpec.ofChange Rows.fnMakeSpec).bare.plain.varTypes Tryz.pinned.checked.prog).any (Tryz.pinned.checked.prog.ifacesRec ·))) && ((Rows.fnMakeRow.mapsOut == Tryz.pinned.checked.prog.mapsAmong Tryz.f6.resultTypes.toList)) && ((Rows.fnMakeRow.loops == (Tryz.f6.params.toList ++ (OpenSpec.ofChange Rows.fnMakeSpec).bare.plain.varTypes Tryz.pinned.checked.prog).any (Tryz.pinned.checked.prog.loopsFrom ·)))) = true := by kernel_rfl

end Go.Proofs.YtenfajgpdhgknaaGreatDoor
