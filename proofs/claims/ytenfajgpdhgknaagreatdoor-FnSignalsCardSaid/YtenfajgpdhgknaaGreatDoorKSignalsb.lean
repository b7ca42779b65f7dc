/-
  laws.FnExactSignals: the statement and its card: for every machine and every other argument the law returns true, and the arguments read as they did. Conditions: the package-level variables that the row lists hold what it lists.
-/
import Derived.Test.YtenfajgpdhgknaaGreatDoorS06HELD
import Derived.ChangeMaps5
import Derived.Deep.DeepWitnessRowRef
set_option linter.unusedSimpArgs false
set_option linter.unusedVariables false
set_option linter.unnecessarySimpa false
namespace Go.Proofs.YtenfajgpdhgknaaGreatDoor
open Go Go.RowKit Go.ChangeShapes Go.WideShapes Go.ChangeAt

theorem cl0_fnSignals : ((Rows.fnSignalsRow.wf (OpenSpec.ofChange (OpenSpec.ofChange Rows.fnSignalsSpec).bare)) && (laidOutB Tryz.pinned.checked.prog) && (mapsRowed Tryz.pinned.checked.prog) && (Tryz.f11.params.all (Tryz.pinned.checked.prog.readableRec ·)) && (namedTie Tryz.pinned.checked.prog Rows.fnSignalsRow.named (OpenSpec.ofChange Rows.fnSignalsSpec).bare.vars) && ((Rows.fnSignalsRow.stops == [])) && ((Tryz.pinned.checked.prog.stops == [])) && ((Rows.fnSignalsRow.knobs == [])) && ((Tryz.pinned.checked.prog.stopKnobs == []))) = true := by kernel_rfl
theorem cl1_fnSignals : (((Rows.fnSignalsRow.inPlace == Tryz.pinned.checked.prog.inPlace 11)) && ((Rows.fnSignalsRow.unfollowed == Tryz.pinned.checked.prog.unfollowed 11)) && ((Rows.fnSignalsRow.recurses == Tryz.pinned.checked.prog.recurses 11)) && ((Rows.fnSignalsRow.named == Tryz.pinned.checked.prog.varsNamed 11)) && ((Rows.fnSignalsRow.maps == (Tryz.f11.params.toList ++ (OpenSpec.ofChange Rows.fnSignalsSpec).bare.plain.varTypes Tryz.pinned.checked.prog).any (Tryz.pinned.checked.prog.mapsRec ·))) && ((Rows.fnSignalsRow.ifaces == (Tryz.f11.params.toList ++ (OpenSpec.ofChange Rows.fnSignalsSpec).bare.plain.varTypes Tryz.pinned.checked.prog).any (Tryz.pinned.checked.prog.ifacesRec ·))) && ((Rows.fnSignalsRow.mapsOut == Tryz.pinned.checked.prog.mapsAmong Tryz.f11.resultTypes.toList)) && ((Rows.fnSignalsRow.loops == (Tryz.f11.params.toList ++ (OpenSpec.ofChange Rows.fnSignalsSpec).bare.plain.varTypes Tryz.pinned.checked.prog).any (Tryz.pinned.checked.prog.loopsFrom ·)))) = true := by kernel_rfl

end Go.Proofs.YtenfajgpdhgknaaGreatDoor
