/-
  laws.FnExactOuts: the statement and its card: for every machine and every other argument the law returns true, and the arguments read as they did. Conditions: the package-level variables that the row lists hold what it lists.
-/
import Derived.Test.YtenfajgpdhgknaaGreatDoorS06HELD
import Derived.ChangeMaps5
import Derived.Deep.DeepWitnessRowRef
set_option linter.unusedSimpArgs false
set_option linter.unusedVariables false
set_option linter.unnecessarySimpa false
namespace Go.Proofs.YtenfajgpdhgknaaGreatDoor
open Go Go.RowKit Go.ChangeShapes Go.WideShapes Go.ChangeAt

theorem cl0_fnOuts : ((Rows.fnOutsRow.wf (OpenSpec.ofChange (OpenSpec.ofChange Rows.fnOutsSpec).bare)) && (laidOutB Tryz.pinned.checked.prog) && (mapsRowed Tryz.pinned.checked.prog) && (Tryz.f14.params.all (Tryz.pinned.checked.prog.readableRec ·)) && (namedTie Tryz.pinned.checked.prog Rows.fnOutsRow.named (OpenSpec.ofChange Rows.fnOutsSpec).bare.vars) && ((Rows.fnOutsRow.stops == [])) && ((Tryz.pinned.checked.prog.stops == [])) && ((Rows.fnOutsRow.knobs == [])) && ((Tryz.pinned.checked.prog.stopKnobs == []))) = true := by kernel_rfl
theorem cl1_fnOuts : (((Rows.fnOutsRow.inPlace == Tryz.pinned.checked.prog.inPlace 14)) && ((Rows.fnOutsRow.unfollowed == Tryz.pinned.checked.prog.unfollowed 14)) && ((Rows.fnOutsRow.recurses == Tryz.pinned.checked.prog.recurses 14)) && ((Rows.fnOutsRow.named == Tryz.pinned.checked.prog.varsNamed 14)) && ((Rows.fnOutsRow.maps == (Tryz.f14.params.toList ++ (OpenSpec.ofChange Rows.fnOutsSpec).bare.plain.varTypes Tryz.pinned.checked.prog).any (Tryz.pinned.checked.prog.mapsRec ·))) && ((Rows.fnOutsRow.ifaces == (Tryz.f14.params.toList ++ (OpenSpec.ofChange Rows.fnOutsSpec).bare.plain.varTypes Tryz.pinned.checked.prog).any (Tryz.pinned.checked.prog.ifacesRec ·))) && ((Rows.fnOutsRow.mapsOut == Tryz.pinned.checked.prog.mapsAmong Tryz.f14.resultTypes.toList)) && ((Rows.fnOutsRow.loops == (Tryz.f14.params.toList ++ (OpenSpec.ofChange Rows.fnOutsSpec).bare.plain.varTypes Tryz.pinned.checked.prog).any (Tryz.pinned.checked.prog.loopsFrom ·)))) = true := by kernel_rfl

end Go.Proofs.YtenfajgpdhgknaaGreatDoor
