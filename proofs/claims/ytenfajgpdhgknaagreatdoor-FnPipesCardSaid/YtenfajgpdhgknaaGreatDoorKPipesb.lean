/-
  laws.FnExactPipes: the statement and its card: for every machine and every other argument the law returns true, and the arguments read as they did. Conditions: the package-level variables that the row lists hold what it lists.
-/
import Derived.Test.YtenfajgpdhgknaaGreatDoorS06HELD
import Derived.ChangeMaps5
import Derived.Deep.DeepWitnessRowRef
set_option linter.unusedSimpArgs false
set_option linter.unusedVariables false
set_option linter.unnecessarySimpa false
namespace Go.Proofs.YtenfajgpdhgknaaGreatDoor
open Go Go.RowKit Go.ChangeShapes Go.WideShapes Go.ChangeAt

theorem cl0_fnPipes : ((Rows.fnPipesRow.wf (OpenSpec.ofChange (OpenSpec.ofChange Rows.fnPipesSpec).bare)) && (laidOutB Tryz.pinned.checked.prog) && (mapsRowed Tryz.pinned.checked.prog) && (Tryz.f9.params.all (Tryz.pinned.checked.prog.readableRec ·)) && (namedTie Tryz.pinned.checked.prog Rows.fnPipesRow.named (OpenSpec.ofChange Rows.fnPipesSpec).bare.vars) && ((Rows.fnPipesRow.stops == [])) && ((Tryz.pinned.checked.prog.stops == [])) && ((Rows.fnPipesRow.knobs == [])) && ((Tryz.pinned.checked.prog.stopKnobs == []))) = true := by kernel_rfl
theorem cl1_fnPipes : (((Rows.fnPipesRow.inPlace == Tryz.pinned.checked.prog.inPlace 9)) && ((Rows.fnPipesRow.unfollowed == Tryz.pinned.checked.prog.unfollowed 9)) && ((Rows.fnPipesRow.recurses == Tryz.pinned.checked.prog.recurses 9)) && ((Rows.fnPipesRow.named == Tryz.pinned.checked.prog.varsNamed 9)) && ((Rows.fnPipesRow.maps == (Tryz.f9.params.toList ++ (OpenSpec.ofChange Rows.fnPipesSpec).bare.plain.varTypes Tryz.pinned.checked.prog).any (Tryz.pinned.checked.prog.mapsRec ·))) && ((Rows.fnPipesRow.ifaces == (Tryz.f9.params.toList ++ (OpenSpec.ofChange Rows.fnPipesSpec).bare.plain.varTypes Tryz.pinned.checked.prog).any (Tryz.pinned.checked.prog.ifacesRec ·))) && ((Rows.fnPipesRow.mapsOut == Tryz.pinned.checked.prog.mapsAmong Tryz.f9.resultTypes.toList)) && ((Rows.fnPipesRow.loops == (Tryz.f9.params.toList ++ (OpenSpec.ofChange Rows.fnPipesSpec).bare.plain.varTypes Tryz.pinned.checked.prog).any (Tryz.pinned.checked.prog.loopsFrom ·)))) = true := by kernel_rfl

end Go.Proofs.YtenfajgpdhgknaaGreatDoor
