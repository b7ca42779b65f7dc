/-
  laws.FnExactRenamed: the statement and its card: for every machine and every other argument the law returns true, and the arguments read as they did. Conditions: the package-level variables that the row lists hold what it lists.
-/
import Derived.Test.YtenfajgpdhgknaaGreatDoorLd
import Derived.ChangeMaps5
import Derived.Deep.DeepWitnessRowRef
set_option linter.unusedSimpArgs false
set_option linter.unusedVariables false
set_option linter.unnecessarySimpa false
namespace Go.Proofs.YtenfajgpdhgknaaGreatDoor
open Go Go.RowKit Go.ChangeShapes Go.WideShapes Go.ChangeAt

theorem cl0_fnRenamed : ((Rows.fnRenamedRow.wf (OpenSpec.ofChange (OpenSpec.ofChange Rows.fnRenamedSpec).bare)) && (laidOutB Tryz.pinned.checked.prog) && (mapsRowed Tryz.pinned.checked.prog) && (Tryz.f8.params.all (Tryz.pinned.checked.prog.readableRec ·)) && (namedTie Tryz.pinned.checked.prog Rows.fnRenamedRow.named (OpenSpec.ofChange Rows.fnRenamedSpec).bare.vars) && ((Rows.fnRenamedRow.stops == [])) && ((Tryz.pinned.checked.prog.stops == [])) && ((Rows.fnRenamedRow.knobs == [])) && ((Tryz.pinned.checked.prog.stopKnobs == []))) = true := by kernel_rfl
theorem cl1_fnRenamed : (((Rows.fnRenamedRow.inPlace == Tryz.pinned.checked.prog.inPlace 8)) && ((Rows.fnRenamedRow.unfollowed == Tryz.pinned.checked.prog.unfollowed 8)) && ((Rows.fnRenamedRow.recurses == Tryz.pinned.checked.prog.recurses 8)) && ((Rows.fnRenamedRow.named == Tryz.pinned.checked.prog.varsNamed 8)) && ((Rows.fnRenamedRow.maps == (Tryz.f8.params.toList ++ (OpenSpec.ofChange Rows.fnRenamedSpec).bare.plain.varTypes Tryz.pinned.checked.prog).any (Tryz.pinned.checked.prog.mapsRec ·))) && ((Rows.fnRenamedRow.ifaces == (Tryz.f8.params.toList ++ (OpenSpec.ofChange Rows.fnRenamedSpec).bare.plain.varTypes Tryz.pinned.checked.prog).any (Tryz.pinned.checked.prog.ifacesRec ·))) && ((Rows.fnRenamedRow.mapsOut == Tryz.pinned.checked.prog.mapsAmong Tryz.f8.resultTypes.toList)) && ((Rows.fnRenamedRow.loops == (Tryz.f8.params.toList ++ (OpenSpec.ofChange Rows.fnRenamedSpec).bare.plain.varTypes Tryz.pinned.checked.prog).any (Tryz.pinned.checked.prog.loopsFrom ·)))) = true := by kernel_rfl

end Go.Proofs.YtenfajgpdhgknaaGreatDoor
