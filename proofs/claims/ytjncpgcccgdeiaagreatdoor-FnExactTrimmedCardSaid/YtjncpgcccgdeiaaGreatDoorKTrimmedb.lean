/-
  laws.FnExactTrimmed: the statement and its card: for every machine and every other argument the law returns true, and the arguments read as they did. Conditions: the package-level variables that the row lists hold what it lists.
-/
import Derived.Test.YtjncpgcccgdeiaaGreatDoorDatT
import Derived.ChangeMaps5
import Derived.Deep.DeepWitnessRowRef
set_option linter.unusedSimpArgs false
set_option linter.unusedVariables false
set_option linter.unnecessarySimpa false
namespace Go.Proofs.YtjncpgcccgdeiaaGreatDoor
open Go Go.RowKit Go.ChangeShapes Go.WideShapes Go.ChangeAt

theorem cl0_fnExactTrimmed : ((Rows.fnExactTrimmedRow.wf (OpenSpec.ofChange (OpenSpec.ofChange Rows.fnExactTrimmedSpec).bare)) && (laidOutB Tryz.pinned.checked.prog) && (mapsRowed Tryz.pinned.checked.prog) && (Tryz.f3.params.all (Tryz.pinned.checked.prog.readableRec ·)) && (namedTie Tryz.pinned.checked.prog Rows.fnExactTrimmedRow.named (OpenSpec.ofChange Rows.fnExactTrimmedSpec).bare.vars) && ((Rows.fnExactTrimmedRow.stops == [])) && ((Tryz.pinned.checked.prog.stops == [])) && ((Rows.fnExactTrimmedRow.knobs == [])) && ((Tryz.pinned.checked.prog.stopKnobs == []))) = true := by kernel_rfl
theorem cl1_fnExactTrimmed : (((Rows.fnExactTrimmedRow.inPlace == Tryz.pinned.checked.prog.inPlace 3)) && ((Rows.fnExactTrimmedRow.unfollowed == Tryz.pinned.checked.prog.unfollowed 3)) && ((Rows.fnExactTrimmedRow.recurses == Tryz.pinned.checked.prog.recurses 3)) && ((Rows.fnExactTrimmedRow.named == Tryz.pinned.checked.prog.varsNamed 3)) && ((Rows.fnExactTrimmedRow.maps == (Tryz.f3.params.toList ++ (OpenSpec.ofChange Rows.fnExactTrimmedSpec).bare.plain.varTypes Tryz.pinned.checked.prog).any (Tryz.pinned.checked.prog.mapsRec ·))) && ((Rows.fnExactTrimmedRow.ifaces == (Tryz.f3.params.toList ++ (OpenSpec.ofChange Rows.fnExactTrimmedSpec).bare.plain.varTypes Tryz.pinned.checked.prog).any (Tryz.pinned.checked.prog.ifacesRec ·))) && ((Rows.fnExactTrimmedRow.mapsOut == Tryz.pinned.checked.prog.mapsAmong Tryz.f3.resultTypes.toList)) && ((Rows.fnExactTrimmedRow.loops == (Tryz.f3.params.toList ++ (OpenSpec.ofChange Rows.fnExactTrimmedSpec).bare.plain.varTypes Tryz.pinned.checked.prog).any (Tryz.pinned.checked.prog.loopsFrom ·)))) = true := by kernel_rfl

end Go.Proofs.YtjncpgcccgdeiaaGreatDoor
