/-
  laws.FnExactTxFull: the statement and its card: for every machine and every other argument the law returns true, and the arguments read as they did. Conditions: the package-level variables that the row lists hold what it lists.
-/
import Derived.Test.YtghfijncihbojaaGreatDoorS10SPEC
import Derived.ChangeMaps5
import Derived.Deep.DeepWitnessRowRef
set_option linter.unusedSimpArgs false
set_option linter.unusedVariables false
set_option linter.unnecessarySimpa false
namespace Go.Proofs.YtghfijncihbojaaGreatDoor
open Go Go.RowKit Go.ChangeShapes Go.WideShapes Go.ChangeAt

theorem cl0_fnTxFull : ((Rows.fnTxFullRow.wf (OpenSpec.ofChange (OpenSpec.ofChange Rows.fnTxFullSpec).bare)) && (laidOutB Tryz.pinned.checked.prog) && (mapsRowed Tryz.pinned.checked.prog) && (Tryz.f4.params.all (Tryz.pinned.checked.prog.readableRec ·)) && (namedTie Tryz.pinned.checked.prog Rows.fnTxFullRow.named (OpenSpec.ofChange Rows.fnTxFullSpec).bare.vars) && ((Rows.fnTxFullRow.stops == [])) && ((Tryz.pinned.checked.prog.stops == [])) && ((Rows.fnTxFullRow.knobs == [])) && ((Tryz.pinned.checked.prog.stopKnobs == []))) = true := by kernel_rfl
theorem cl1_fnTxFull : (((Rows.fnTxFullRow.inPlace == Tryz.pinned.checked.prog.inPlace 4)) && ((Rows.fnTxFullRow.unfollowed == Tryz.pinned.checked.prog.unfollowed 4)) && ((Rows.fnTxFullRow.recurses == Tryz.pinned.checked.prog.recurses 4)) && ((Rows.fnTxFullRow.named == Tryz.pinned.checked.prog.varsNamed 4)) && ((Rows.fnTxFullRow.maps == (Tryz.f4.params.toList ++ (OpenSpec.ofChange Rows.fnTxFullSpec).bare.plain.varTypes Tryz.pinned.checked.prog).any (Tryz.pinned.checked.prog.mapsRec ·))) && ((Rows.fnTxFullRow.ifaces == (Tryz.f4.params.toList ++ (OpenSpec.ofChange Rows.fnTxFullSpec).bare.plain.varTypes Tryz.pinned.checked.prog).any (Tryz.pinned.checked.prog.ifacesRec ·))) && ((Rows.fnTxFullRow.mapsOut == Tryz.pinned.checked.prog.mapsAmong Tryz.f4.resultTypes.toList)) && ((Rows.fnTxFullRow.loops == (Tryz.f4.params.toList ++ (OpenSpec.ofChange Rows.fnTxFullSpec).bare.plain.varTypes Tryz.pinned.checked.prog).any (Tryz.pinned.checked.prog.loopsFrom ·)))) = true := by kernel_rfl

end Go.Proofs.YtghfijncihbojaaGreatDoor
