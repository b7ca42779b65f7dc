/-
  laws.FnExactWithTx: the statement: for every input the law returns true, and the input reads as it did. Conditions: none.
-/
import Derived.Test.YtkmpmjficoohkaaGreatRows
import Derived.WalkKit
import Derived.ChangeMaps5
import Derived.Deep.DeepWitnessRowRef
set_option linter.unusedSimpArgs false
set_option linter.unusedVariables false
set_option linter.unnecessarySimpa false
namespace Go.Proofs.YtkmpmjficoohkaaGreat
open Go Go.RowKit Go.ChangeShapes Go.WideShapes Go.ChangeAt

theorem cl0_fnExactWithTx : ((Rows.fnExactWithTxRow.wf (OpenSpec.ofChange (OpenSpec.ofChange Rows.fnExactWithTxSpec).bare)) && (laidOutB Tryz.pinned.checked.prog) && (mapsRowed Tryz.pinned.checked.prog) && (Tryz.f4.params.all (Tryz.pinned.checked.prog.readableRec ·)) && (namedTie Tryz.pinned.checked.prog Rows.fnExactWithTxRow.named (OpenSpec.ofChange Rows.fnExactWithTxSpec).bare.vars) && ((Rows.fnExactWithTxRow.stops == [])) && ((Tryz.pinned.checked.prog.stops == [])) && ((Rows.fnExactWithTxRow.knobs == [])) && ((Tryz.pinned.checked.prog.stopKnobs == []))) = true := by kernel_rfl
theorem cl1_fnExactWithTx : (((Rows.fnExactWithTxRow.inPlace == Tryz.pinned.checked.prog.inPlace 4)) && ((Rows.fnExactWithTxRow.unfollowed == Tryz.pinned.checked.prog.unfollowed 4)) && ((Rows.fnExactWithTxRow.recurses == Tryz.pinned.checked.prog.recurses 4)) && ((Rows.fnExactWithTxRow.named == Tryz.pinned.checked.prog.varsNamed 4)) && ((Rows.fnExactWithTxRow.maps == (Tryz.f4.params.toList ++ (OpenSpec.ofChange Rows.fnExactWithTxSpec).bare.plain.varTypes Tryz.pinned.checked.prog).any (Tryz.pinned.checked.prog.mapsRec ·))) && ((Rows.fnExactWithTxRow.ifaces == (Tryz.f4.params.toList ++ (OpenSpec.ofChange Rows.fnExactWithTxSpec).bare.plain.varTypes Tryz.pinned.checked.prog).any (Tryz.pinned.checked.prog.ifacesRec ·))) && ((Rows.fnExactWithTxRow.mapsOut == Tryz.pinned.checked.prog.mapsAmong Tryz.f4.resultTypes.toList)) && ((Rows.fnExactWithTxRow.loops == (Tryz.f4.params.toList ++ (OpenSpec.ofChange Rows.fnExactWithTxSpec).bare.plain.varTypes Tryz.pinned.checked.prog).any (Tryz.pinned.checked.prog.loopsFrom ·)))) = true := by kernel_rfl

end Go.Proofs.YtkmpmjficoohkaaGreat
