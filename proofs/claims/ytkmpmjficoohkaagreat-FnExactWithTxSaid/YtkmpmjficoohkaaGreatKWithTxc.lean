/-
  laws.FnExactWithTx: the statement: for every input the law returns true, and the input reads as it did. Conditions: none.
-/
import Derived.Test.YtkmpmjficoohkaaGreatRows
import Derived.WalkKit
import Derived.ChangeMaps5
import Derived.Deep.DeepWitnessRowRef
set_option linter.unusedSimpArgs false
set_option linter.unusedVariables false
set_option linter.unnecessarySimpa false
namespace Go.Proofs.YtkmpmjficoohkaaGreat
open Go Go.RowKit Go.ChangeShapes Go.WideShapes Go.ChangeAt

theorem cl2_fnExactWithTx : (((Rows.fnExactWithTxRow.wideKeys == (Tryz.f4.params.toList ++ (OpenSpec.ofChange Rows.fnExactWithTxSpec).bare.plain.varTypes Tryz.pinned.checked.prog ++ Tryz.f4.resultTypes.toList).any (Tryz.pinned.checked.prog.wideKeysFrom ·))) && ((OpenSpec.ofChange Rows.fnExactWithTxSpec).bare.vars.all (Tryz.pinned.checked.prog.varReadable ·)) && (Tryz.f4.resultTypes.all (fun t => Tryz.pinned.checked.prog.readableRec t && decide (t < Tryz.pinned.checked.prog.types.size))) && ((Rows.fnExactWithTxRow.ifacesOut == Tryz.f4.resultTypes.toList.any (Tryz.pinned.checked.prog.ifacesRec ·))) && ((Rows.fnExactWithTxRow.loopsOut == Tryz.f4.resultTypes.toList.any (Tryz.pinned.checked.prog.loopsFrom ·))) && ((Rows.fnExactWithTxRow.plainKeys == Tryz.pinned.checked.prog.plainKeys)) && (Rows.fnExactWithTxRow.shortTexts.isNone)) = true := by kernel_rfl
theorem cl3_fnExactWithTx : ((Tryz.pinned.checked.prog.stopsHeard) && (Tryz.pinned.checked.prog.mayEnter) && ((Rows.fnExactWithTxRow.lifted == Tryz.pinned.checked.prog.liftsFinal)) && ((Tryz.pinned.checked.prog.make == some Rows.fnExactWithTxRow.make)) && ((Rows.fnExactWithTxRow.kinds == (if Rows.fnExactWithTxRow.domain.isEmpty then [] else Tryz.f4.params.toList.map fun t => match Tryz.pinned.checked.prog.underlying t with | some (.int k) => some k | _ => none))) && ((Rows.fnExactWithTxRow.pinned == Rows.fnExactWithTxRow.pinnedBy)) && ((Rows.fnExactWithTxRow.veiled == (Tryz.f4.params.toList ++ (OpenSpec.ofChange Rows.fnExactWithTxSpec).bare.plain.varTypes Tryz.pinned.checked.prog ++ Tryz.f4.resultTypes.toList).any (Tryz.pinned.checked.prog.veiledRec ·))) && (Rows.fnExactWithTxRow.veiledFits Tryz.pinned.checked.prog Tryz.f4.params.toList (Tryz.f4.params.toList ++ (OpenSpec.ofChange Rows.fnExactWithTxSpec).bare.plain.varTypes Tryz.pinned.checked.prog ++ Tryz.f4.resultTypes.toList))) = true := by kernel_rfl

end Go.Proofs.YtkmpmjficoohkaaGreat
