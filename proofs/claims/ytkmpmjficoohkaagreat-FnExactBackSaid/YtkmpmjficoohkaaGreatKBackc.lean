/-
  laws.FnExactBack: the statement: for every input the law returns true, and the input reads as it did. Conditions: none.
-/
import Derived.Test.YtkmpmjficoohkaaGreatRows
import Derived.WalkKit
import Derived.ChangeMaps5
import Derived.Deep.DeepWitnessRowRef
set_option linter.unusedSimpArgs false
set_option linter.unusedVariables false
set_option linter.unnecessarySimpa false
namespace Go.Proofs.YtkmpmjficoohkaaGreat
open Go Go.RowKit Go.ChangeShapes Go.WideShapes Go.ChangeAt

theorem cl2_fnExactBack : (((Rows.fnExactBackRow.wideKeys == (Tryz.f7.params.toList ++ (OpenSpec.ofChange Rows.fnExactBackSpec).bare.plain.varTypes Tryz.pinned.checked.prog ++ Tryz.f7.resultTypes.toList).any (Tryz.pinned.checked.prog.wideKeysFrom ·))) && ((OpenSpec.ofChange Rows.fnExactBackSpec).bare.vars.all (Tryz.pinned.checked.prog.varReadable ·)) && (Tryz.f7.resultTypes.all (fun t => Tryz.pinned.checked.prog.readableRec t && decide (t < Tryz.pinned.checked.prog.types.size))) && ((Rows.fnExactBackRow.ifacesOut == Tryz.f7.resultTypes.toList.any (Tryz.pinned.checked.prog.ifacesRec ·))) && ((Rows.fnExactBackRow.loopsOut == Tryz.f7.resultTypes.toList.any (Tryz.pinned.checked.prog.loopsFrom ·))) && ((Rows.fnExactBackRow.plainKeys == Tryz.pinned.checked.prog.plainKeys)) && (Rows.fnExactBackRow.shortTexts.isNone)) = true := by kernel_rfl
theorem cl3_fnExactBack : ((Tryz.pinned.checked.prog.stopsHeard) && (Tryz.pinned.checked.prog.mayEnter) && ((Rows.fnExactBackRow.lifted == Tryz.pinned.checked.prog.liftsFinal)) && ((Tryz.pinned.checked.prog.make == some Rows.fnExactBackRow.make)) && ((Rows.fnExactBackRow.kinds == (if Rows.fnExactBackRow.domain.isEmpty then [] else Tryz.f7.params.toList.map fun t => match Tryz.pinned.checked.prog.underlying t with | some (.int k) => some k | _ => none))) && ((Rows.fnExactBackRow.pinned == Rows.fnExactBackRow.pinnedBy)) && ((Rows.fnExactBackRow.veiled == (Tryz.f7.params.toList ++ (OpenSpec.ofChange Rows.fnExactBackSpec).bare.plain.varTypes Tryz.pinned.checked.prog ++ Tryz.f7.resultTypes.toList).any (Tryz.pinned.checked.prog.veiledRec ·))) && (Rows.fnExactBackRow.veiledFits Tryz.pinned.checked.prog Tryz.f7.params.toList (Tryz.f7.params.toList ++ (OpenSpec.ofChange Rows.fnExactBackSpec).bare.plain.varTypes Tryz.pinned.checked.prog ++ Tryz.f7.resultTypes.toList))) = true := by kernel_rfl

end Go.Proofs.YtkmpmjficoohkaaGreat
