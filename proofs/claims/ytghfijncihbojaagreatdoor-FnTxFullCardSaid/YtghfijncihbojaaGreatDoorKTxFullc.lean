/-
  laws.FnExactTxFull: the statement and its card: for every machine and every other argument the law returns true, and the arguments read as they did. Conditions: the package-level variables that the row lists hold what it lists.
-/
import Derived.Test.YtghfijncihbojaaGreatDoorS10SPEC
import Derived.ChangeMaps5
import Derived.Deep.DeepWitnessRowRef
set_option linter.unusedSimpArgs false
set_option linter.unusedVariables false
set_option linter.unnecessarySimpa false
namespace Go.Proofs.YtghfijncihbojaaGreatDoor
open Go Go.RowKit Go.ChangeShapes Go.WideShapes Go.ChangeAt

theorem cl2_fnTxFull : (((Rows.fnTxFullRow.wideKeys == (Tryz.f4.params.toList ++ (OpenSpec.ofChange Rows.fnTxFullSpec).bare.plain.varTypes Tryz.pinned.checked.prog ++ Tryz.f4.resultTypes.toList).any (Tryz.pinned.checked.prog.wideKeysFrom ·))) && ((OpenSpec.ofChange Rows.fnTxFullSpec).bare.vars.all (Tryz.pinned.checked.prog.varReadable ·)) && (Tryz.f4.resultTypes.all (fun t => Tryz.pinned.checked.prog.readableRec t && decide (t < Tryz.pinned.checked.prog.types.size))) && ((Rows.fnTxFullRow.ifacesOut == Tryz.f4.resultTypes.toList.any (Tryz.pinned.checked.prog.ifacesRec ·))) && ((Rows.fnTxFullRow.loopsOut == Tryz.f4.resultTypes.toList.any (Tryz.pinned.checked.prog.loopsFrom ·))) && ((Rows.fnTxFullRow.plainKeys == Tryz.pinned.checked.prog.plainKeys)) && (Rows.fnTxFullRow.shortTexts.isNone)) = true := by kernel_rfl
theorem cl3_fnTxFull : ((Tryz.pinned.checked.prog.stopsHeard) && (Tryz.pinned.checked.prog.mayEnter) && ((Rows.fnTxFullRow.lifted == Tryz.pinned.checked.prog.liftsFinal)) && ((Tryz.pinned.checked.prog.make == some Rows.fnTxFullRow.make)) && ((Rows.fnTxFullRow.kinds == (if Rows.fnTxFullRow.domain.isEmpty then [] else Tryz.f4.params.toList.map fun t => match Tryz.pinned.checked.prog.underlying t with | some (.int k) => some k | _ => none))) && ((Rows.fnTxFullRow.pinned == Rows.fnTxFullRow.pinnedBy)) && ((Rows.fnTxFullRow.veiled == (Tryz.f4.params.toList ++ (OpenSpec.ofChange Rows.fnTxFullSpec).bare.plain.varTypes Tryz.pinned.checked.prog ++ Tryz.f4.resultTypes.toList).any (Tryz.pinned.checked.prog.veiledRec ·))) && (Rows.fnTxFullRow.veiledFits Tryz.pinned.checked.prog Tryz.f4.params.toList (Tryz.f4.params.toList ++ (OpenSpec.ofChange Rows.fnTxFullSpec).bare.plain.varTypes Tryz.pinned.checked.prog ++ Tryz.f4.resultTypes.toList))) = true := by kernel_rfl

end Go.Proofs.YtghfijncihbojaaGreatDoor
