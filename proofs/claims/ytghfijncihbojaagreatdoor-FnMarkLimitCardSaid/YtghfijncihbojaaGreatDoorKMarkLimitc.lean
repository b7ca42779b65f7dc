/-
  laws.FnExactMarkLimit: the statement and its card: for every machine and every other argument the law returns true, and the arguments read as they did. Conditions: the package-level variables that the row lists hold what it lists.
-/
import Derived.Test.YtghfijncihbojaaGreatDoorS10SPEC
import Derived.ChangeMaps5
import Derived.Deep.DeepWitnessRowRef
set_option linter.unusedSimpArgs false
set_option linter.unusedVariables false
set_option linter.unnecessarySimpa false
namespace Go.Proofs.YtghfijncihbojaaGreatDoor
open Go Go.RowKit Go.ChangeShapes Go.WideShapes Go.ChangeAt

theorem cl2_fnMarkLimit : (((Rows.fnMarkLimitRow.wideKeys == (Tryz.f3.params.toList ++ (OpenSpec.ofChange Rows.fnMarkLimitSpec).bare.plain.varTypes Tryz.pinned.checked.prog ++ Tryz.f3.resultTypes.toList).any (Tryz.pinned.checked.prog.wideKeysFrom ·))) && ((OpenSpec.ofChange Rows.fnMarkLimitSpec).bare.vars.all (Tryz.pinned.checked.prog.varReadable ·)) && (Tryz.f3.resultTypes.all (fun t => Tryz.pinned.checked.prog.readableRec t && decide (t < Tryz.pinned.checked.prog.types.size))) && ((Rows.fnMarkLimitRow.ifacesOut == Tryz.f3.resultTypes.toList.any (Tryz.pinned.checked.prog.ifacesRec ·))) && ((Rows.fnMarkLimitRow.loopsOut == Tryz.f3.resultTypes.toList.any (Tryz.pinned.checked.prog.loopsFrom ·))) && ((Rows.fnMarkLimitRow.plainKeys == Tryz.pinned.checked.prog.plainKeys)) && (Rows.fnMarkLimitRow.shortTexts.isNone)) = true := by kernel_rfl
theorem cl3_fnMarkLimit : ((Tryz.pinned.checked.prog.stopsHeard) && (Tryz.pinned.checked.prog.mayEnter) && ((Rows.fnMarkLimitRow.lifted == Tryz.pinned.checked.prog.liftsFinal)) && ((Tryz.pinned.checked.prog.make == some Rows.fnMarkLimitRow.make)) && ((Rows.fnMarkLimitRow.kinds == (if Rows.fnMarkLimitRow.domain.isEmpty then [] else Tryz.f3.params.toList.map fun t => match Tryz.pinned.checked.prog.underlying t with | some (.int k) => some k | _ => none))) && ((Rows.fnMarkLimitRow.pinned == Rows.fnMarkLimitRow.pinnedBy)) && ((Rows.fnMarkLimitRow.veiled == (Tryz.f3.params.toList ++ (OpenSpec.ofChange Rows.fnMarkLimitSpec).bare.plain.varTypes Tryz.pinned.checked.prog ++ Tryz.f3.resultTypes.toList).any (Tryz.pinned.checked.prog.veiledRec ·))) && (Rows.fnMarkLimitRow.veiledFits Tryz.pinned.checked.prog Tryz.f3.params.toList (Tryz.f3.params.toList ++ (OpenSpec.ofChange Rows.fnMarkLimitSpec).bare.plain.varTypes Tryz.pinned.checked.prog ++ Tryz.f3.resultTypes.toList))) = true := by kernel_rfl

end Go.Proofs.YtghfijncihbojaaGreatDoor
