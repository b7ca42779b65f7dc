/-
  laws.FnExactFolds: the statement and its card: for every machine and every other argument the law returns true, and the arguments read as they did. Conditions: the package-level variables that the row lists hold what it lists.
-/
import Derived.Test.YtjncpgcccgdeiaaGreatDoorDatH
import Derived.ChangeMaps5
import Derived.Deep.DeepWitnessRowRef
set_option linter.unusedSimpArgs false
set_option linter.unusedVariables false
set_option linter.unnecessarySimpa false
namespace Go.Proofs.YtjncpgcccgdeiaaGreatDoor
open Go Go.RowKit Go.ChangeShapes Go.WideShapes Go.ChangeAt

theorem cl2_fnFolds : (((Rows.fnFoldsRow.wideKeys == (Tryz.f8.params.toList ++ (OpenSpec.ofChange Rows.fnFoldsSpec).bare.plain.varTypes Tryz.pinned.checked.prog ++ Tryz.f8.resultTypes.toList).any (Tryz.pinned.checked.prog.wideKeysFrom ·))) && ((OpenSpec.ofChange Rows.fnFoldsSpec).bare.vars.all (Tryz.pinned.checked.prog.varReadable ·)) && (Tryz.f8.resultTypes.all (fun t => Tryz.pinned.checked.prog.readableRec t && decide (t < Tryz.pinned.checked.prog.types.size))) && ((Rows.fnFoldsRow.ifacesOut == Tryz.f8.resultTypes.toList.any (Tryz.pinned.checked.prog.ifacesRec ·))) && ((Rows.fnFoldsRow.loopsOut == Tryz.f8.resultTypes.toList.any (Tryz.pinned.checked.prog.loopsFrom ·))) && ((Rows.fnFoldsRow.plainKeys == Tryz.pinned.checked.prog.plainKeys)) && (Rows.fnFoldsRow.shortTexts.isNone)) = true := by kernel_rfl
theorem cl3_fnFolds : ((Tryz.pinned.checked.prog.stopsHeard) && (Tryz.pinned.checked.prog.mayEnter) && ((Rows.fnFoldsRow.lifted == Tryz.pinned.checked.prog.liftsFinal)) && ((Tryz.pinned.checked.prog.make == some Rows.fnFoldsRow.make)) && ((Rows.fnFoldsRow.kinds == (if Rows.fnFoldsRow.domain.isEmpty then [] else Tryz.f8.params.toList.map fun t => match Tryz.pinned.checked.prog.underlying t with | some (.int k) => some k | _ => none))) && ((Rows.fnFoldsRow.pinned == Rows.fnFoldsRow.pinnedBy)) && ((Rows.fnFoldsRow.veiled == (Tryz.f8.params.toList ++ (OpenSpec.ofChange Rows.fnFoldsSpec).bare.plain.varTypes Tryz.pinned.checked.prog ++ Tryz.f8.resultTypes.toList).any (Tryz.pinned.checked.prog.veiledRec ·))) && (Rows.fnFoldsRow.veiledFits Tryz.pinned.checked.prog Tryz.f8.params.toList (Tryz.f8.params.toList ++ (OpenSpec.ofChange Rows.fnFoldsSpec).bare.plain.varTypes Tryz.pinned.checked.prog ++ Tryz.f8.resultTypes.toList))) = true := by kernel_rfl

end Go.Proofs.YtjncpgcccgdeiaaGreatDoor
