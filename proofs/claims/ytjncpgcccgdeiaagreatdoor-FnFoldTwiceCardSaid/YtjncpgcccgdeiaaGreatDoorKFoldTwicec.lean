/-
  laws.FnExactFoldTwice: the statement and its card: for every machine and every other argument the law returns true, and the arguments read as they did. Conditions: the package-level variables that the row lists hold what it lists.
-/
import Derived.Test.YtjncpgcccgdeiaaGreatDoorDatH
import Derived.ChangeMaps5
import Derived.Deep.DeepWitnessRowRef
set_option linter.unusedSimpArgs false
set_option linter.unusedVariables false
set_option linter.unnecessarySimpa false
namespace Go.Proofs.YtjncpgcccgdeiaaGreatDoor
open Go Go.RowKit Go.ChangeShapes Go.WideShapes Go.ChangeAt

theorem cl2_fnFoldTwice : (((Rows.fnFoldTwiceRow.wideKeys == (Tryz.f9.params.toList ++ (OpenSpec.ofChange Rows.fnFoldTwiceSpec).bare.plain.varTypes Tryz.pinned.checked.prog ++ Tryz.f9.resultTypes.toList).any (Tryz.pinned.checked.prog.wideKeysFrom ·))) && ((OpenSpec.ofChange Rows.fnFoldTwiceSpec).bare.vars.all (Tryz.pinned.checked.prog.varReadable ·)) && (Tryz.f9.resultTypes.all (fun t => Tryz.pinned.checked.prog.readableRec t && decide (t < Tryz.pinned.checked.prog.types.size))) && ((Rows.fnFoldTwiceRow.ifacesOut == Tryz.f9.resultTypes.toList.any (Tryz.pinned.checked.prog.ifacesRec ·))) && ((Rows.fnFoldTwiceRow.loopsOut == Tryz.f9.resultTypes.toList.any (Tryz.pinned.checked.prog.loopsFrom ·))) && ((Rows.fnFoldTwiceRow.plainKeys == Tryz.pinned.checked.prog.plainKeys)) && (Rows.fnFoldTwiceRow.shortTexts.isNone)) = true := by kernel_rfl
theorem cl3_fnFoldTwice : ((Tryz.pinned.checked.prog.stopsHeard) && (Tryz.pinned.checked.prog.mayEnter) && ((Rows.fnFoldTwiceRow.lifted == Tryz.pinned.checked.prog.liftsFinal)) && ((Tryz.pinned.checked.prog.make == some Rows.fnFoldTwiceRow.make)) && ((Rows.fnFoldTwiceRow.kinds == (if Rows.fnFoldTwiceRow.domain.isEmpty then [] else Tryz.f9.params.toList.map fun t => match Tryz.pinned.checked.prog.underlying t with | some (.int k) => some k | _ => none))) && ((Rows.fnFoldTwiceRow.pinned == Rows.fnFoldTwiceRow.pinnedBy)) && ((Rows.fnFoldTwiceRow.veiled == (Tryz.f9.params.toList ++ (OpenSpec.ofChange Rows.fnFoldTwiceSpec).bare.plain.varTypes Tryz.pinned.checked.prog ++ Tryz.f9.resultTypes.toList).any (Tryz.pinned.checked.prog.veiledRec ·))) && (Rows.fnFoldTwiceRow.veiledFits Tryz.pinned.checked.prog Tryz.f9.params.toList (Tryz.f9.params.toList ++ (OpenSpec.ofChange Rows.fnFoldTwiceSpec).bare.plain.varTypes Tryz.pinned.checked.prog ++ Tryz.f9.resultTypes.toList))) = true := by kernel_rfl

end Go.Proofs.YtjncpgcccgdeiaaGreatDoor
