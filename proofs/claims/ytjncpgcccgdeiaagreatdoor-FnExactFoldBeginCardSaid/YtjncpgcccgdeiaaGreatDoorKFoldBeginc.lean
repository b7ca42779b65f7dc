/-
  laws.FnExactFoldBegin: the statement and its card: for every machine and every other argument the law returns true, and the arguments read as they did. Conditions: the package-level variables that the row lists hold what it lists.
-/
import Derived.Test.YtjncpgcccgdeiaaGreatDoorDatM
import Derived.ChangeMaps5
import Derived.Deep.DeepWitnessRowRef
set_option linter.unusedSimpArgs false
set_option linter.unusedVariables false
set_option linter.unnecessarySimpa false
namespace Go.Proofs.YtjncpgcccgdeiaaGreatDoor
open Go Go.RowKit Go.ChangeShapes Go.WideShapes Go.ChangeAt

theorem cl2_fnExactFoldBegin : (((Rows.fnExactFoldBeginRow.wideKeys == (Tryz.f5.params.toList ++ (OpenSpec.ofChange Rows.fnExactFoldBeginSpec).bare.plain.varTypes Tryz.pinned.checked.prog ++ Tryz.f5.resultTypes.toList).any (Tryz.pinned.checked.prog.wideKeysFrom ·))) && ((OpenSpec.ofChange Rows.fnExactFoldBeginSpec).bare.vars.all (Tryz.pinned.checked.prog.varReadable ·)) && (Tryz.f5.resultTypes.all (fun t => Tryz.pinned.checked.prog.readableRec t && decide (t < Tryz.pinned.checked.prog.types.size))) && ((Rows.fnExactFoldBeginRow.ifacesOut == Tryz.f5.resultTypes.toList.any (Tryz.pinned.checked.prog.ifacesRec ·))) && ((Rows.fnExactFoldBeginRow.loopsOut == Tryz.f5.resultTypes.toList.any (Tryz.pinned.checked.prog.loopsFrom ·))) && ((Rows.fnExactFoldBeginRow.plainKeys == Tryz.pinned.checked.prog.plainKeys)) && (Rows.fnExactFoldBeginRow.shortTexts.isNone)) = true := by kernel_rfl
theorem cl3_fnExactFoldBegin : ((Tryz.pinned.checked.prog.stopsHeard) && (Tryz.pinned.checked.prog.mayEnter) && ((Rows.fnExactFoldBeginRow.lifted == Tryz.pinned.checked.prog.liftsFinal)) && ((Tryz.pinned.checked.prog.make == some Rows.fnExactFoldBeginRow.make)) && ((Rows.fnExactFoldBeginRow.kinds == (if Rows.fnExactFoldBeginRow.domain.isEmpty then [] else Tryz.f5.params.toList.map fun t => match Tryz.pinned.checked.prog.underlying t with | some (.int k) => some k | _ => none))) && ((Rows.fnExactFoldBeginRow.pinned == Rows.fnExactFoldBeginRow.pinnedBy)) && ((Rows.fnExactFoldBeginRow.veiled == (Tryz.f5.params.toList ++ (OpenSpec.ofChange Rows.fnExactFoldBeginSpec).bare.plain.varTypes Tryz.pinned.checked.prog ++ Tryz.f5.resultTypes.toList).any (Tryz.pinned.checked.prog.veiledRec ·))) && (Rows.fnExactFoldBeginRow.veiledFits Tryz.pinned.checked.prog Tryz.f5.params.toList (Tryz.f5.params.toList ++ (OpenSpec.ofChange Rows.fnExactFoldBeginSpec).bare.plain.varTypes Tryz.pinned.checked.prog ++ Tryz.f5.resultTypes.toList))) = true := by kernel_rfl

end Go.Proofs.YtjncpgcccgdeiaaGreatDoor
