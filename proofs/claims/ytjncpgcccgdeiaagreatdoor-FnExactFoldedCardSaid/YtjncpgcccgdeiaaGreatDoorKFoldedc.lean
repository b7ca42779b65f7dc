/-
  laws.FnExactFolded: the statement and its card: for every machine and every other argument the law returns true, and the arguments read as they did. Conditions: the package-level variables that the row lists hold what it lists.
-/
import Derived.Test.YtjncpgcccgdeiaaGreatDoorDatM
import Derived.ChangeMaps5
import Derived.Deep.DeepWitnessRowRef
set_option linter.unusedSimpArgs false
set_option linter.unusedVariables false
set_option linter.unnecessarySimpa false
namespace Go.Proofs.YtjncpgcccgdeiaaGreatDoor
open Go Go.RowKit Go.ChangeShapes Go.WideShapes Go.ChangeAt

theorem cl2_fnExactFolded : (((Rows.fnExactFoldedRow.wideKeys == (Tryz.f6.params.toList ++ (OpenSpec.ofChange Rows.fnExactFoldedSpec).bare.plain.varTypes Tryz.pinned.checked.prog ++ Tryz.f6.resultTypes.toList).any (Tryz.pinned.checked.prog.wideKeysFrom ·))) && ((OpenSpec.ofChange Rows.fnExactFoldedSpec).bare.vars.all (Tryz.pinned.checked.prog.varReadable ·)) && (Tryz.f6.resultTypes.all (fun t => Tryz.pinned.checked.prog.readableRec t && decide (t < Tryz.pinned.checked.prog.types.size))) && ((Rows.fnExactFoldedRow.ifacesOut == Tryz.f6.resultTypes.toList.any (Tryz.pinned.checked.prog.ifacesRec ·))) && ((Rows.fnExactFoldedRow.loopsOut == Tryz.f6.resultTypes.toList.any (Tryz.pinned.checked.prog.loopsFrom ·))) && ((Rows.fnExactFoldedRow.plainKeys == Tryz.pinned.checked.prog.plainKeys)) && (Rows.fnExactFoldedRow.shortTexts.isNone)) = true := by kernel_rfl
theorem cl3_fnExactFolded : ((Tryz.pinned.checked.prog.stopsHeard) && (Tryz.pinned.checked.prog.mayEnter) && ((Rows.fnExactFoldedRow.lifted == Tryz.pinned.checked.prog.liftsFinal)) && ((Tryz.pinned.checked.prog.make == some Rows.fnExactFoldedRow.make)) && ((Rows.fnExactFoldedRow.kinds == (if Rows.fnExactFoldedRow.domain.isEmpty then [] else Tryz.f6.params.toList.map fun t => match Tryz.pinned.checked.prog.underlying t with | some (.int k) => some k | _ => none))) && ((Rows.fnExactFoldedRow.pinned == Rows.fnExactFoldedRow.pinnedBy)) && ((Rows.fnExactFoldedRow.veiled == (Tryz.f6.params.toList ++ (OpenSpec.ofChange Rows.fnExactFoldedSpec).bare.plain.varTypes Tryz.pinned.checked.prog ++ Tryz.f6.resultTypes.toList).any (Tryz.pinned.checked.prog.veiledRec ·))) && (Rows.fnExactFoldedRow.veiledFits Tryz.pinned.checked.prog Tryz.f6.params.toList (Tryz.f6.params.toList ++ (OpenSpec.ofChange Rows.fnExactFoldedSpec).bare.plain.varTypes Tryz.pinned.checked.prog ++ Tryz.f6.resultTypes.toList))) = true := by kernel_rfl

end Go.Proofs.YtjncpgcccgdeiaaGreatDoor
