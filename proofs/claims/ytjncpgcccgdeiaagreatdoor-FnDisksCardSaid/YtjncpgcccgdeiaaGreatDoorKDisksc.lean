/-
  laws.FnExactDisks: the statement and its card: for every machine and every other argument the law returns true, and the arguments read as they did. Conditions: the package-level variables that the row lists hold what it lists.
-/
import Derived.Test.YtjncpgcccgdeiaaGreatDoorS46OK
import Derived.ChangeMaps5
import Derived.Deep.DeepWitnessRowRef
set_option linter.unusedSimpArgs false
set_option linter.unusedVariables false
set_option linter.unnecessarySimpa false
namespace Go.Proofs.YtjncpgcccgdeiaaGreatDoor
open Go Go.RowKit Go.ChangeShapes Go.WideShapes Go.ChangeAt

theorem cl2_fnDisks : (((Rows.fnDisksRow.wideKeys == (Tryz.f10.params.toList ++ (OpenSpec.ofChange Rows.fnDisksSpec).bare.plain.varTypes Tryz.pinned.checked.prog ++ Tryz.f10.resultTypes.toList).any (Tryz.pinned.checked.prog.wideKeysFrom ·))) && ((OpenSpec.ofChange Rows.fnDisksSpec).bare.vars.all (Tryz.pinned.checked.prog.varReadable ·)) && (Tryz.f10.resultTypes.all (fun t => Tryz.pinned.checked.prog.readableRec t && decide (t < Tryz.pinned.checked.prog.types.size))) && ((Rows.fnDisksRow.ifacesOut == Tryz.f10.resultTypes.toList.any (Tryz.pinned.checked.prog.ifacesRec ·))) && ((Rows.fnDisksRow.loopsOut == Tryz.f10.resultTypes.toList.any (Tryz.pinned.checked.prog.loopsFrom ·))) && ((Rows.fnDisksRow.plainKeys == Tryz.pinned.checked.prog.plainKeys)) && (Rows.fnDisksRow.shortTexts.isNone)) = true := by kernel_rfl
theorem cl3_fnDisks : ((Tryz.pinned.checked.prog.stopsHeard) && (Tryz.pinned.checked.prog.mayEnter) && ((Rows.fnDisksRow.lifted == Tryz.pinned.checked.prog.liftsFinal)) && ((Tryz.pinned.checked.prog.make == some Rows.fnDisksRow.make)) && ((Rows.fnDisksRow.kinds == (if Rows.fnDisksRow.domain.isEmpty then [] else Tryz.f10.params.toList.map fun t => match Tryz.pinned.checked.prog.underlying t with | some (.int k) => some k | _ => none))) && ((Rows.fnDisksRow.pinned == Rows.fnDisksRow.pinnedBy)) && ((Rows.fnDisksRow.veiled == (Tryz.f10.params.toList ++ (OpenSpec.ofChange Rows.fnDisksSpec).bare.plain.varTypes Tryz.pinned.checked.prog ++ Tryz.f10.resultTypes.toList).any (Tryz.pinned.checked.prog.veiledRec ·))) && (Rows.fnDisksRow.veiledFits Tryz.pinned.checked.prog Tryz.f10.params.toList (Tryz.f10.params.toList ++ (OpenSpec.ofChange Rows.fnDisksSpec).bare.plain.varTypes Tryz.pinned.checked.prog ++ Tryz.f10.resultTypes.toList))) = true := by kernel_rfl

end Go.Proofs.YtjncpgcccgdeiaaGreatDoor
