/-
  laws.FnExactFiles: the statement and its card: for every machine and every other argument the law returns true, and the arguments read as they did. Conditions: the package-level variables that the row lists hold what it lists.
-/
import Derived.Test.YtenfajgpdhgknaaGreatDoorS06HELD
import Derived.ChangeMaps5
import Derived.Deep.DeepWitnessRowRef
set_option linter.unusedSimpArgs false
set_option linter.unusedVariables false
set_option linter.unnecessarySimpa false
namespace Go.Proofs.YtenfajgpdhgknaaGreatDoor
open Go Go.RowKit Go.ChangeShapes Go.WideShapes Go.ChangeAt

theorem cl2_fnFiles : (((Rows.fnFilesRow.wideKeys == (Tryz.f13.params.toList ++ (OpenSpec.ofChange Rows.fnFilesSpec).bare.plain.varTypes Tryz.pinned.checked.prog ++ Tryz.f13.resultTypes.toList).any (Tryz.pinned.checked.prog.wideKeysFrom ·))) && ((OpenSpec.ofChange Rows.fnFilesSpec).bare.vars.all (Tryz.pinned.checked.prog.varReadable ·)) && (Tryz.f13.resultTypes.all (fun t => Tryz.pinned.checked.prog.readableRec t && decide (t < Tryz.pinned.checked.prog.types.size))) && ((Rows.fnFilesRow.ifacesOut == Tryz.f13.resultTypes.toList.any (Tryz.pinned.checked.prog.ifacesRec ·))) && ((Rows.fnFilesRow.loopsOut == Tryz.f13.resultTypes.toList.any (Tryz.pinned.checked.prog.loopsFrom ·))) && ((Rows.fnFilesRow.plainKeys == Tryz.pinned.checked.prog.plainKeys)) && (Rows.fnFilesRow.shortTexts.isNone)) = true := by kernel_rfl
theorem cl3_fnFiles : ((Tryz.pinned.checked.prog.stopsHeard) && (Tryz.pinned.checked.prog.mayEnter) && ((Rows.fnFilesRow.lifted == Tryz.pinned.checked.prog.liftsFinal)) && ((Tryz.pinned.checked.prog.make == some Rows.fnFilesRow.make)) && ((Rows.fnFilesRow.kinds == (if Rows.fnFilesRow.domain.isEmpty then [] else Tryz.f13.params.toList.map fun t => match Tryz.pinned.checked.prog.underlying t with | some (.int k) => some k | _ => none))) && ((Rows.fnFilesRow.pinned == Rows.fnFilesRow.pinnedBy)) && ((Rows.fnFilesRow.veiled == (Tryz.f13.params.toList ++ (OpenSpec.ofChange Rows.fnFilesSpec).bare.plain.varTypes Tryz.pinned.checked.prog ++ Tryz.f13.resultTypes.toList).any (Tryz.pinned.checked.prog.veiledRec ·))) && (Rows.fnFilesRow.veiledFits Tryz.pinned.checked.prog Tryz.f13.params.toList (Tryz.f13.params.toList ++ (OpenSpec.ofChange Rows.fnFilesSpec).bare.plain.varTypes Tryz.pinned.checked.prog ++ Tryz.f13.resultTypes.toList))) = true := by kernel_rfl

end Go.Proofs.YtenfajgpdhgknaaGreatDoor
