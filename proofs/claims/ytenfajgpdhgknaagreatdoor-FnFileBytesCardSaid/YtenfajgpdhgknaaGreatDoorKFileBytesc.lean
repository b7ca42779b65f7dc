/-
  laws.FnExactFileBytes: the statement and its card: for every machine and every other argument the law returns true, and the arguments read as they did. Conditions: the package-level variables that the row lists hold what it lists.
-/
import Derived.Test.YtenfajgpdhgknaaGreatDoorLd
import Derived.ChangeMaps5
import Derived.Deep.DeepWitnessRowRef
set_option linter.unusedSimpArgs false
set_option linter.unusedVariables false
set_option linter.unnecessarySimpa false
namespace Go.Proofs.YtenfajgpdhgknaaGreatDoor
open Go Go.RowKit Go.ChangeShapes Go.WideShapes Go.ChangeAt

theorem cl2_fnFileBytes : (((Rows.fnFileBytesRow.wideKeys == (Tryz.f12.params.toList ++ (OpenSpec.ofChange Rows.fnFileBytesSpec).bare.plain.varTypes Tryz.pinned.checked.prog ++ Tryz.f12.resultTypes.toList).any (Tryz.pinned.checked.prog.wideKeysFrom ·))) && ((OpenSpec.ofChange Rows.fnFileBytesSpec).bare.vars.all (Tryz.pinned.checked.prog.varReadable ·)) && (Tryz.f12.resultTypes.all (fun t => Tryz.pinned.checked.prog.readableRec t && decide (t < Tryz.pinned.checked.prog.types.size))) && ((Rows.fnFileBytesRow.ifacesOut == Tryz.f12.resultTypes.toList.any (Tryz.pinned.checked.prog.ifacesRec ·))) && ((Rows.fnFileBytesRow.loopsOut == Tryz.f12.resultTypes.toList.any (Tryz.pinned.checked.prog.loopsFrom ·))) && ((Rows.fnFileBytesRow.plainKeys == Tryz.pinned.checked.prog.plainKeys)) && (Rows.fnFileBytesRow.shortTexts.isNone)) = true := by kernel_rfl
theorem cl3_fnFileBytes : ((Tryz.pinned.checked.prog.stopsHeard) && (Tryz.pinned.checked.prog.mayEnter) && ((Rows.fnFileBytesRow.lifted == Tryz.pinned.checked.prog.liftsFinal)) && ((Tryz.pinned.checked.prog.make == some Rows.fnFileBytesRow.make)) && ((Rows.fnFileBytesRow.kinds == (if Rows.fnFileBytesRow.domain.isEmpty then [] else Tryz.f12.params.toList.map fun t => match Tryz.pinned.checked.prog.underlying t with | some (.int k) => some k | _ => none))) && ((Rows.fnFileBytesRow.pinned == Rows.fnFileBytesRow.pinnedBy)) && ((Rows.fnFileBytesRow.veiled == (Tryz.f12.params.toList ++ (OpenSpec.ofChange Rows.fnFileBytesSpec).bare.plain.varTypes Tryz.pinned.checked.prog ++ Tryz.f12.resultTypes.toList).any (Tryz.pinned.checked.prog.veiledRec ·))) && (Rows.fnFileBytesRow.veiledFits Tryz.pinned.checked.prog Tryz.f12.params.toList (Tryz.f12.params.toList ++ (OpenSpec.ofChange Rows.fnFileBytesSpec).bare.plain.varTypes Tryz.pinned.checked.prog ++ Tryz.f12.resultTypes.toList))) = true := by kernel_rfl

end Go.Proofs.YtenfajgpdhgknaaGreatDoor
