/-
Texts of the walk, joined: what each one proves stands at its theorems.
-/
import Derived.Test.YthlfmbbaomdciaaGreatDoorB0SlAny
import Derived.Laws.IdiomStrings
import Derived.Lib.AppendZerosOnto
import Derived.Lib.Overlaps
import Derived.Laws.Cover3
import Derived.WideLaws
import Derived.Deep.SlicePairs
import Derived.ProofKit
import Derived.Deep.Slices
import Derived.Deep.DeepHandedRow
import Derived.Test.YthlfmbbaomdciaaGreatDoorRows
import Derived.OpenShut
import Derived.ChangeMaps5
import Derived.Deep.DeepWitnessRowRef
set_option linter.unusedSimpArgs false
set_option linter.unusedVariables false
set_option linter.unnecessarySimpa false
namespace Go.Proofs.YthlfmbbaomdciaaGreatDoor
open Go Go.RowKit Go.ChangeShapes Go.WideShapes Go.ChangeAt
theorem cl2_fnTxIsRun : (((Rows.fnTxIsRunRow.wideKeys == (Tryz.f8.params.toList ++ (OpenSpec.ofChange Rows.fnTxIsRunSpec).bare.plain.varTypes Tryz.pinned.checked.prog ++ Tryz.f8.resultTypes.toList).any (Tryz.pinned.checked.prog.wideKeysFrom ·))) && ((OpenSpec.ofChange Rows.fnTxIsRunSpec).bare.vars.all (Tryz.pinned.checked.prog.varReadable ·)) && (Tryz.f8.resultTypes.all (fun t => Tryz.pinned.checked.prog.readableRec t && decide (t < Tryz.pinned.checked.prog.types.size))) && ((Rows.fnTxIsRunRow.ifacesOut == Tryz.f8.resultTypes.toList.any (Tryz.pinned.checked.prog.ifacesRec ·))) && ((Rows.fnTxIsRunRow.loopsOut == Tryz.f8.resultTypes.toList.any (Tryz.pinned.checked.prog.loopsFrom ·))) && ((Rows.fnTxIsRunRow.plainKeys == Tryz.pinned.checked.prog.plainKeys)) && (Rows.fnTxIsRunRow.shortTexts.isNone)) = true := by kernel_rfl
theorem cl3_fnTxIsRun : ((Tryz.pinned.checked.prog.stopsHeard) && (Tryz.pinned.checked.prog.mayEnter) && ((Rows.fnTxIsRunRow.lifted == Tryz.pinned.checked.prog.liftsFinal)) && ((Tryz.pinned.checked.prog.make == some Rows.fnTxIsRunRow.make)) && ((Rows.fnTxIsRunRow.kinds == (if Rows.fnTxIsRunRow.domain.isEmpty then [] else Tryz.f8.params.toList.map fun t => match Tryz.pinned.checked.prog.underlying t with | some (.int k) => some k | _ => none))) && ((Rows.fnTxIsRunRow.pinned == Rows.fnTxIsRunRow.pinnedBy)) && ((Rows.fnTxIsRunRow.veiled == (Tryz.f8.params.toList ++ (OpenSpec.ofChange Rows.fnTxIsRunSpec).bare.plain.varTypes Tryz.pinned.checked.prog ++ Tryz.f8.resultTypes.toList).any (Tryz.pinned.checked.prog.veiledRec ·))) && (Rows.fnTxIsRunRow.veiledFits Tryz.pinned.checked.prog Tryz.f8.params.toList (Tryz.f8.params.toList ++ (OpenSpec.ofChange Rows.fnTxIsRunSpec).bare.plain.varTypes Tryz.pinned.checked.prog ++ Tryz.f8.resultTypes.toList))) = true := by kernel_rfl
end Go.Proofs.YthlfmbbaomdciaaGreatDoor
