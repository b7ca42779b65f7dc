/-
Texts of the walk, joined: what each one proves stands at its theorems.
-/
import Derived.Test.YthlfmbbaomdciaaGreatDoorB0SlAny
import Derived.Laws.IdiomStrings
import Derived.Lib.AppendZerosOnto
import Derived.Lib.Overlaps
import Derived.Laws.Cover3
import Derived.WideLaws
import Derived.Deep.SlicePairs
import Derived.ProofKit
import Derived.Deep.Slices
import Derived.Deep.DeepHandedRow
import Derived.Test.YthlfmbbaomdciaaGreatDoorRows
import Derived.OpenShut
import Derived.ChangeMaps5
import Derived.Deep.DeepWitnessRowRef
set_option linter.unusedSimpArgs false
set_option linter.unusedVariables false
set_option linter.unnecessarySimpa false
namespace Go.Proofs.YthlfmbbaomdciaaGreatDoor
open Go Go.RowKit Go.ChangeShapes Go.WideShapes Go.ChangeAt
theorem cl2_fnClashing : (((Rows.fnClashingRow.wideKeys == (Tryz.f11.params.toList ++ (OpenSpec.ofChange Rows.fnClashingSpec).bare.plain.varTypes Tryz.pinned.checked.prog ++ Tryz.f11.resultTypes.toList).any (Tryz.pinned.checked.prog.wideKeysFrom ·))) && ((OpenSpec.ofChange Rows.fnClashingSpec).bare.vars.all (Tryz.pinned.checked.prog.varReadable ·)) && (Tryz.f11.resultTypes.all (fun t => Tryz.pinned.checked.prog.readableRec t && decide (t < Tryz.pinned.checked.prog.types.size))) && ((Rows.fnClashingRow.ifacesOut == Tryz.f11.resultTypes.toList.any (Tryz.pinned.checked.prog.ifacesRec ·))) && ((Rows.fnClashingRow.loopsOut == Tryz.f11.resultTypes.toList.any (Tryz.pinned.checked.prog.loopsFrom ·))) && ((Rows.fnClashingRow.plainKeys == Tryz.pinned.checked.prog.plainKeys)) && (Rows.fnClashingRow.shortTexts.isNone)) = true := by kernel_rfl
theorem cl3_fnClashing : ((Tryz.pinned.checked.prog.stopsHeard) && (Tryz.pinned.checked.prog.mayEnter) && ((Rows.fnClashingRow.lifted == Tryz.pinned.checked.prog.liftsFinal)) && ((Tryz.pinned.checked.prog.make == some Rows.fnClashingRow.make)) && ((Rows.fnClashingRow.kinds == (if Rows.fnClashingRow.domain.isEmpty then [] else Tryz.f11.params.toList.map fun t => match Tryz.pinned.checked.prog.underlying t with | some (.int k) => some k | _ => none))) && ((Rows.fnClashingRow.pinned == Rows.fnClashingRow.pinnedBy)) && ((Rows.fnClashingRow.veiled == (Tryz.f11.params.toList ++ (OpenSpec.ofChange Rows.fnClashingSpec).bare.plain.varTypes Tryz.pinned.checked.prog ++ Tryz.f11.resultTypes.toList).any (Tryz.pinned.checked.prog.veiledRec ·))) && (Rows.fnClashingRow.veiledFits Tryz.pinned.checked.prog Tryz.f11.params.toList (Tryz.f11.params.toList ++ (OpenSpec.ofChange Rows.fnClashingSpec).bare.plain.varTypes Tryz.pinned.checked.prog ++ Tryz.f11.resultTypes.toList))) = true := by kernel_rfl
end Go.Proofs.YthlfmbbaomdciaaGreatDoor
