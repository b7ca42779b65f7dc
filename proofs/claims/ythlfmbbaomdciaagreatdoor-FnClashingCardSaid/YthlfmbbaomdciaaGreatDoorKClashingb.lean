/-
Texts of the walk, joined: what each one proves stands at its theorems.
-/
import Derived.Test.YthlfmbbaomdciaaGreatDoorB0SlAny
import Derived.Laws.IdiomStrings
import Derived.Lib.AppendZerosOnto
import Derived.Lib.Overlaps
import Derived.Laws.Cover3
import Derived.WideLaws
import Derived.Deep.SlicePairs
import Derived.ProofKit
import Derived.Deep.Slices
import Derived.Deep.DeepHandedRow
import Derived.Test.YthlfmbbaomdciaaGreatDoorRows
import Derived.OpenShut
import Derived.ChangeMaps5
import Derived.Deep.DeepWitnessRowRef
set_option linter.unusedSimpArgs false
set_option linter.unusedVariables false
set_option linter.unnecessarySimpa false
namespace Go.Proofs.YthlfmbbaomdciaaGreatDoor
open Go Go.RowKit Go.ChangeShapes Go.WideShapes Go.ChangeAt
theorem cl0_fnClashing : ((Rows.fnClashingRow.wf (OpenSpec.ofChange (OpenSpec.ofChange Rows.fnClashingSpec).bare)) && (laidOutB Tryz.pinned.checked.prog) && (mapsRowed Tryz.pinned.checked.prog) && (Tryz.f11.params.all (Tryz.pinned.checked.prog.readableRec ·)) && (namedTie Tryz.pinned.checked.prog Rows.fnClashingRow.named (OpenSpec.ofChange Rows.fnClashingSpec).bare.vars) && ((Rows.fnClashingRow.stops == [])) && ((Tryz.pinned.checked.prog.stops == [])) && ((Rows.fnClashingRow.knobs == [])) && ((Tryz.pinned.checked.prog.stopKnobs == []))) = true := by kernel_rfl
theorem cl1_fnClashing : (((Rows.fnClashingRow.inPlace == Tryz.pinned.checked.prog.inPlace 11)) && ((Rows.fnClashingRow.unfollowed == Tryz.pinned.checked.prog.unfollowed 11)) && ((Rows.fnClashingRow.recurses == Tryz.pinned.checked.prog.recurses 11)) && ((Rows.fnClashingRow.named == Tryz.pinned.checked.prog.varsNamed 11)) && ((Rows.fnClashingRow.maps == (Tryz.f11.params.toList ++ (OpenSpec.ofChange Rows.fnClashingSpec).bare.plain.varTypes Tryz.pinned.checked.prog).any (Tryz.pinned.checked.prog.mapsRec ·))) && ((Rows.fnClashingRow.ifaces == (Tryz.f11.params.toList ++ (OpenSpec.ofChange Rows.fnClashingSpec).bare.plain.varTypes Tryz.pinned.checked.prog).any (Tryz.pinned.checked.prog.ifacesRec ·))) && ((Rows.fnClashingRow.mapsOut == Tryz.pinned.checked.prog.mapsAmong Tryz.f11.resultTypes.toList)) && ((Rows.fnClashingRow.loops == (Tryz.f11.params.toList ++ (OpenSpec.ofChange Rows.fnClashingSpec).bare.plain.varTypes Tryz.pinned.checked.prog).any (Tryz.pinned.checked.prog.loopsFrom ·)))) = true := by kernel_rfl
end Go.Proofs.YthlfmbbaomdciaaGreatDoor
