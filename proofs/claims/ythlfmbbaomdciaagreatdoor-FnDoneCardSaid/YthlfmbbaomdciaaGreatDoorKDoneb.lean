/-
Texts of the walk, joined: what each one proves stands at its theorems.
-/
import Derived.Test.YthlfmbbaomdciaaGreatDoorB0SlAny
import Derived.Laws.IdiomStrings
import Derived.Lib.AppendZerosOnto
import Derived.Lib.Overlaps
import Derived.Laws.Cover3
import Derived.WideLaws
import Derived.Deep.SlicePairs
import Derived.ProofKit
import Derived.Deep.Slices
import Derived.Deep.DeepHandedRow
import Derived.Test.YthlfmbbaomdciaaGreatDoorRows
import Derived.OpenShut
import Derived.ChangeMaps5
import Derived.Deep.DeepWitnessRowRef
set_option linter.unusedSimpArgs false
set_option linter.unusedVariables false
set_option linter.unnecessarySimpa false
namespace Go.Proofs.YthlfmbbaomdciaaGreatDoor
open Go Go.RowKit Go.ChangeShapes Go.WideShapes Go.ChangeAt
theorem cl0_fnDone : ((Rows.fnDoneRow.wf (OpenSpec.ofChange (OpenSpec.ofChange Rows.fnDoneSpec).bare)) && (laidOutB Tryz.pinned.checked.prog) && (mapsRowed Tryz.pinned.checked.prog) && (Tryz.f6.params.all (Tryz.pinned.checked.prog.readableRec ·)) && (namedTie Tryz.pinned.checked.prog Rows.fnDoneRow.named (OpenSpec.ofChange Rows.fnDoneSpec).bare.vars) && ((Rows.fnDoneRow.stops == [])) && ((Tryz.pinned.checked.prog.stops == [])) && ((Rows.fnDoneRow.knobs == [])) && ((Tryz.pinned.checked.prog.stopKnobs == []))) = true := by kernel_rfl
theorem cl1_fnDone : (((Rows.fnDoneRow.inPlace == Tryz.pinned.checked.prog.inPlace 6)) && ((Rows.fnDoneRow.unfollowed == Tryz.pinned.checked.prog.unfollowed 6)) && ((Rows.fnDoneRow.recurses == Tryz.pinned.checked.prog.recurses 6)) && ((Rows.fnDoneRow.named == Tryz.pinned.checked.prog.varsNamed 6)) && ((Rows.fnDoneRow.maps == (Tryz.f6.params.toList ++ (OpenSpec.ofChange Rows.fnDoneSpec).bare.plain.varTypes Tryz.pinned.checked.prog).any (Tryz.pinned.checked.prog.mapsRec ·))) && ((Rows.fnDoneRow.ifaces == (Tryz.f6.params.toList ++ (OpenSpec.ofChange Rows.fnDoneSpec).bare.plain.varTypes Tryz.pinned.checked.prog).any (Tryz.pinned.checked.prog.ifacesRec ·))) && ((Rows.fnDoneRow.mapsOut == Tryz.pinned.checked.prog.mapsAmong Tryz.f6.resultTypes.toList)) && ((Rows.fnDoneRow.loops == (Tryz.f6.params.toList ++ (OpenSpec.ofChange Rows.fnDoneSpec).bare.plain.varTypes Tryz.pinned.checked.prog).any (Tryz.pinned.checked.prog.loopsFrom ·)))) = true := by kernel_rfl
end Go.Proofs.YthlfmbbaomdciaaGreatDoor
