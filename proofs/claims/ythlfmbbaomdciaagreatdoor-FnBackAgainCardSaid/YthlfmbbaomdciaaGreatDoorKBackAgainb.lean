/-
Texts of the walk, joined: what each one proves stands at its theorems.
-/
import Derived.Test.YthlfmbbaomdciaaGreatDoorB0SlAny
import Derived.Laws.IdiomStrings
import Derived.Lib.AppendZerosOnto
import Derived.Lib.Overlaps
import Derived.Laws.Cover3
import Derived.WideLaws
import Derived.Deep.SlicePairs
import Derived.ProofKit
import Derived.Deep.Slices
import Derived.Deep.DeepHandedRow
import Derived.Test.YthlfmbbaomdciaaGreatDoorRows
import Derived.OpenShut
import Derived.ChangeMaps5
import Derived.Deep.DeepWitnessRowRef
set_option linter.unusedSimpArgs false
set_option linter.unusedVariables false
set_option linter.unnecessarySimpa false
namespace Go.Proofs.YthlfmbbaomdciaaGreatDoor
open Go Go.RowKit Go.ChangeShapes Go.WideShapes Go.ChangeAt
theorem cl0_fnBackAgain : ((Rows.fnBackAgainRow.wf (OpenSpec.ofChange (OpenSpec.ofChange Rows.fnBackAgainSpec).bare)) && (laidOutB Tryz.pinned.checked.prog) && (mapsRowed Tryz.pinned.checked.prog) && (Tryz.f5.params.all (Tryz.pinned.checked.prog.readableRec ·)) && (namedTie Tryz.pinned.checked.prog Rows.fnBackAgainRow.named (OpenSpec.ofChange Rows.fnBackAgainSpec).bare.vars) && ((Rows.fnBackAgainRow.stops == [])) && ((Tryz.pinned.checked.prog.stops == [])) && ((Rows.fnBackAgainRow.knobs == [])) && ((Tryz.pinned.checked.prog.stopKnobs == []))) = true := by kernel_rfl
theorem cl1_fnBackAgain : (((Rows.fnBackAgainRow.inPlace == Tryz.pinned.checked.prog.inPlace 5)) && ((Rows.fnBackAgainRow.unfollowed == Tryz.pinned.checked.prog.unfollowed 5)) && ((Rows.fnBackAgainRow.recurses == Tryz.pinned.checked.prog.recurses 5)) && ((Rows.fnBackAgainRow.named == Tryz.pinned.checked.prog.varsNamed 5)) && ((Rows.fnBackAgainRow.maps == (Tryz.f5.params.toList ++ (OpenSpec.ofChange Rows.fnBackAgainSpec).bare.plain.varTypes Tryz.pinned.checked.prog).any (Tryz.pinned.checked.prog.mapsRec ·))) && ((Rows.fnBackAgainRow.ifaces == (Tryz.f5.params.toList ++ (OpenSpec.ofChange Rows.fnBackAgainSpec).bare.plain.varTypes Tryz.pinned.checked.prog).any (Tryz.pinned.checked.prog.ifacesRec ·))) && ((Rows.fnBackAgainRow.mapsOut == Tryz.pinned.checked.prog.mapsAmong Tryz.f5.resultTypes.toList)) && ((Rows.fnBackAgainRow.loops == (Tryz.f5.params.toList ++ (OpenSpec.ofChange Rows.fnBackAgainSpec).bare.plain.varTypes Tryz.pinned.checked.prog).any (Tryz.pinned.checked.prog.loopsFrom ·)))) = true := by kernel_rfl
end Go.Proofs.YthlfmbbaomdciaaGreatDoor
