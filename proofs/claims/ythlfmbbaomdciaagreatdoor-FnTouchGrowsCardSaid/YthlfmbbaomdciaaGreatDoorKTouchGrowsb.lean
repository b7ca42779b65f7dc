/-
Texts of the walk, joined: what each one proves stands at its theorems.
-/
import Derived.Test.YthlfmbbaomdciaaGreatDoorB0SlAny
import Derived.Laws.IdiomStrings
import Derived.Lib.AppendZerosOnto
import Derived.Lib.Overlaps
import Derived.Laws.Cover3
import Derived.WideLaws
import Derived.Deep.SlicePairs
import Derived.ProofKit
import Derived.Deep.Slices
import Derived.Deep.DeepHandedRow
import Derived.Test.YthlfmbbaomdciaaGreatDoorRows
import Derived.OpenShut
import Derived.ChangeMaps5
import Derived.Deep.DeepWitnessRowRef
set_option linter.unusedSimpArgs false
set_option linter.unusedVariables false
set_option linter.unnecessarySimpa false
namespace Go.Proofs.YthlfmbbaomdciaaGreatDoor
open Go Go.RowKit Go.ChangeShapes Go.WideShapes Go.ChangeAt
theorem cl0_fnTouchGrows : ((Rows.fnTouchGrowsRow.wf (OpenSpec.ofChange (OpenSpec.ofChange Rows.fnTouchGrowsSpec).bare)) && (laidOutB Tryz.pinned.checked.prog) && (mapsRowed Tryz.pinned.checked.prog) && (Tryz.f4.params.all (Tryz.pinned.checked.prog.readableRec ·)) && (namedTie Tryz.pinned.checked.prog Rows.fnTouchGrowsRow.named (OpenSpec.ofChange Rows.fnTouchGrowsSpec).bare.vars) && ((Rows.fnTouchGrowsRow.stops == [])) && ((Tryz.pinned.checked.prog.stops == [])) && ((Rows.fnTouchGrowsRow.knobs == [])) && ((Tryz.pinned.checked.prog.stopKnobs == []))) = true := by kernel_rfl
theorem cl1_fnTouchGrows : (((Rows.fnTouchGrowsRow.inPlace == Tryz.pinned.checked.prog.inPlace 4)) && ((Rows.fnTouchGrowsRow.unfollowed == Tryz.pinned.checked.prog.unfollowed 4)) && ((Rows.fnTouchGrowsRow.recurses == Tryz.pinned.checked.prog.recurses 4)) && ((Rows.fnTouchGrowsRow.named == Tryz.pinned.checked.prog.varsNamed 4)) && ((Rows.fnTouchGrowsRow.maps == (Tryz.f4.params.toList ++ (OpenSpec.ofChange Rows.fnTouchGrowsSpec).bare.plain.varTypes Tryz.pinned.checked.prog).any (Tryz.pinned.checked.prog.mapsRec ·))) && ((Rows.fnTouchGrowsRow.ifaces == (Tryz.f4.params.toList ++ (OpenSpec.ofChange Rows.fnTouchGrowsSpec).bare.plain.varTypes Tryz.pinned.checked.prog).any (Tryz.pinned.checked.prog.ifacesRec ·))) && ((Rows.fnTouchGrowsRow.mapsOut == Tryz.pinned.checked.prog.mapsAmong Tryz.f4.resultTypes.toList)) && ((Rows.fnTouchGrowsRow.loops == (Tryz.f4.params.toList ++ (OpenSpec.ofChange Rows.fnTouchGrowsSpec).bare.plain.varTypes Tryz.pinned.checked.prog).any (Tryz.pinned.checked.prog.loopsFrom ·)))) = true := by kernel_rfl
end Go.Proofs.YthlfmbbaomdciaaGreatDoor
