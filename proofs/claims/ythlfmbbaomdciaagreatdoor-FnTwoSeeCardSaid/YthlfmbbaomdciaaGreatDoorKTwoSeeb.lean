/-
Texts of the walk, joined: what each one proves stands at its theorems.
-/
import Derived.Test.YthlfmbbaomdciaaGreatDoorB0SlAny
import Derived.Laws.IdiomStrings
import Derived.Lib.AppendZerosOnto
import Derived.Lib.Overlaps
import Derived.Laws.Cover3
import Derived.WideLaws
import Derived.Deep.SlicePairs
import Derived.ProofKit
import Derived.Deep.Slices
import Derived.Deep.DeepHandedRow
import Derived.Test.YthlfmbbaomdciaaGreatDoorRows
import Derived.OpenShut
import Derived.ChangeMaps5
import Derived.Deep.DeepWitnessRowRef
set_option linter.unusedSimpArgs false
set_option linter.unusedVariables false
set_option linter.unnecessarySimpa false
namespace Go.Proofs.YthlfmbbaomdciaaGreatDoor
open Go Go.RowKit Go.ChangeShapes Go.WideShapes Go.ChangeAt
theorem cl0_fnTwoSee : ((Rows.fnTwoSeeRow.wf (OpenSpec.ofChange (OpenSpec.ofChange Rows.fnTwoSeeSpec).bare)) && (laidOutB Tryz.pinned.checked.prog) && (mapsRowed Tryz.pinned.checked.prog) && (Tryz.f3.params.all (Tryz.pinned.checked.prog.readableRec ·)) && (namedTie Tryz.pinned.checked.prog Rows.fnTwoSeeRow.named (OpenSpec.ofChange Rows.fnTwoSeeSpec).bare.vars) && ((Rows.fnTwoSeeRow.stops == [])) && ((Tryz.pinned.checked.prog.stops == [])) && ((Rows.fnTwoSeeRow.knobs == [])) && ((Tryz.pinned.checked.prog.stopKnobs == []))) = true := by kernel_rfl
theorem cl1_fnTwoSee : (((Rows.fnTwoSeeRow.inPlace == Tryz.pinned.checked.prog.inPlace 3)) && ((Rows.fnTwoSeeRow.unfollowed == Tryz.pinned.checked.prog.unfollowed 3)) && ((Rows.fnTwoSeeRow.recurses == Tryz.pinned.checked.prog.recurses 3)) && ((Rows.fnTwoSeeRow.named == Tryz.pinned.checked.prog.varsNamed 3)) && ((Rows.fnTwoSeeRow.maps == (Tryz.f3.params.toList ++ (OpenSpec.ofChange Rows.fnTwoSeeSpec).bare.plain.varTypes Tryz.pinned.checked.prog).any (Tryz.pinned.checked.prog.mapsRec ·))) && ((Rows.fnTwoSeeRow.ifaces == (Tryz.f3.params.toList ++ (OpenSpec.ofChange Rows.fnTwoSeeSpec).bare.plain.varTypes Tryz.pinned.checked.prog).any (Tryz.pinned.checked.prog.ifacesRec ·))) && ((Rows.fnTwoSeeRow.mapsOut == Tryz.pinned.checked.prog.mapsAmong Tryz.f3.resultTypes.toList)) && ((Rows.fnTwoSeeRow.loops == (Tryz.f3.params.toList ++ (OpenSpec.ofChange Rows.fnTwoSeeSpec).bare.plain.varTypes Tryz.pinned.checked.prog).any (Tryz.pinned.checked.prog.loopsFrom ·)))) = true := by kernel_rfl
end Go.Proofs.YthlfmbbaomdciaaGreatDoor
