/-
Texts of the walk, joined: what each one proves stands at its theorems.
-/
import Derived.Test.YthlfmbbaomdciaaGreatDoorB0SlAny
import Derived.Laws.IdiomStrings
import Derived.Lib.AppendZerosOnto
import Derived.Lib.Overlaps
import Derived.Laws.Cover3
import Derived.WideLaws
import Derived.Deep.SlicePairs
import Derived.ProofKit
import Derived.Deep.Slices
import Derived.Deep.DeepHandedRow
import Derived.Test.YthlfmbbaomdciaaGreatDoorRows
import Derived.OpenShut
import Derived.ChangeMaps5
import Derived.Deep.DeepWitnessRowRef
set_option linter.unusedSimpArgs false
set_option linter.unusedVariables false
set_option linter.unnecessarySimpa false
namespace Go.Proofs.YthlfmbbaomdciaaGreatDoor
open Go Go.RowKit Go.ChangeShapes Go.WideShapes Go.ChangeAt
theorem cl0_fnTwoApart : ((Rows.fnTwoApartRow.wf (OpenSpec.ofChange (OpenSpec.ofChange Rows.fnTwoApartSpec).bare)) && (laidOutB Tryz.pinned.checked.prog) && (mapsRowed Tryz.pinned.checked.prog) && (Tryz.f9.params.all (Tryz.pinned.checked.prog.readableRec ·)) && (namedTie Tryz.pinned.checked.prog Rows.fnTwoApartRow.named (OpenSpec.ofChange Rows.fnTwoApartSpec).bare.vars) && ((Rows.fnTwoApartRow.stops == [])) && ((Tryz.pinned.checked.prog.stops == [])) && ((Rows.fnTwoApartRow.knobs == [])) && ((Tryz.pinned.checked.prog.stopKnobs == []))) = true := by kernel_rfl
theorem cl1_fnTwoApart : (((Rows.fnTwoApartRow.inPlace == Tryz.pinned.checked.prog.inPlace 9)) && ((Rows.fnTwoApartRow.unfollowed == Tryz.pinned.checked.prog.unfollowed 9)) && ((Rows.fnTwoApartRow.recurses == Tryz.pinned.checked.prog.recurses 9)) && ((Rows.fnTwoApartRow.named == Tryz.pinned.checked.prog.varsNamed 9)) && ((Rows.fnTwoApartRow.maps == (Tryz.f9.params.toList ++ (OpenSpec.ofChange Rows.fnTwoApartSpec).bare.plain.varTypes Tryz.pinned.checked.prog).any (Tryz.pinned.checked.prog.mapsRec ·))) && ((Rows.fnTwoApartRow.ifaces == (Tryz.f9.params.toList ++ (OpenSpec.ofChange Rows.fnTwoApartSpec).bare.plain.varTypes Tryz.pinned.checked.prog).any (Tryz.pinned.checked.prog.ifacesRec ·))) && ((Rows.fnTwoApartRow.mapsOut == Tryz.pinned.checked.prog.mapsAmong Tryz.f9.resultTypes.toList)) && ((Rows.fnTwoApartRow.loops == (Tryz.f9.params.toList ++ (OpenSpec.ofChange Rows.fnTwoApartSpec).bare.plain.varTypes Tryz.pinned.checked.prog).any (Tryz.pinned.checked.prog.loopsFrom ·)))) = true := by kernel_rfl
end Go.Proofs.YthlfmbbaomdciaaGreatDoor
