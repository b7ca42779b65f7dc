/-
Texts of the walk, joined: what each one proves stands at its theorems.
-/
import Derived.Test.YthlfmbbaomdciaaGreatDoorB0SlAny
import Derived.Laws.IdiomStrings
import Derived.Lib.AppendZerosOnto
import Derived.Lib.Overlaps
import Derived.Laws.Cover3
import Derived.WideLaws
import Derived.Deep.SlicePairs
import Derived.ProofKit
import Derived.Deep.Slices
import Derived.Deep.DeepHandedRow
import Derived.Test.YthlfmbbaomdciaaGreatDoorRows
import Derived.OpenShut
import Derived.ChangeMaps5
import Derived.Deep.DeepWitnessRowRef
set_option linter.unusedSimpArgs false
set_option linter.unusedVariables false
set_option linter.unnecessarySimpa false
namespace Go.Proofs.YthlfmbbaomdciaaGreatDoor
open Go Go.RowKit Go.ChangeShapes Go.WideShapes Go.ChangeAt
theorem cl0_fnTxHolds : ((Rows.fnTxHoldsRow.wf (OpenSpec.ofChange (OpenSpec.ofChange Rows.fnTxHoldsSpec).bare)) && (laidOutB Tryz.pinned.checked.prog) && (mapsRowed Tryz.pinned.checked.prog) && (Tryz.f10.params.all (Tryz.pinned.checked.prog.readableRec ·)) && (namedTie Tryz.pinned.checked.prog Rows.fnTxHoldsRow.named (OpenSpec.ofChange Rows.fnTxHoldsSpec).bare.vars) && ((Rows.fnTxHoldsRow.stops == [])) && ((Tryz.pinned.checked.prog.stops == [])) && ((Rows.fnTxHoldsRow.knobs == [])) && ((Tryz.pinned.checked.prog.stopKnobs == []))) = true := by kernel_rfl
theorem cl1_fnTxHolds : (((Rows.fnTxHoldsRow.inPlace == Tryz.pinned.checked.prog.inPlace 10)) && ((Rows.fnTxHoldsRow.unfollowed == Tryz.pinned.checked.prog.unfollowed 10)) && ((Rows.fnTxHoldsRow.recurses == Tryz.pinned.checked.prog.recurses 10)) && ((Rows.fnTxHoldsRow.named == Tryz.pinned.checked.prog.varsNamed 10)) && ((Rows.fnTxHoldsRow.maps == (Tryz.f10.params.toList ++ (OpenSpec.ofChange Rows.fnTxHoldsSpec).bare.plain.varTypes Tryz.pinned.checked.prog).any (Tryz.pinned.checked.prog.mapsRec ·))) && ((Rows.fnTxHoldsRow.ifaces == (Tryz.f10.params.toList ++ (OpenSpec.ofChange Rows.fnTxHoldsSpec).bare.plain.varTypes Tryz.pinned.checked.prog).any (Tryz.pinned.checked.prog.ifacesRec ·))) && ((Rows.fnTxHoldsRow.mapsOut == Tryz.pinned.checked.prog.mapsAmong Tryz.f10.resultTypes.toList)) && ((Rows.fnTxHoldsRow.loops == (Tryz.f10.params.toList ++ (OpenSpec.ofChange Rows.fnTxHoldsSpec).bare.plain.varTypes Tryz.pinned.checked.prog).any (Tryz.pinned.checked.prog.loopsFrom ·)))) = true := by kernel_rfl
end Go.Proofs.YthlfmbbaomdciaaGreatDoor
