/-
Texts of the walk, joined: what each one proves stands at its theorems.
-/
import Derived.Test.YthlfmbbaomdciaaGreatDoorB0SlAny
import Derived.Laws.IdiomStrings
import Derived.Lib.AppendZerosOnto
import Derived.Lib.Overlaps
import Derived.Laws.Cover3
import Derived.WideLaws
import Derived.Deep.SlicePairs
import Derived.ProofKit
import Derived.Deep.Slices
import Derived.Deep.DeepHandedRow
import Derived.Test.YthlfmbbaomdciaaGreatDoorRows
import Derived.OpenShut
import Derived.ChangeMaps5
import Derived.Deep.DeepWitnessRowRef
set_option linter.unusedSimpArgs false
set_option linter.unusedVariables false
set_option linter.unnecessarySimpa false
namespace Go.Proofs.YthlfmbbaomdciaaGreatDoor
open Go Go.RowKit Go.ChangeShapes Go.WideShapes Go.ChangeAt
theorem cl0_fnTxSees : ((Rows.fnTxSeesRow.wf (OpenSpec.ofChange (OpenSpec.ofChange Rows.fnTxSeesSpec).bare)) && (laidOutB Tryz.pinned.checked.prog) && (mapsRowed Tryz.pinned.checked.prog) && (Tryz.f7.params.all (Tryz.pinned.checked.prog.readableRec ·)) && (namedTie Tryz.pinned.checked.prog Rows.fnTxSeesRow.named (OpenSpec.ofChange Rows.fnTxSeesSpec).bare.vars) && ((Rows.fnTxSeesRow.stops == [])) && ((Tryz.pinned.checked.prog.stops == [])) && ((Rows.fnTxSeesRow.knobs == [])) && ((Tryz.pinned.checked.prog.stopKnobs == []))) = true := by kernel_rfl
theorem cl1_fnTxSees : (((Rows.fnTxSeesRow.inPlace == Tryz.pinned.checked.prog.inPlace 7)) && ((Rows.fnTxSeesRow.unfollowed == Tryz.pinned.checked.prog.unfollowed 7)) && ((Rows.fnTxSeesRow.recurses == Tryz.pinned.checked.prog.recurses 7)) && ((Rows.fnTxSeesRow.named == Tryz.pinned.checked.prog.varsNamed 7)) && ((Rows.fnTxSeesRow.maps == (Tryz.f7.params.toList ++ (OpenSpec.ofChange Rows.fnTxSeesSpec).bare.plain.varTypes Tryz.pinned.checked.prog).any (Tryz.pinned.checked.prog.mapsRec ·))) && ((Rows.fnTxSeesRow.ifaces == (Tryz.f7.params.toList ++ (OpenSpec.ofChange Rows.fnTxSeesSpec).bare.plain.varTypes Tryz.pinned.checked.prog).any (Tryz.pinned.checked.prog.ifacesRec ·))) && ((Rows.fnTxSeesRow.mapsOut == Tryz.pinned.checked.prog.mapsAmong Tryz.f7.resultTypes.toList)) && ((Rows.fnTxSeesRow.loops == (Tryz.f7.params.toList ++ (OpenSpec.ofChange Rows.fnTxSeesSpec).bare.plain.varTypes Tryz.pinned.checked.prog).any (Tryz.pinned.checked.prog.loopsFrom ·)))) = true := by kernel_rfl
end Go.Proofs.YthlfmbbaomdciaaGreatDoor
