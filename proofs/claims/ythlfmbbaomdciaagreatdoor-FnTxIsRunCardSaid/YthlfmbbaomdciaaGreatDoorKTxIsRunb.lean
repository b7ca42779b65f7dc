/-
Texts of the walk, joined: what each one proves stands at its theorems.
-/
import Derived.Test.YthlfmbbaomdciaaGreatDoorB0SlAny
import Derived.Laws.IdiomStrings
import Derived.Lib.AppendZerosOnto
import Derived.Lib.Overlaps
import Derived.Laws.Cover3
import Derived.WideLaws
import Derived.Deep.SlicePairs
import Derived.ProofKit
import Derived.Deep.Slices
import Derived.Deep.DeepHandedRow
import Derived.Test.YthlfmbbaomdciaaGreatDoorRows
import Derived.OpenShut
import Derived.ChangeMaps5
import Derived.Deep.DeepWitnessRowRef
set_option linter.unusedSimpArgs false
set_option linter.unusedVariables false
set_option linter.unnecessarySimpa false
namespace Go.Proofs.YthlfmbbaomdciaaGreatDoor
open Go Go.RowKit Go.ChangeShapes Go.WideShapes Go.ChangeAt
theorem cl0_fnTxIsRun : ((Rows.fnTxIsRunRow.wf (OpenSpec.ofChange (OpenSpec.ofChange Rows.fnTxIsRunSpec).bare)) && (laidOutB Tryz.pinned.checked.prog) && (mapsRowed Tryz.pinned.checked.prog) && (Tryz.f8.params.all (Tryz.pinned.checked.prog.readableRec ·)) && (namedTie Tryz.pinned.checked.prog Rows.fnTxIsRunRow.named (OpenSpec.ofChange Rows.fnTxIsRunSpec).bare.vars) && ((Rows.fnTxIsRunRow.stops == [])) && ((Tryz.pinned.checked.prog.stops == [])) && ((Rows.fnTxIsRunRow.knobs == [])) && ((Tryz.pinned.checked.prog.stopKnobs == []))) = true := by kernel_rfl
theorem cl1_fnTxIsRun : (((Rows.fnTxIsRunRow.inPlace == Tryz.pinned.checked.prog.inPlace 8)) && ((Rows.fnTxIsRunRow.unfollowed == Tryz.pinned.checked.prog.unfollowed 8)) && ((Rows.fnTxIsRunRow.recurses == Tryz.pinned.checked.prog.recurses 8)) && ((Rows.fnTxIsRunRow.named == Tryz.pinned.checked.prog.varsNamed 8)) && ((Rows.fnTxIsRunRow.maps == (Tryz.f8.params.toList ++ (OpenSpec.ofChange Rows.fnTxIsRunSpec).bare.plain.varTypes Tryz.pinned.checked.prog).any (Tryz.pinned.checked.prog.mapsRec ·))) && ((Rows.fnTxIsRunRow.ifaces == (Tryz.f8.params.toList ++ (OpenSpec.ofChange Rows.fnTxIsRunSpec).bare.plain.varTypes Tryz.pinned.checked.prog).any (Tryz.pinned.checked.prog.ifacesRec ·))) && ((Rows.fnTxIsRunRow.mapsOut == Tryz.pinned.checked.prog.mapsAmong Tryz.f8.resultTypes.toList)) && ((Rows.fnTxIsRunRow.loops == (Tryz.f8.params.toList ++ (OpenSpec.ofChange Rows.fnTxIsRunSpec).bare.plain.varTypes Tryz.pinned.checked.prog).any (Tryz.pinned.checked.prog.loopsFrom ·)))) = true := by kernel_rfl
end Go.Proofs.YthlfmbbaomdciaaGreatDoor
