/-
Texts of the walk, joined: what each one proves stands at its theorems.
-/
import Derived.Test.YthlfmbbaomdciaaGreatDoorB0SlAny
import Derived.Laws.IdiomStrings
import Derived.Lib.AppendZerosOnto
import Derived.Lib.Overlaps
import Derived.Laws.Cover3
import Derived.WideLaws
import Derived.Deep.SlicePairs
import Derived.ProofKit
import Derived.Deep.Slices
import Derived.Deep.DeepHandedRow
import Derived.Test.YthlfmbbaomdciaaGreatDoorRows
import Derived.OpenShut
import Derived.ChangeMaps5
import Derived.Deep.DeepWitnessRowRef
set_option linter.unusedSimpArgs false
set_option linter.unusedVariables false
set_option linter.unnecessarySimpa false
namespace Go.Proofs.YthlfmbbaomdciaaGreatDoor
open Go Go.RowKit Go.ChangeShapes Go.WideShapes Go.ChangeAt
theorem cl0_fnExactTxAsk : ((Rows.fnExactTxAskRow.wf (OpenSpec.ofChange (OpenSpec.ofChange Rows.fnExactTxAskSpec).bare)) && (laidOutB Tryz.pinned.checked.prog) && (mapsRowed Tryz.pinned.checked.prog) && (Tryz.f12.params.all (Tryz.pinned.checked.prog.readableRec ·)) && (namedTie Tryz.pinned.checked.prog Rows.fnExactTxAskRow.named (OpenSpec.ofChange Rows.fnExactTxAskSpec).bare.vars) && ((Rows.fnExactTxAskRow.stops == [])) && ((Tryz.pinned.checked.prog.stops == [])) && ((Rows.fnExactTxAskRow.knobs == [])) && ((Tryz.pinned.checked.prog.stopKnobs == []))) = true := by kernel_rfl
theorem cl1_fnExactTxAsk : (((Rows.fnExactTxAskRow.inPlace == Tryz.pinned.checked.prog.inPlace 12)) && ((Rows.fnExactTxAskRow.unfollowed == Tryz.pinned.checked.prog.unfollowed 12)) && ((Rows.fnExactTxAskRow.recurses == Tryz.pinned.checked.prog.recurses 12)) && ((Rows.fnExactTxAskRow.named == Tryz.pinned.checked.prog.varsNamed 12)) && ((Rows.fnExactTxAskRow.maps == (Tryz.f12.params.toList ++ (OpenSpec.ofChange Rows.fnExactTxAskSpec).bare.plain.varTypes Tryz.pinned.checked.prog).any (Tryz.pinned.checked.prog.mapsRec ·))) && ((Rows.fnExactTxAskRow.ifaces == (Tryz.f12.params.toList ++ (OpenSpec.ofChange Rows.fnExactTxAskSpec).bare.plain.varTypes Tryz.pinned.checked.prog).any (Tryz.pinned.checked.prog.ifacesRec ·))) && ((Rows.fnExactTxAskRow.mapsOut == Tryz.pinned.checked.prog.mapsAmong Tryz.f12.resultTypes.toList)) && ((Rows.fnExactTxAskRow.loops == (Tryz.f12.params.toList ++ (OpenSpec.ofChange Rows.fnExactTxAskSpec).bare.plain.varTypes Tryz.pinned.checked.prog).any (Tryz.pinned.checked.prog.loopsFrom ·)))) = true := by kernel_rfl
end Go.Proofs.YthlfmbbaomdciaaGreatDoor
