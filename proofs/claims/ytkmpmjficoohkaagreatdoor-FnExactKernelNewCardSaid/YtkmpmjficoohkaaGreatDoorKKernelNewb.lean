/-
  laws.FnExactKernelNew: the statement and its card: for every machine and every other argument the law returns true, and the arguments read as they did. Conditions: the package-level variables that the row lists hold what it lists.
-/
import Derived.Test.YtkmpmjficoohkaaGreatDoorFlat
import Derived.ChangeMaps5
import Derived.Deep.DeepWitnessRowRef
set_option linter.unusedSimpArgs false
set_option linter.unusedVariables false
set_option linter.unnecessarySimpa false
namespace Go.Proofs.YtkmpmjficoohkaaGreatDoor
open Go Go.RowKit Go.ChangeShapes Go.WideShapes Go.ChangeAt

theorem cl0_fnExactKernelNew : ((Rows.fnExactKernelNewRow.wf (OpenSpec.ofChange (OpenSpec.ofChange Rows.fnExactKernelNewSpec).bare)) && (laidOutB Tryz.pinned.checked.prog) && (mapsRowed Tryz.pinned.checked.prog) && (Tryz.f3.params.all (Tryz.pinned.checked.prog.readableRec ·)) && (namedTie Tryz.pinned.checked.prog Rows.fnExactKernelNewRow.named (OpenSpec.ofChange Rows.fnExactKernelNewSpec).bare.vars) && ((Rows.fnExactKernelNewRow.stops == [])) && ((Tryz.pinned.checked.prog.stops == [])) && ((Rows.fnExactKernelNewRow.knobs == [])) && ((Tryz.pinned.checked.prog.stopKnobs == []))) = true := by kernel_rfl
theorem cl1_fnExactKernelNew : (((Rows.fnExactKernelNewRow.inPlace == Tryz.pinned.checked.prog.inPlace 3)) && ((Rows.fnExactKernelNewRow.unfollowed == Tryz.pinned.checked.prog.unfollowed 3)) && ((Rows.fnExactKernelNewRow.recurses == Tryz.pinned.checked.prog.recurses 3)) && ((Rows.fnExactKernelNewRow.named == Tryz.pinned.checked.prog.varsNamed 3)) && ((Rows.fnExactKernelNewRow.maps == (Tryz.f3.params.toList ++ (OpenSpec.ofChange Rows.fnExactKernelNewSpec).bare.plain.varTypes Tryz.pinned.checked.prog).any (Tryz.pinned.checked.prog.mapsRec ·))) && ((Rows.fnExactKernelNewRow.ifaces == (Tryz.f3.params.toList ++ (OpenSpec.ofChange Rows.fnExactKernelNewSpec).bare.plain.varTypes Tryz.pinned.checked.prog).any (Tryz.pinned.checked.prog.ifacesRec ·))) && ((Rows.fnExactKernelNewRow.mapsOut == Tryz.pinned.checked.prog.mapsAmong Tryz.f3.resultTypes.toList)) && ((Rows.fnExactKernelNewRow.loops == (Tryz.f3.params.toList ++ (OpenSpec.ofChange Rows.fnExactKernelNewSpec).bare.plain.varTypes Tryz.pinned.checked.prog).any (Tryz.pinned.checked.prog.loopsFrom ·)))) = true := by kernel_rfl

end Go.Proofs.YtkmpmjficoohkaaGreatDoor
