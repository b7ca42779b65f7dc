/-
  laws.FnExactHour: the statement: for every input the law returns true, and the input reads as it did. Conditions: none.
-/
import Derived.Test.YtkmpmjficoohkaaGreatRows
import Derived.WalkKit
import Derived.ChangeMaps5
import Derived.Deep.DeepWitnessRowRef
set_option linter.unusedSimpArgs false
set_option linter.unusedVariables false
set_option linter.unnecessarySimpa false
namespace Go.Proofs.YtkmpmjficoohkaaGreat
open Go Go.RowKit Go.ChangeShapes Go.WideShapes Go.ChangeAt

theorem cl0_fnExactHour : ((Rows.fnExactHourRow.wf (OpenSpec.ofChange (OpenSpec.ofChange Rows.fnExactHourSpec).bare)) && (laidOutB Tryz.pinned.checked.prog) && (mapsRowed Tryz.pinned.checked.prog) && (Tryz.f3.params.all (Tryz.pinned.checked.prog.readableRec ·)) && (namedTie Tryz.pinned.checked.prog Rows.fnExactHourRow.named (OpenSpec.ofChange Rows.fnExactHourSpec).bare.vars) && ((Rows.fnExactHourRow.stops == [])) && ((Tryz.pinned.checked.prog.stops == [])) && ((Rows.fnExactHourRow.knobs == [])) && ((Tryz.pinned.checked.prog.stopKnobs == []))) = true := by kernel_rfl
theorem cl1_fnExactHour : (((Rows.fnExactHourRow.inPlace == Tryz.pinned.checked.prog.inPlace 3)) && ((Rows.fnExactHourRow.unfollowed == Tryz.pinned.checked.prog.unfollowed 3)) && ((Rows.fnExactHourRow.recurses == Tryz.pinned.checked.prog.recurses 3)) && ((Rows.fnExactHourRow.named == Tryz.pinned.checked.prog.varsNamed 3)) && ((Rows.fnExactHourRow.maps == (Tryz.f3.params.toList ++ (OpenSpec.ofChange Rows.fnExactHourSpec).bare.plain.varTypes Tryz.pinned.checked.prog).any (Tryz.pinned.checked.prog.mapsRec ·))) && ((Rows.fnExactHourRow.ifaces == (Tryz.f3.params.toList ++ (OpenSpec.ofChange Rows.fnExactHourSpec).bare.plain.varTypes Tryz.pinned.checked.prog).any (Tryz.pinned.checked.prog.ifacesRec ·))) && ((Rows.fnExactHourRow.mapsOut == Tryz.pinned.checked.prog.mapsAmong Tryz.f3.resultTypes.toList)) && ((Rows.fnExactHourRow.loops == (Tryz.f3.params.toList ++ (OpenSpec.ofChange Rows.fnExactHourSpec).bare.plain.varTypes Tryz.pinned.checked.prog).any (Tryz.pinned.checked.prog.loopsFrom ·)))) = true := by kernel_rfl

end Go.Proofs.YtkmpmjficoohkaaGreat
