/-
  laws.FnExactDrop: the statement: for every input the law returns true, and the input reads as it did. Conditions: none.
-/
import Derived.Test.YtkmpmjficoohkaaGreatRows
import Derived.WalkKit
import Derived.ChangeMaps5
import Derived.Deep.DeepWitnessRowRef
set_option linter.unusedSimpArgs false
set_option linter.unusedVariables false
set_option linter.unnecessarySimpa false
namespace Go.Proofs.YtkmpmjficoohkaaGreat
open Go Go.RowKit Go.ChangeShapes Go.WideShapes Go.ChangeAt

theorem cl0_fnExactDrop : ((Rows.fnExactDropRow.wf (OpenSpec.ofChange (OpenSpec.ofChange Rows.fnExactDropSpec).bare)) && (laidOutB Tryz.pinned.checked.prog) && (mapsRowed Tryz.pinned.checked.prog) && (Tryz.f5.params.all (Tryz.pinned.checked.prog.readableRec ·)) && (namedTie Tryz.pinned.checked.prog Rows.fnExactDropRow.named (OpenSpec.ofChange Rows.fnExactDropSpec).bare.vars) && ((Rows.fnExactDropRow.stops == [])) && ((Tryz.pinned.checked.prog.stops == [])) && ((Rows.fnExactDropRow.knobs == [])) && ((Tryz.pinned.checked.prog.stopKnobs == []))) = true := by kernel_rfl
theorem cl1_fnExactDrop : (((Rows.fnExactDropRow.inPlace == Tryz.pinned.checked.prog.inPlace 5)) && ((Rows.fnExactDropRow.unfollowed == Tryz.pinned.checked.prog.unfollowed 5)) && ((Rows.fnExactDropRow.recurses == Tryz.pinned.checked.prog.recurses 5)) && ((Rows.fnExactDropRow.named == Tryz.pinned.checked.prog.varsNamed 5)) && ((Rows.fnExactDropRow.maps == (Tryz.f5.params.toList ++ (OpenSpec.ofChange Rows.fnExactDropSpec).bare.plain.varTypes Tryz.pinned.checked.prog).any (Tryz.pinned.checked.prog.mapsRec ·))) && ((Rows.fnExactDropRow.ifaces == (Tryz.f5.params.toList ++ (OpenSpec.ofChange Rows.fnExactDropSpec).bare.plain.varTypes Tryz.pinned.checked.prog).any (Tryz.pinned.checked.prog.ifacesRec ·))) && ((Rows.fnExactDropRow.mapsOut == Tryz.pinned.checked.prog.mapsAmong Tryz.f5.resultTypes.toList)) && ((Rows.fnExactDropRow.loops == (Tryz.f5.params.toList ++ (OpenSpec.ofChange Rows.fnExactDropSpec).bare.plain.varTypes Tryz.pinned.checked.prog).any (Tryz.pinned.checked.prog.loopsFrom ·)))) = true := by kernel_rfl

end Go.Proofs.YtkmpmjficoohkaaGreat
