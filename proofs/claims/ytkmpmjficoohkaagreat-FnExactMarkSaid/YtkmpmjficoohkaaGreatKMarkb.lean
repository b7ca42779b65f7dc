/-
  laws.FnExactMark: the statement: for every input the law returns true, and the input reads as it did. Conditions: none.
-/
import Derived.Test.YtkmpmjficoohkaaGreatRows
import Derived.WalkKit
import Derived.ChangeMaps5
import Derived.Deep.DeepWitnessRowRef
set_option linter.unusedSimpArgs false
set_option linter.unusedVariables false
set_option linter.unnecessarySimpa false
namespace Go.Proofs.YtkmpmjficoohkaaGreat
open Go Go.RowKit Go.ChangeShapes Go.WideShapes Go.ChangeAt

theorem cl0_fnExactMark : ((Rows.fnExactMarkRow.wf (OpenSpec.ofChange (OpenSpec.ofChange Rows.fnExactMarkSpec).bare)) && (laidOutB Tryz.pinned.checked.prog) && (mapsRowed Tryz.pinned.checked.prog) && (Tryz.f6.params.all (Tryz.pinned.checked.prog.readableRec ·)) && (namedTie Tryz.pinned.checked.prog Rows.fnExactMarkRow.named (OpenSpec.ofChange Rows.fnExactMarkSpec).bare.vars) && ((Rows.fnExactMarkRow.stops == [])) && ((Tryz.pinned.checked.prog.stops == [])) && ((Rows.fnExactMarkRow.knobs == [])) && ((Tryz.pinned.checked.prog.stopKnobs == []))) = true := by kernel_rfl
theorem cl1_fnExactMark : (((Rows.fnExactMarkRow.inPlace == Tryz.pinned.checked.prog.inPlace 6)) && ((Rows.fnExactMarkRow.unfollowed == Tryz.pinned.checked.prog.unfollowed 6)) && ((Rows.fnExactMarkRow.recurses == Tryz.pinned.checked.prog.recurses 6)) && ((Rows.fnExactMarkRow.named == Tryz.pinned.checked.prog.varsNamed 6)) && ((Rows.fnExactMarkRow.maps == (Tryz.f6.params.toList ++ (OpenSpec.ofChange Rows.fnExactMarkSpec).bare.plain.varTypes Tryz.pinned.checked.prog).any (Tryz.pinned.checked.prog.mapsRec ·))) && ((Rows.fnExactMarkRow.ifaces == (Tryz.f6.params.toList ++ (OpenSpec.ofChange Rows.fnExactMarkSpec).bare.plain.varTypes Tryz.pinned.checked.prog).any (Tryz.pinned.checked.prog.ifacesRec ·))) && ((Rows.fnExactMarkRow.mapsOut == Tryz.pinned.checked.prog.mapsAmong Tryz.f6.resultTypes.toList)) && ((Rows.fnExactMarkRow.loops == (Tryz.f6.params.toList ++ (OpenSpec.ofChange Rows.fnExactMarkSpec).bare.plain.varTypes Tryz.pinned.checked.prog).any (Tryz.pinned.checked.prog.loopsFrom ·)))) = true := by kernel_rfl

end Go.Proofs.YtkmpmjficoohkaaGreat
