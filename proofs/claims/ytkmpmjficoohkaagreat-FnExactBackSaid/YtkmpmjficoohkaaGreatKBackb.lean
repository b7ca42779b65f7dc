/-
  laws.FnExactBack: the statement: for every input the law returns true, and the input reads as it did. Conditions: none.
-/
import Derived.Test.YtkmpmjficoohkaaGreatRows
import Derived.WalkKit
import Derived.ChangeMaps5
import Derived.Deep.DeepWitnessRowRef
set_option linter.unusedSimpArgs false
set_option linter.unusedVariables false
set_option linter.unnecessarySimpa false
namespace Go.Proofs.YtkmpmjficoohkaaGreat
open Go Go.RowKit Go.ChangeShapes Go.WideShapes Go.ChangeAt

theorem cl0_fnExactBack : ((Rows.fnExactBackRow.wf (OpenSpec.ofChange (OpenSpec.ofChange Rows.fnExactBackSpec).bare)) && (laidOutB Tryz.pinned.checked.prog) && (mapsRowed Tryz.pinned.checked.prog) && (Tryz.f7.params.all (Tryz.pinned.checked.prog.readableRec ·)) && (namedTie Tryz.pinned.checked.prog Rows.fnExactBackRow.named (OpenSpec.ofChange Rows.fnExactBackSpec).bare.vars) && ((Rows.fnExactBackRow.stops == [])) && ((Tryz.pinned.checked.prog.stops == [])) && ((Rows.fnExactBackRow.knobs == [])) && ((Tryz.pinned.checked.prog.stopKnobs == []))) = true := by kernel_rfl
theorem cl1_fnExactBack : (((Rows.fnExactBackRow.inPlace == Tryz.pinned.checked.prog.inPlace 7)) && ((Rows.fnExactBackRow.unfollowed == Tryz.pinned.checked.prog.unfollowed 7)) && ((Rows.fnExactBackRow.recurses == Tryz.pinned.checked.prog.recurses 7)) && ((Rows.fnExactBackRow.named == Tryz.pinned.checked.prog.varsNamed 7)) && ((Rows.fnExactBackRow.maps == (Tryz.f7.params.toList ++ (OpenSpec.ofChange Rows.fnExactBackSpec).bare.plain.varTypes Tryz.pinned.checked.prog).any (Tryz.pinned.checked.prog.mapsRec ·))) && ((Rows.fnExactBackRow.ifaces == (Tryz.f7.params.toList ++ (OpenSpec.ofChange Rows.fnExactBackSpec).bare.plain.varTypes Tryz.pinned.checked.prog).any (Tryz.pinned.checked.prog.ifacesRec ·))) && ((Rows.fnExactBackRow.mapsOut == Tryz.pinned.checked.prog.mapsAmong Tryz.f7.resultTypes.toList)) && ((Rows.fnExactBackRow.loops == (Tryz.f7.params.toList ++ (OpenSpec.ofChange Rows.fnExactBackSpec).bare.plain.varTypes Tryz.pinned.checked.prog).any (Tryz.pinned.checked.prog.loopsFrom ·)))) = true := by kernel_rfl

end Go.Proofs.YtkmpmjficoohkaaGreat
