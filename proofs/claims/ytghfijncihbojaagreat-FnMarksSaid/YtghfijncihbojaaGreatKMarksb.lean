/-
  laws.FnMarks: the statement: for every input the law returns true, and the input reads as it did. Conditions: none.
-/
import Derived.Test.YtghfijncihbojaaGreatOpenB
import Derived.Test.YtghfijncihbojaaGreatRows
import Derived.WalkKit
import Derived.ChangeMaps5
import Derived.Deep.DeepWitnessRowRef
set_option linter.unusedSimpArgs false
set_option linter.unusedVariables false
set_option linter.unnecessarySimpa false
namespace Go.Proofs.YtghfijncihbojaaGreat
open Go Go.RowKit Go.ChangeShapes Go.WideShapes Go.ChangeAt

theorem cl0_fnMarks : ((Rows.fnMarksRow.wf (OpenSpec.ofChange (OpenSpec.ofChange Rows.fnMarksSpec).bare)) && (laidOutB Tryz.pinned.checked.prog) && (mapsRowed Tryz.pinned.checked.prog) && (Tryz.f3.params.all (Tryz.pinned.checked.prog.readableRec ·)) && (namedTie Tryz.pinned.checked.prog Rows.fnMarksRow.named (OpenSpec.ofChange Rows.fnMarksSpec).bare.vars) && ((Rows.fnMarksRow.stops == [])) && ((Tryz.pinned.checked.prog.stops == [])) && ((Rows.fnMarksRow.knobs == [])) && ((Tryz.pinned.checked.prog.stopKnobs == []))) = true := by kernel_rfl
theorem cl1_fnMarks : (((Rows.fnMarksRow.inPlace == Tryz.pinned.checked.prog.inPlace 3)) && ((Rows.fnMarksRow.unfollowed == Tryz.pinned.checked.prog.unfollowed 3)) && ((Rows.fnMarksRow.recurses == Tryz.pinned.checked.prog.recurses 3)) && ((Rows.fnMarksRow.named == Tryz.pinned.checked.prog.varsNamed 3)) && ((Rows.fnMarksRow.maps == (Tryz.f3.params.toList ++ (OpenSpec.ofChange Rows.fnMarksSpec).bare.plain.varTypes Tryz.pinned.checked.prog).any (Tryz.pinned.checked.prog.mapsRec ·))) && ((Rows.fnMarksRow.ifaces == (Tryz.f3.params.toList ++ (OpenSpec.ofChange Rows.fnMarksSpec).bare.plain.varTypes Tryz.pinned.checked.prog).any (Tryz.pinned.checked.prog.ifacesRec ·))) && ((Rows.fnMarksRow.mapsOut == Tryz.pinned.checked.prog.mapsAmong Tryz.f3.resultTypes.toList)) && ((Rows.fnMarksRow.loops == (Tryz.f3.params.toList ++ (OpenSpec.ofChange Rows.fnMarksSpec).bare.plain.varTypes Tryz.pinned.checked.prog).any (Tryz.pinned.checked.prog.loopsFrom ·)))) = true := by kernel_rfl

end Go.Proofs.YtghfijncihbojaaGreat
