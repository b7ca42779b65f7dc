/-
  laws.FnExactDoCall: the statement and its card: for every machine and every other argument the law returns true, and the arguments read as they did. Conditions: the package-level variables that the row lists hold what it lists.
-/
import Derived.Test.YthdgcbdfcclgbaaGreatDoorSc
import Derived.ChangeMaps5
import Derived.Deep.DeepWitnessRowRef
set_option linter.unusedSimpArgs false
set_option linter.unusedVariables false
set_option linter.unnecessarySimpa false
namespace Go.Proofs.YthdgcbdfcclgbaaGreatDoor
open Go Go.RowKit Go.ChangeShapes Go.WideShapes Go.ChangeAt

theorem cl0_fnExactDoCall : ((Rows.fnExactDoCallRow.wf (OpenSpec.ofChange (OpenSpec.ofChange Rows.fnExactDoCallSpec).bare)) && (laidOutB Tryz.pinned.checked.prog) && (mapsRowed Tryz.pinned.checked.prog) && (Tryz.f3.params.all (Tryz.pinned.checked.prog.readableRec ·)) && (namedTie Tryz.pinned.checked.prog Rows.fnExactDoCallRow.named (OpenSpec.ofChange Rows.fnExactDoCallSpec).bare.vars) && ((Rows.fnExactDoCallRow.stops == [])) && ((Tryz.pinned.checked.prog.stops == [])) && ((Rows.fnExactDoCallRow.knobs == [])) && ((Tryz.pinned.checked.prog.stopKnobs == []))) = true := by kernel_rfl
theorem cl1_fnExactDoCall : (((Rows.fnExactDoCallRow.inPlace == Tryz.pinned.checked.prog.inPlace 3)) && ((Rows.fnExactDoCallRow.unfollowed == Tryz.pinned.checked.prog.unfollowed 3)) && ((Rows.fnExactDoCallRow.recurses == Tryz.pinned.checked.prog.recurses 3)) && ((Rows.fnExactDoCallRow.named == Tryz.pinned.checked.prog.varsNamed 3)) && ((Rows.fnExactDoCallRow.maps == (Tryz.f3.params.toList ++ (OpenSpec.ofChange Rows.fnExactDoCallSpec).bare.plain.varTypes Tryz.pinned.checked.prog).any (Tryz.pinned.checked.prog.mapsRec ·))) && ((Rows.fnExactDoCallRow.ifaces == (Tryz.f3.params.toList ++ (OpenSpec.ofChange Rows.fnExactDoCallSpec).bare.plain.varTypes Tryz.pinned.checked.prog).any (Tryz.pinned.checked.prog.ifacesRec ·))) && ((Rows.fnExactDoCallRow.mapsOut == Tryz.pinned.checked.prog.mapsAmong Tryz.f3.resultTypes.toList)) && ((Rows.fnExactDoCallRow.loops == (Tryz.f3.params.toList ++ (OpenSpec.ofChange Rows.fnExactDoCallSpec).bare.plain.varTypes Tryz.pinned.checked.prog).any (Tryz.pinned.checked.prog.loopsFrom ·)))) = true := by kernel_rfl

end Go.Proofs.YthdgcbdfcclgbaaGreatDoor
