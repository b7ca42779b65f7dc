/-
  laws.FnExactDisks: the statement and its card: for every machine and every other argument the law returns true, and the arguments read as they did. Conditions: the package-level variables that the row lists hold what it lists.
-/
import Derived.Test.YtjncpgcccgdeiaaGreatDoorS46OK
import Derived.ChangeMaps5
import Derived.Deep.DeepWitnessRowRef
set_option linter.unusedSimpArgs false
set_option linter.unusedVariables false
set_option linter.unnecessarySimpa false
namespace Go.Proofs.YtjncpgcccgdeiaaGreatDoor
open Go Go.RowKit Go.ChangeShapes Go.WideShapes Go.ChangeAt

theorem cl0_fnDisks : ((Rows.fnDisksRow.wf (OpenSpec.ofChange (OpenSpec.ofChange Rows.fnDisksSpec).bare)) && (laidOutB Tryz.pinned.checked.prog) && (mapsRowed Tryz.pinned.checked.prog) && (Tryz.f10.params.all (Tryz.pinned.checked.prog.readableRec ·)) && (namedTie Tryz.pinned.checked.prog Rows.fnDisksRow.named (OpenSpec.ofChange Rows.fnDisksSpec).bare.vars) && ((Rows.fnDisksRow.stops == [])) && ((Tryz.pinned.checked.prog.stops == [])) && ((Rows.fnDisksRow.knobs == [])) && ((Tryz.pinned.checked.prog.stopKnobs == []))) = true := by kernel_rfl
theorem cl1_fnDisks : (((Rows.fnDisksRow.inPlace == Tryz.pinned.checked.prog.inPlace 10)) && ((Rows.fnDisksRow.unfollowed == Tryz.pinned.checked.prog.unfollowed 10)) && ((Rows.fnDisksRow.recurses == Tryz.pinned.checked.prog.recurses 10)) && ((Rows.fnDisksRow.named == Tryz.pinned.checked.prog.varsNamed 10)) && ((Rows.fnDisksRow.maps == (Tryz.f10.params.toList ++ (OpenSpec.ofChange Rows.fnDisksSpec).bare.plain.varTypes Tryz.pinned.checked.prog).any (Tryz.pinned.checked.prog.mapsRec ·))) && ((Rows.fnDisksRow.ifaces == (Tryz.f10.params.toList ++ (OpenSpec.ofChange Rows.fnDisksSpec).bare.plain.varTypes Tryz.pinned.checked.prog).any (Tryz.pinned.checked.prog.ifacesRec ·))) && ((Rows.fnDisksRow.mapsOut == Tryz.pinned.checked.prog.mapsAmong Tryz.f10.resultTypes.toList)) && ((Rows.fnDisksRow.loops == (Tryz.f10.params.toList ++ (OpenSpec.ofChange Rows.fnDisksSpec).bare.plain.varTypes Tryz.pinned.checked.prog).any (Tryz.pinned.checked.prog.loopsFrom ·)))) = true := by kernel_rfl

end Go.Proofs.YtjncpgcccgdeiaaGreatDoor
