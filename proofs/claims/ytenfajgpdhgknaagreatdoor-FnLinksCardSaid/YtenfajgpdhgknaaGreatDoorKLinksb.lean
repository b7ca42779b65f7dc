/-
  laws.FnExactLinks: the statement and its card: for every machine and every other argument the law returns true, and the arguments read as they did. Conditions: the package-level variables that the row lists hold what it lists.
-/
import Derived.Test.YtenfajgpdhgknaaGreatDoorLd
import Derived.ChangeMaps5
import Derived.Deep.DeepWitnessRowRef
set_option linter.unusedSimpArgs false
set_option linter.unusedVariables false
set_option linter.unnecessarySimpa false
namespace Go.Proofs.YtenfajgpdhgknaaGreatDoor
open Go Go.RowKit Go.ChangeShapes Go.WideShapes Go.ChangeAt

theorem cl0_fnLinks : ((Rows.fnLinksRow.wf (OpenSpec.ofChange (OpenSpec.ofChange Rows.fnLinksSpec).bare)) && (laidOutB Tryz.pinned.checked.prog) && (mapsRowed Tryz.pinned.checked.prog) && (Tryz.f7.params.all (Tryz.pinned.checked.prog.readableRec ·)) && (namedTie Tryz.pinned.checked.prog Rows.fnLinksRow.named (OpenSpec.ofChange Rows.fnLinksSpec).bare.vars) && ((Rows.fnLinksRow.stops == [])) && ((Tryz.pinned.checked.prog.stops == [])) && ((Rows.fnLinksRow.knobs == [])) && ((Tryz.pinned.checked.prog.stopKnobs == []))) = true := by kernel_rfl
theorem cl1_fnLinks : (((Rows.fnLinksRow.inPlace == Tryz.pinned.checked.prog.inPlace 7)) && ((Rows.fnLinksRow.unfollowed == Tryz.pinned.checked.prog.unfollowed 7)) && ((Rows.fnLinksRow.recurses == Tryz.pinned.checked.prog.recurses 7)) && ((Rows.fnLinksRow.named == Tryz.pinned.checked.prog.varsNamed 7)) && ((Rows.fnLinksRow.maps == (Tryz.f7.params.toList ++ (OpenSpec.ofChange Rows.fnLinksSpec).bare.plain.varTypes Tryz.pinned.checked.prog).any (Tryz.pinned.checked.prog.mapsRec ·))) && ((Rows.fnLinksRow.ifaces == (Tryz.f7.params.toList ++ (OpenSpec.ofChange Rows.fnLinksSpec).bare.plain.varTypes Tryz.pinned.checked.prog).any (Tryz.pinned.checked.prog.ifacesRec ·))) && ((Rows.fnLinksRow.mapsOut == Tryz.pinned.checked.prog.mapsAmong Tryz.f7.resultTypes.toList)) && ((Rows.fnLinksRow.loops == (Tryz.f7.params.toList ++ (OpenSpec.ofChange Rows.fnLinksSpec).bare.plain.varTypes Tryz.pinned.checked.prog).any (Tryz.pinned.checked.prog.loopsFrom ·)))) = true := by kernel_rfl

end Go.Proofs.YtenfajgpdhgknaaGreatDoor
