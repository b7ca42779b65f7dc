/-
  laws.FnExactFiles: the statement and its card: for every machine and every other argument the law returns true, and the arguments read as they did. Conditions: the package-level variables that the row lists hold what it lists.
-/
import Derived.Test.YtenfajgpdhgknaaGreatDoorS06HELD
import Derived.Test.YtenfajgpdhgknaaGreatDoorLFiles
import Derived.Test.YtenfajgpdhgknaaGreatDoorOpenB
import Derived.Test.YtenfajgpdhgknaaGreatDoorCards
import Derived.Test.YtenfajgpdhgknaaGreatDoorTie
import Derived.ChangeMaps5
import Derived.Deep.DeepWitnessRowRef
import Derived.Test.YtenfajgpdhgknaaGreatDoorKFilesa
import Derived.Test.YtenfajgpdhgknaaGreatDoorKFilesb
import Derived.Test.YtenfajgpdhgknaaGreatDoorKFilesc
import Derived.Test.YtenfajgpdhgknaaGreatDoorKFilesd
set_option linter.unusedSimpArgs false
set_option linter.unusedVariables false
set_option linter.unnecessarySimpa false
namespace Go.Proofs.YtenfajgpdhgknaaGreatDoor
open Go Go.RowKit Go.ChangeShapes Go.WideShapes Go.ChangeAt

theorem and_tt_fnFiles {a b : Bool} (h1 : a = true) (h2 : b = true) : (a && b) = true := by rw [h1, h2]; rfl
theorem and_l_fnFiles {a b : Bool} (h : (a && b) = true) : a = true := by cases a <;> simp_all
theorem and_r_fnFiles {a b : Bool} (h : (a && b) = true) : b = true := by cases b <;> simp_all
set_option maxRecDepth 100000 in
theorem closed_fnFiles : joinedFacts Tryz.pinned.checked.prog 13 Tryz.f13 (OpenSpec.ofChange Rows.fnFilesSpec).bare Rows.fnFilesRow = true := by
  unfold joinedFacts
  exact and_tt_fnFiles (and_tt_fnFiles (and_tt_fnFiles (and_tt_fnFiles (and_tt_fnFiles (and_tt_fnFiles (and_tt_fnFiles (and_tt_fnFiles (and_tt_fnFiles (and_tt_fnFiles (and_tt_fnFiles (and_tt_fnFiles (and_tt_fnFiles (and_tt_fnFiles (and_tt_fnFiles (and_tt_fnFiles (and_tt_fnFiles (and_tt_fnFiles (and_tt_fnFiles (and_tt_fnFiles (and_tt_fnFiles (and_tt_fnFiles (and_tt_fnFiles (cl0_fnFiles) (and_l_fnFiles (and_l_fnFiles (and_l_fnFiles (and_l_fnFiles (and_l_fnFiles (and_l_fnFiles (and_l_fnFiles cl1_fnFiles)))))))) (and_r_fnFiles (and_l_fnFiles (and_l_fnFiles (and_l_fnFiles (and_l_fnFiles (and_l_fnFiles (and_l_fnFiles cl1_fnFiles)))))))) (and_r_fnFiles (and_l_fnFiles (and_l_fnFiles (and_l_fnFiles (and_l_fnFiles (and_l_fnFiles cl1_fnFiles))))))) (and_r_fnFiles (and_l_fnFiles (and_l_fnFiles (and_l_fnFiles (and_l_fnFiles cl1_fnFiles)))))) (and_r_fnFiles (and_l_fnFiles (and_l_fnFiles (and_l_fnFiles cl1_fnFiles))))) (and_r_fnFiles (and_l_fnFiles (and_l_fnFiles cl1_fnFiles)))) (and_r_fnFiles (and_l_fnFiles cl1_fnFiles))) (and_r_fnFiles cl1_fnFiles)) (and_l_fnFiles (and_l_fnFiles (and_l_fnFiles (and_l_fnFiles (and_l_fnFiles (and_l_fnFiles cl2_fnFiles))))))) (and_r_fnFiles (and_l_fnFiles (and_l_fnFiles (and_l_fnFiles (and_l_fnFiles (and_l_fnFiles cl2_fnFiles))))))) (and_r_fnFiles (and_l_fnFiles (and_l_fnFiles (and_l_fnFiles (and_l_fnFiles cl2_fnFiles)))))) (and_r_fnFiles (and_l_fnFiles (and_l_fnFiles (and_l_fnFiles cl2_fnFiles))))) (and_r_fnFiles (and_l_fnFiles (and_l_fnFiles cl2_fnFiles)))) (and_r_fnFiles (and_l_fnFiles cl2_fnFiles))) (and_r_fnFiles cl2_fnFiles)) (and_l_fnFiles (and_l_fnFiles (and_l_fnFiles (and_l_fnFiles (and_l_fnFiles (and_l_fnFiles (and_l_fnFiles cl3_fnFiles)))))))) (and_r_fnFiles (and_l_fnFiles (and_l_fnFiles (and_l_fnFiles (and_l_fnFiles (and_l_fnFiles (and_l_fnFiles cl3_fnFiles)))))))) (and_r_fnFiles (and_l_fnFiles (and_l_fnFiles (and_l_fnFiles (and_l_fnFiles (and_l_fnFiles cl3_fnFiles))))))) (and_r_fnFiles (and_l_fnFiles (and_l_fnFiles (and_l_fnFiles (and_l_fnFiles cl3_fnFiles)))))) (and_r_fnFiles (and_l_fnFiles (and_l_fnFiles (and_l_fnFiles cl3_fnFiles))))) (and_r_fnFiles (and_l_fnFiles (and_l_fnFiles cl3_fnFiles)))) (and_r_fnFiles (and_l_fnFiles cl3_fnFiles))) (and_r_fnFiles cl3_fnFiles)

theorem said_Files : Rows.FnFilesSaid :=
  OpenClaim.holds_of_cond 13 Tryz.f13 rfl rfl rfl rfl rfl rfl rfl ⟨rfl, rfl, rfl, rfl, rfl⟩ rfl rfl rfl rfl rfl (by kernel_rfl) Tryz.func13 closed_fnFiles
    (of_decide_eq_true (by kernel_rfl)) (by unfold Func.isWrapper; first | (rw [if_pos (by decide +kernel)]; kernel_rfl) | (rw [if_neg (by decide +kernel)]; exact ⟨rfl, rfl⟩))
    (fun os started H enc _ F => by rw [OpenClaim.pre_eq_preRow]; exact lifted_Files os started H enc F)

theorem w_Files : Rows.fnFilesRow.wfByText (OpenSpec.ofChange Rows.fnFilesSpec) = true := by kernel_rfl
theorem m_Files : Tryz.pinned.checked.prog.mainIs = some (Rows.fnFilesCard.stood.harness.1, Rows.fnFilesCard.stood.harness.2.toList) := by kernel_rfl
theorem k_Files : true = Tryz.pinned.checked.prog.looks [] := by kernel_rfl
theorem plain_Files (f : FuncId) (fn : Func) (hf : Tryz.pinned.checked.prog.funcNamed "loop.example/g00974/laws.FnFiles" = some f) (hfn : Tryz.pinned.checked.prog.funcs[f]? = some fn) :
    true = Tryz.pinned.checked.prog.looks [] ∧ ∀ (j : Nat) t, fn.params[j]? = some t → Tryz.pinned.checked.prog.wantsStandIn t = false := by
  obtain rfl : f = 13 := Option.some.inj ((show Tryz.prog.funcNamed "loop.example/g00974/laws.FnFiles" = some 13 by kernel_rfl).symm.trans hf) |>.symm
  obtain rfl : fn = Tryz.f13 := (Option.some.inj (Tryz.func13.symm.trans hfn)).symm
  refine ⟨k_Files, fun j t ht => ?_⟩
  rw [Tryz.params13] at ht
  have hm := Array.mem_of_getElem? ht
  have hall : ∀ t ∈ (#[44] : Array TypeId), Tryz.prog.wantsStandIn t = false := by
    intro t ht
    simp only [List.mem_toArray, List.mem_cons, List.not_mem_nil, or_false] at ht
    rcases ht with rfl
    · exact (show Tryz.prog.wantsStandIn 44 = false by kernel_rfl)
  exact hall t hm

/-- The card. -/
theorem card_Files : Rows.FnFilesCardSaid :=
  Claim7.holds_tied_plain_at .later [] _ _ _ _ said_Files (fun _ h => by cases h) w_Files (fun _ h => by cases h) fnFiles_row_tie rfl ⟨rfl, rfl⟩ m_Files rfl plain_Files g_Files
end Go.Proofs.YtenfajgpdhgknaaGreatDoor
