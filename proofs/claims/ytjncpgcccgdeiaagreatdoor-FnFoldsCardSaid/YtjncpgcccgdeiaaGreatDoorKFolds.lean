/-
  laws.FnExactFolds: the statement and its card: for every machine and every other argument the law returns true, and the arguments read as they did. Conditions: the package-level variables that the row lists hold what it lists.
-/
import Derived.Test.YtjncpgcccgdeiaaGreatDoorDatH
import Derived.Test.YtjncpgcccgdeiaaGreatDoorLFolds
import Derived.Test.YtjncpgcccgdeiaaGreatDoorOpenB
import Derived.Test.YtjncpgcccgdeiaaGreatDoorCards
import Derived.Test.YtjncpgcccgdeiaaGreatDoorTie
import Derived.ChangeMaps5
import Derived.Deep.DeepWitnessRowRef
import Derived.Test.YtjncpgcccgdeiaaGreatDoorKFoldsa
import Derived.Test.YtjncpgcccgdeiaaGreatDoorKFoldsb
import Derived.Test.YtjncpgcccgdeiaaGreatDoorKFoldsc
import Derived.Test.YtjncpgcccgdeiaaGreatDoorKFoldsd
set_option linter.unusedSimpArgs false
set_option linter.unusedVariables false
set_option linter.unnecessarySimpa false
namespace Go.Proofs.YtjncpgcccgdeiaaGreatDoor
open Go Go.RowKit Go.ChangeShapes Go.WideShapes Go.ChangeAt

theorem and_tt_fnFolds {a b : Bool} (h1 : a = true) (h2 : b = true) : (a && b) = true := by rw [h1, h2]; rfl
theorem and_l_fnFolds {a b : Bool} (h : (a && b) = true) : a = true := by cases a <;> simp_all
theorem and_r_fnFolds {a b : Bool} (h : (a && b) = true) : b = true := by cases b <;> simp_all
set_option maxRecDepth 100000 in
theorem closed_fnFolds : joinedFacts Tryz.pinned.checked.prog 8 Tryz.f8 (OpenSpec.ofChange Rows.fnFoldsSpec).bare Rows.fnFoldsRow = true := by
  unfold joinedFacts
  exact and_tt_fnFolds (and_tt_fnFolds (and_tt_fnFolds (and_tt_fnFolds (and_tt_fnFolds (and_tt_fnFolds (and_tt_fnFolds (and_tt_fnFolds (and_tt_fnFolds (and_tt_fnFolds (and_tt_fnFolds (and_tt_fnFolds (and_tt_fnFolds (and_tt_fnFolds (and_tt_fnFolds (and_tt_fnFolds (and_tt_fnFolds (and_tt_fnFolds (and_tt_fnFolds (and_tt_fnFolds (and_tt_fnFolds (and_tt_fnFolds (and_tt_fnFolds (cl0_fnFolds) (and_l_fnFolds (and_l_fnFolds (and_l_fnFolds (and_l_fnFolds (and_l_fnFolds (and_l_fnFolds (and_l_fnFolds cl1_fnFolds)))))))) (and_r_fnFolds (and_l_fnFolds (and_l_fnFolds (and_l_fnFolds (and_l_fnFolds (and_l_fnFolds (and_l_fnFolds cl1_fnFolds)))))))) (and_r_fnFolds (and_l_fnFolds (and_l_fnFolds (and_l_fnFolds (and_l_fnFolds (and_l_fnFolds cl1_fnFolds))))))) (and_r_fnFolds (and_l_fnFolds (and_l_fnFolds (and_l_fnFolds (and_l_fnFolds cl1_fnFolds)))))) (and_r_fnFolds (and_l_fnFolds (and_l_fnFolds (and_l_fnFolds cl1_fnFolds))))) (and_r_fnFolds (and_l_fnFolds (and_l_fnFolds cl1_fnFolds)))) (and_r_fnFolds (and_l_fnFolds cl1_fnFolds))) (and_r_fnFolds cl1_fnFolds)) (and_l_fnFolds (and_l_fnFolds (and_l_fnFolds (and_l_fnFolds (and_l_fnFolds (and_l_fnFolds cl2_fnFolds))))))) (and_r_fnFolds (and_l_fnFolds (and_l_fnFolds (and_l_fnFolds (and_l_fnFolds (and_l_fnFolds cl2_fnFolds))))))) (and_r_fnFolds (and_l_fnFolds (and_l_fnFolds (and_l_fnFolds (and_l_fnFolds cl2_fnFolds)))))) (and_r_fnFolds (and_l_fnFolds (and_l_fnFolds (and_l_fnFolds cl2_fnFolds))))) (and_r_fnFolds (and_l_fnFolds (and_l_fnFolds cl2_fnFolds)))) (and_r_fnFolds (and_l_fnFolds cl2_fnFolds))) (and_r_fnFolds cl2_fnFolds)) (and_l_fnFolds (and_l_fnFolds (and_l_fnFolds (and_l_fnFolds (and_l_fnFolds (and_l_fnFolds (and_l_fnFolds cl3_fnFolds)))))))) (and_r_fnFolds (and_l_fnFolds (and_l_fnFolds (and_l_fnFolds (and_l_fnFolds (and_l_fnFolds (and_l_fnFolds cl3_fnFolds)))))))) (and_r_fnFolds (and_l_fnFolds (and_l_fnFolds (and_l_fnFolds (and_l_fnFolds (and_l_fnFolds cl3_fnFolds))))))) (and_r_fnFolds (and_l_fnFolds (and_l_fnFolds (and_l_fnFolds (and_l_fnFolds cl3_fnFolds)))))) (and_r_fnFolds (and_l_fnFolds (and_l_fnFolds (and_l_fnFolds cl3_fnFolds))))) (and_r_fnFolds (and_l_fnFolds (and_l_fnFolds cl3_fnFolds)))) (and_r_fnFolds (and_l_fnFolds cl3_fnFolds))) (and_r_fnFolds cl3_fnFolds)

theorem said_Folds : Rows.FnFoldsSaid :=
  OpenClaim.holds_of_cond 8 Tryz.f8 rfl rfl rfl rfl rfl rfl rfl ⟨rfl, rfl, rfl, rfl, rfl⟩ rfl rfl rfl rfl rfl (by kernel_rfl) Tryz.func8 closed_fnFolds
    (of_decide_eq_true (by kernel_rfl)) (by unfold Func.isWrapper; first | (rw [if_pos (by decide +kernel)]; kernel_rfl) | (rw [if_neg (by decide +kernel)]; exact ⟨rfl, rfl⟩))
    (fun os started H enc _ F => by rw [OpenClaim.pre_eq_preRow]; exact lifted_Folds os started H enc F)

theorem w_Folds : Rows.fnFoldsRow.wfByText (OpenSpec.ofChange Rows.fnFoldsSpec) = true := by kernel_rfl
theorem m_Folds : Tryz.pinned.checked.prog.mainIs = some (Rows.fnFoldsCard.stood.harness.1, Rows.fnFoldsCard.stood.harness.2.toList) := by kernel_rfl
theorem k_Folds : true = Tryz.pinned.checked.prog.looks [] := by kernel_rfl
theorem plain_Folds (f : FuncId) (fn : Func) (hf : Tryz.pinned.checked.prog.funcNamed "loop.example/g00974/laws.FnFolds" = some f) (hfn : Tryz.pinned.checked.prog.funcs[f]? = some fn) :
    true = Tryz.pinned.checked.prog.looks [] ∧ ∀ (j : Nat) t, fn.params[j]? = some t → Tryz.pinned.checked.prog.wantsStandIn t = false := by
  obtain rfl : f = 8 := Option.some.inj ((show Tryz.prog.funcNamed "loop.example/g00974/laws.FnFolds" = some 8 by kernel_rfl).symm.trans hf) |>.symm
  obtain rfl : fn = Tryz.f8 := (Option.some.inj (Tryz.func8.symm.trans hfn)).symm
  refine ⟨k_Folds, fun j t ht => ?_⟩
  rw [Tryz.params8] at ht
  have hm := Array.mem_of_getElem? ht
  have hall : ∀ t ∈ (#[39] : Array TypeId), Tryz.prog.wantsStandIn t = false := by
    intro t ht
    simp only [List.mem_toArray, List.mem_cons, List.not_mem_nil, or_false] at ht
    rcases ht with rfl
    · exact (show Tryz.prog.wantsStandIn 39 = false by kernel_rfl)
  exact hall t hm

/-- The card. -/
theorem card_Folds : Rows.FnFoldsCardSaid :=
  Claim7.holds_tied_plain_at .later [] _ _ _ _ said_Folds (fun _ h => by cases h) w_Folds (fun _ h => by cases h) fnFolds_row_tie rfl ⟨rfl, rfl⟩ m_Folds rfl plain_Folds g_Folds
end Go.Proofs.YtjncpgcccgdeiaaGreatDoor
