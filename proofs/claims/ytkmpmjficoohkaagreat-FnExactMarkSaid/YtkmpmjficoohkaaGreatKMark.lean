/-
  laws.FnExactMark: the statement: for every input the law returns true, and the input reads as it did. Conditions: none.
-/
import Derived.Test.YtkmpmjficoohkaaGreatLMark
import Derived.Test.YtkmpmjficoohkaaGreatOpenN
import Derived.Test.YtkmpmjficoohkaaGreatRows
import Derived.WalkKit
import Derived.ChangeMaps5
import Derived.Deep.DeepWitnessRowRef
import Derived.Test.YtkmpmjficoohkaaGreatKMarka
import Derived.Test.YtkmpmjficoohkaaGreatKMarkb
import Derived.Test.YtkmpmjficoohkaaGreatKMarkc
set_option linter.unusedSimpArgs false
set_option linter.unusedVariables false
set_option linter.unnecessarySimpa false
namespace Go.Proofs.YtkmpmjficoohkaaGreat
open Go Go.RowKit Go.ChangeShapes Go.WideShapes Go.ChangeAt

theorem and_tt_fnExactMark {a b : Bool} (h1 : a = true) (h2 : b = true) : (a && b) = true := by rw [h1, h2]; rfl
theorem and_l_fnExactMark {a b : Bool} (h : (a && b) = true) : a = true := by cases a <;> simp_all
theorem and_r_fnExactMark {a b : Bool} (h : (a && b) = true) : b = true := by cases b <;> simp_all
set_option maxRecDepth 100000 in
theorem closed_fnExactMark : joinedFacts Tryz.pinned.checked.prog 6 Tryz.f6 (OpenSpec.ofChange Rows.fnExactMarkSpec).bare Rows.fnExactMarkRow = true := by
  unfold joinedFacts
  exact and_tt_fnExactMark (and_tt_fnExactMark (and_tt_fnExactMark (and_tt_fnExactMark (and_tt_fnExactMark (and_tt_fnExactMark (and_tt_fnExactMark (and_tt_fnExactMark (and_tt_fnExactMark (and_tt_fnExactMark (and_tt_fnExactMark (and_tt_fnExactMark (and_tt_fnExactMark (and_tt_fnExactMark (and_tt_fnExactMark (and_tt_fnExactMark (and_tt_fnExactMark (and_tt_fnExactMark (and_tt_fnExactMark (and_tt_fnExactMark (and_tt_fnExactMark (and_tt_fnExactMark (and_tt_fnExactMark (cl0_fnExactMark) (and_l_fnExactMark (and_l_fnExactMark (and_l_fnExactMark (and_l_fnExactMark (and_l_fnExactMark (and_l_fnExactMark (and_l_fnExactMark cl1_fnExactMark)))))))) (and_r_fnExactMark (and_l_fnExactMark (and_l_fnExactMark (and_l_fnExactMark (and_l_fnExactMark (and_l_fnExactMark (and_l_fnExactMark cl1_fnExactMark)))))))) (and_r_fnExactMark (and_l_fnExactMark (and_l_fnExactMark (and_l_fnExactMark (and_l_fnExactMark (and_l_fnExactMark cl1_fnExactMark))))))) (and_r_fnExactMark (and_l_fnExactMark (and_l_fnExactMark (and_l_fnExactMark (and_l_fnExactMark cl1_fnExactMark)))))) (and_r_fnExactMark (and_l_fnExactMark (and_l_fnExactMark (and_l_fnExactMark cl1_fnExactMark))))) (and_r_fnExactMark (and_l_fnExactMark (and_l_fnExactMark cl1_fnExactMark)))) (and_r_fnExactMark (and_l_fnExactMark cl1_fnExactMark))) (and_r_fnExactMark cl1_fnExactMark)) (and_l_fnExactMark (and_l_fnExactMark (and_l_fnExactMark (and_l_fnExactMark (and_l_fnExactMark (and_l_fnExactMark cl2_fnExactMark))))))) (and_r_fnExactMark (and_l_fnExactMark (and_l_fnExactMark (and_l_fnExactMark (and_l_fnExactMark (and_l_fnExactMark cl2_fnExactMark))))))) (and_r_fnExactMark (and_l_fnExactMark (and_l_fnExactMark (and_l_fnExactMark (and_l_fnExactMark cl2_fnExactMark)))))) (and_r_fnExactMark (and_l_fnExactMark (and_l_fnExactMark (and_l_fnExactMark cl2_fnExactMark))))) (and_r_fnExactMark (and_l_fnExactMark (and_l_fnExactMark cl2_fnExactMark)))) (and_r_fnExactMark (and_l_fnExactMark cl2_fnExactMark))) (and_r_fnExactMark cl2_fnExactMark)) (and_l_fnExactMark (and_l_fnExactMark (and_l_fnExactMark (and_l_fnExactMark (and_l_fnExactMark (and_l_fnExactMark (and_l_fnExactMark cl3_fnExactMark)))))))) (and_r_fnExactMark (and_l_fnExactMark (and_l_fnExactMark (and_l_fnExactMark (and_l_fnExactMark (and_l_fnExactMark (and_l_fnExactMark cl3_fnExactMark)))))))) (and_r_fnExactMark (and_l_fnExactMark (and_l_fnExactMark (and_l_fnExactMark (and_l_fnExactMark (and_l_fnExactMark cl3_fnExactMark))))))) (and_r_fnExactMark (and_l_fnExactMark (and_l_fnExactMark (and_l_fnExactMark (and_l_fnExactMark cl3_fnExactMark)))))) (and_r_fnExactMark (and_l_fnExactMark (and_l_fnExactMark (and_l_fnExactMark cl3_fnExactMark))))) (and_r_fnExactMark (and_l_fnExactMark (and_l_fnExactMark cl3_fnExactMark)))) (and_r_fnExactMark (and_l_fnExactMark cl3_fnExactMark))) (and_r_fnExactMark cl3_fnExactMark)

/-- The statement. -/
theorem said_Mark : Rows.FnExactMarkSaid :=
  OpenClaim.holds_of_cond 6 Tryz.f6 rfl rfl rfl rfl rfl rfl rfl ⟨rfl, rfl, rfl, rfl, rfl⟩ rfl rfl rfl rfl rfl (by kernel_rfl) Tryz.func6 closed_fnExactMark
    (of_decide_eq_true (by kernel_rfl)) (by unfold Func.isWrapper; first | (rw [if_pos (by decide +kernel)]; kernel_rfl) | (rw [if_neg (by decide +kernel)]; exact ⟨rfl, rfl⟩))
    (fun os started H enc _ F => by rw [OpenClaim.pre_eq_preRow]; exact lifted_Mark os started H enc F)
end Go.Proofs.YtkmpmjficoohkaaGreat
