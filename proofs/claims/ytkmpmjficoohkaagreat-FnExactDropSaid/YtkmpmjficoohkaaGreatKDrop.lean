/-
  laws.FnExactDrop: the statement: for every input the law returns true, and the input reads as it did. Conditions: none.
-/
import Derived.Test.YtkmpmjficoohkaaGreatLDrop
import Derived.Test.YtkmpmjficoohkaaGreatOpenN
import Derived.Test.YtkmpmjficoohkaaGreatRows
import Derived.WalkKit
import Derived.ChangeMaps5
import Derived.Deep.DeepWitnessRowRef
import Derived.Test.YtkmpmjficoohkaaGreatKDropa
import Derived.Test.YtkmpmjficoohkaaGreatKDropb
import Derived.Test.YtkmpmjficoohkaaGreatKDropc
set_option linter.unusedSimpArgs false
set_option linter.unusedVariables false
set_option linter.unnecessarySimpa false
namespace Go.Proofs.YtkmpmjficoohkaaGreat
open Go Go.RowKit Go.ChangeShapes Go.WideShapes Go.ChangeAt

theorem and_tt_fnExactDrop {a b : Bool} (h1 : a = true) (h2 : b = true) : (a && b) = true := by rw [h1, h2]; rfl
theorem and_l_fnExactDrop {a b : Bool} (h : (a && b) = true) : a = true := by cases a <;> simp_all
theorem and_r_fnExactDrop {a b : Bool} (h : (a && b) = true) : b = true := by cases b <;> simp_all
set_option maxRecDepth 100000 in
theorem closed_fnExactDrop : joinedFacts Tryz.pinned.checked.prog 5 Tryz.f5 (OpenSpec.ofChange Rows.fnExactDropSpec).bare Rows.fnExactDropRow = true := by
  unfold joinedFacts
  exact and_tt_fnExactDrop (and_tt_fnExactDrop (and_tt_fnExactDrop (and_tt_fnExactDrop (and_tt_fnExactDrop (and_tt_fnExactDrop (and_tt_fnExactDrop (and_tt_fnExactDrop (and_tt_fnExactDrop (and_tt_fnExactDrop (and_tt_fnExactDrop (and_tt_fnExactDrop (and_tt_fnExactDrop (and_tt_fnExactDrop (and_tt_fnExactDrop (and_tt_fnExactDrop (and_tt_fnExactDrop (and_tt_fnExactDrop (and_tt_fnExactDrop (and_tt_fnExactDrop (and_tt_fnExactDrop (and_tt_fnExactDrop (and_tt_fnExactDrop (cl0_fnExactDrop) (and_l_fnExactDrop (and_l_fnExactDrop (and_l_fnExactDrop (and_l_fnExactDrop (and_l_fnExactDrop (and_l_fnExactDrop (and_l_fnExactDrop cl1_fnExactDrop)))))))) (and_r_fnExactDrop (and_l_fnExactDrop (and_l_fnExactDrop (and_l_fnExactDrop (and_l_fnExactDrop (and_l_fnExactDrop (and_l_fnExactDrop cl1_fnExactDrop)))))))) (and_r_fnExactDrop (and_l_fnExactDrop (and_l_fnExactDrop (and_l_fnExactDrop (and_l_fnExactDrop (and_l_fnExactDrop cl1_fnExactDrop))))))) (and_r_fnExactDrop (and_l_fnExactDrop (and_l_fnExactDrop (and_l_fnExactDrop (and_l_fnExactDrop cl1_fnExactDrop)))))) (and_r_fnExactDrop (and_l_fnExactDrop (and_l_fnExactDrop (and_l_fnExactDrop cl1_fnExactDrop))))) (and_r_fnExactDrop (and_l_fnExactDrop (and_l_fnExactDrop cl1_fnExactDrop)))) (and_r_fnExactDrop (and_l_fnExactDrop cl1_fnExactDrop))) (and_r_fnExactDrop cl1_fnExactDrop)) (and_l_fnExactDrop (and_l_fnExactDrop (and_l_fnExactDrop (and_l_fnExactDrop (and_l_fnExactDrop (and_l_fnExactDrop cl2_fnExactDrop))))))) (and_r_fnExactDrop (and_l_fnExactDrop (and_l_fnExactDrop (and_l_fnExactDrop (and_l_fnExactDrop (and_l_fnExactDrop cl2_fnExactDrop))))))) (and_r_fnExactDrop (and_l_fnExactDrop (and_l_fnExactDrop (and_l_fnExactDrop (and_l_fnExactDrop cl2_fnExactDrop)))))) (and_r_fnExactDrop (and_l_fnExactDrop (and_l_fnExactDrop (and_l_fnExactDrop cl2_fnExactDrop))))) (and_r_fnExactDrop (and_l_fnExactDrop (and_l_fnExactDrop cl2_fnExactDrop)))) (and_r_fnExactDrop (and_l_fnExactDrop cl2_fnExactDrop))) (and_r_fnExactDrop cl2_fnExactDrop)) (and_l_fnExactDrop (and_l_fnExactDrop (and_l_fnExactDrop (and_l_fnExactDrop (and_l_fnExactDrop (and_l_fnExactDrop (and_l_fnExactDrop cl3_fnExactDrop)))))))) (and_r_fnExactDrop (and_l_fnExactDrop (and_l_fnExactDrop (and_l_fnExactDrop (and_l_fnExactDrop (and_l_fnExactDrop (and_l_fnExactDrop cl3_fnExactDrop)))))))) (and_r_fnExactDrop (and_l_fnExactDrop (and_l_fnExactDrop (and_l_fnExactDrop (and_l_fnExactDrop (and_l_fnExactDrop cl3_fnExactDrop))))))) (and_r_fnExactDrop (and_l_fnExactDrop (and_l_fnExactDrop (and_l_fnExactDrop (and_l_fnExactDrop cl3_fnExactDrop)))))) (and_r_fnExactDrop (and_l_fnExactDrop (and_l_fnExactDrop (and_l_fnExactDrop cl3_fnExactDrop))))) (and_r_fnExactDrop (and_l_fnExactDrop (and_l_fnExactDrop cl3_fnExactDrop)))) (and_r_fnExactDrop (and_l_fnExactDrop cl3_fnExactDrop))) (and_r_fnExactDrop cl3_fnExactDrop)

/-- The statement. -/
theorem said_Drop : Rows.FnExactDropSaid :=
  OpenClaim.holds_of_cond 5 Tryz.f5 rfl rfl rfl rfl rfl rfl rfl ⟨rfl, rfl, rfl, rfl, rfl⟩ rfl rfl rfl rfl rfl (by kernel_rfl) Tryz.func5 closed_fnExactDrop
    (of_decide_eq_true (by kernel_rfl)) (by unfold Func.isWrapper; first | (rw [if_pos (by decide +kernel)]; kernel_rfl) | (rw [if_neg (by decide +kernel)]; exact ⟨rfl, rfl⟩))
    (fun os started H enc _ F => by rw [OpenClaim.pre_eq_preRow]; exact lifted_Drop os started H enc F)
end Go.Proofs.YtkmpmjficoohkaaGreat
