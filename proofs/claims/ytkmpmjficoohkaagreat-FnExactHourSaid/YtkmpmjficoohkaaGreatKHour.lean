/-
  laws.FnExactHour: the statement: for every input the law returns true, and the input reads as it did. Conditions: none.
-/
import Derived.Test.YtkmpmjficoohkaaGreatLHour
import Derived.Test.YtkmpmjficoohkaaGreatOpenN
import Derived.Test.YtkmpmjficoohkaaGreatRows
import Derived.WalkKit
import Derived.ChangeMaps5
import Derived.Deep.DeepWitnessRowRef
import Derived.Test.YtkmpmjficoohkaaGreatKHoura
import Derived.Test.YtkmpmjficoohkaaGreatKHourb
import Derived.Test.YtkmpmjficoohkaaGreatKHourc
set_option linter.unusedSimpArgs false
set_option linter.unusedVariables false
set_option linter.unnecessarySimpa false
namespace Go.Proofs.YtkmpmjficoohkaaGreat
open Go Go.RowKit Go.ChangeShapes Go.WideShapes Go.ChangeAt

theorem and_tt_fnExactHour {a b : Bool} (h1 : a = true) (h2 : b = true) : (a && b) = true := by rw [h1, h2]; rfl
theorem and_l_fnExactHour {a b : Bool} (h : (a && b) = true) : a = true := by cases a <;> simp_all
theorem and_r_fnExactHour {a b : Bool} (h : (a && b) = true) : b = true := by cases b <;> simp_all
set_option maxRecDepth 100000 in
theorem closed_fnExactHour : joinedFacts Tryz.pinned.checked.prog 3 Tryz.f3 (OpenSpec.ofChange Rows.fnExactHourSpec).bare Rows.fnExactHourRow = true := by
  unfold joinedFacts
  exact and_tt_fnExactHour (and_tt_fnExactHour (and_tt_fnExactHour (and_tt_fnExactHour (and_tt_fnExactHour (and_tt_fnExactHour (and_tt_fnExactHour (and_tt_fnExactHour (and_tt_fnExactHour (and_tt_fnExactHour (and_tt_fnExactHour (and_tt_fnExactHour (and_tt_fnExactHour (and_tt_fnExactHour (and_tt_fnExactHour (and_tt_fnExactHour (and_tt_fnExactHour (and_tt_fnExactHour (and_tt_fnExactHour (and_tt_fnExactHour (and_tt_fnExactHour (and_tt_fnExactHour (and_tt_fnExactHour (cl0_fnExactHour) (and_l_fnExactHour (and_l_fnExactHour (and_l_fnExactHour (and_l_fnExactHour (and_l_fnExactHour (and_l_fnExactHour (and_l_fnExactHour cl1_fnExactHour)))))))) (and_r_fnExactHour (and_l_fnExactHour (and_l_fnExactHour (and_l_fnExactHour (and_l_fnExactHour (and_l_fnExactHour (and_l_fnExactHour cl1_fnExactHour)))))))) (and_r_fnExactHour (and_l_fnExactHour (and_l_fnExactHour (and_l_fnExactHour (and_l_fnExactHour (and_l_fnExactHour cl1_fnExactHour))))))) (and_r_fnExactHour (and_l_fnExactHour (and_l_fnExactHour (and_l_fnExactHour (and_l_fnExactHour cl1_fnExactHour)))))) (and_r_fnExactHour (and_l_fnExactHour (and_l_fnExactHour (and_l_fnExactHour cl1_fnExactHour))))) (and_r_fnExactHour (and_l_fnExactHour (and_l_fnExactHour cl1_fnExactHour)))) (and_r_fnExactHour (and_l_fnExactHour cl1_fnExactHour))) (and_r_fnExactHour cl1_fnExactHour)) (and_l_fnExactHour (and_l_fnExactHour (and_l_fnExactHour (and_l_fnExactHour (and_l_fnExactHour (and_l_fnExactHour cl2_fnExactHour))))))) (and_r_fnExactHour (and_l_fnExactHour (and_l_fnExactHour (and_l_fnExactHour (and_l_fnExactHour (and_l_fnExactHour cl2_fnExactHour))))))) (and_r_fnExactHour (and_l_fnExactHour (and_l_fnExactHour (and_l_fnExactHour (and_l_fnExactHour cl2_fnExactHour)))))) (and_r_fnExactHour (and_l_fnExactHour (and_l_fnExactHour (and_l_fnExactHour cl2_fnExactHour))))) (and_r_fnExactHour (and_l_fnExactHour (and_l_fnExactHour cl2_fnExactHour)))) (and_r_fnExactHour (and_l_fnExactHour cl2_fnExactHour))) (and_r_fnExactHour cl2_fnExactHour)) (and_l_fnExactHour (and_l_fnExactHour (and_l_fnExactHour (and_l_fnExactHour (and_l_fnExactHour (and_l_fnExactHour (and_l_fnExactHour cl3_fnExactHour)))))))) (and_r_fnExactHour (and_l_fnExactHour (and_l_fnExactHour (and_l_fnExactHour (and_l_fnExactHour (and_l_fnExactHour (and_l_fnExactHour cl3_fnExactHour)))))))) (and_r_fnExactHour (and_l_fnExactHour (and_l_fnExactHour (and_l_fnExactHour (and_l_fnExactHour (and_l_fnExactHour cl3_fnExactHour))))))) (and_r_fnExactHour (and_l_fnExactHour (and_l_fnExactHour (and_l_fnExactHour (and_l_fnExactHour cl3_fnExactHour)))))) (and_r_fnExactHour (and_l_fnExactHour (and_l_fnExactHour (and_l_fnExactHour cl3_fnExactHour))))) (and_r_fnExactHour (and_l_fnExactHour (and_l_fnExactHour cl3_fnExactHour)))) (and_r_fnExactHour (and_l_fnExactHour cl3_fnExactHour))) (and_r_fnExactHour cl3_fnExactHour)

/-- The statement. -/
theorem said_Hour : Rows.FnExactHourSaid :=
  OpenClaim.holds_of_cond 3 Tryz.f3 rfl rfl rfl rfl rfl rfl rfl ⟨rfl, rfl, rfl, rfl, rfl⟩ rfl rfl rfl rfl rfl (by kernel_rfl) Tryz.func3 closed_fnExactHour
    (of_decide_eq_true (by kernel_rfl)) (by unfold Func.isWrapper; first | (rw [if_pos (by decide +kernel)]; kernel_rfl) | (rw [if_neg (by decide +kernel)]; exact ⟨rfl, rfl⟩))
    (fun os started H enc _ F => by rw [OpenClaim.pre_eq_preRow]; exact lifted_Hour os started H enc F)
end Go.Proofs.YtkmpmjficoohkaaGreat
