/-
  laws.FnMarks: the statement: for every input the law returns true, and the input reads as it did. Conditions: none.
-/
import Derived.Test.YtghfijncihbojaaGreatLMarks
import Derived.Test.YtghfijncihbojaaGreatOpenB
import Derived.Test.YtghfijncihbojaaGreatRows
import Derived.WalkKit
import Derived.ChangeMaps5
import Derived.Deep.DeepWitnessRowRef
import Derived.Test.YtghfijncihbojaaGreatKMarksa
import Derived.Test.YtghfijncihbojaaGreatKMarksb
import Derived.Test.YtghfijncihbojaaGreatKMarksc
set_option linter.unusedSimpArgs false
set_option linter.unusedVariables false
set_option linter.unnecessarySimpa false
namespace Go.Proofs.YtghfijncihbojaaGreat
open Go Go.RowKit Go.ChangeShapes Go.WideShapes Go.ChangeAt

theorem and_tt_fnMarks {a b : Bool} (h1 : a = true) (h2 : b = true) : (a && b) = true := by rw [h1, h2]; rfl
theorem and_l_fnMarks {a b : Bool} (h : (a && b) = true) : a = true := by cases a <;> simp_all
theorem and_r_fnMarks {a b : Bool} (h : (a && b) = true) : b = true := by cases b <;> simp_all
set_option maxRecDepth 100000 in
theorem closed_fnMarks : joinedFacts Tryz.pinned.checked.prog 3 Tryz.f3 (OpenSpec.ofChange Rows.fnMarksSpec).bare Rows.fnMarksRow = true := by
  unfold joinedFacts
  exact and_tt_fnMarks (and_tt_fnMarks (and_tt_fnMarks (and_tt_fnMarks (and_tt_fnMarks (and_tt_fnMarks (and_tt_fnMarks (and_tt_fnMarks (and_tt_fnMarks (and_tt_fnMarks (and_tt_fnMarks (and_tt_fnMarks (and_tt_fnMarks (and_tt_fnMarks (and_tt_fnMarks (and_tt_fnMarks (and_tt_fnMarks (and_tt_fnMarks (and_tt_fnMarks (and_tt_fnMarks (and_tt_fnMarks (and_tt_fnMarks (and_tt_fnMarks (cl0_fnMarks) (and_l_fnMarks (and_l_fnMarks (and_l_fnMarks (and_l_fnMarks (and_l_fnMarks (and_l_fnMarks (and_l_fnMarks cl1_fnMarks)))))))) (and_r_fnMarks (and_l_fnMarks (and_l_fnMarks (and_l_fnMarks (and_l_fnMarks (and_l_fnMarks (and_l_fnMarks cl1_fnMarks)))))))) (and_r_fnMarks (and_l_fnMarks (and_l_fnMarks (and_l_fnMarks (and_l_fnMarks (and_l_fnMarks cl1_fnMarks))))))) (and_r_fnMarks (and_l_fnMarks (and_l_fnMarks (and_l_fnMarks (and_l_fnMarks cl1_fnMarks)))))) (and_r_fnMarks (and_l_fnMarks (and_l_fnMarks (and_l_fnMarks cl1_fnMarks))))) (and_r_fnMarks (and_l_fnMarks (and_l_fnMarks cl1_fnMarks)))) (and_r_fnMarks (and_l_fnMarks cl1_fnMarks))) (and_r_fnMarks cl1_fnMarks)) (and_l_fnMarks (and_l_fnMarks (and_l_fnMarks (and_l_fnMarks (and_l_fnMarks (and_l_fnMarks cl2_fnMarks))))))) (and_r_fnMarks (and_l_fnMarks (and_l_fnMarks (and_l_fnMarks (and_l_fnMarks (and_l_fnMarks cl2_fnMarks))))))) (and_r_fnMarks (and_l_fnMarks (and_l_fnMarks (and_l_fnMarks (and_l_fnMarks cl2_fnMarks)))))) (and_r_fnMarks (and_l_fnMarks (and_l_fnMarks (and_l_fnMarks cl2_fnMarks))))) (and_r_fnMarks (and_l_fnMarks (and_l_fnMarks cl2_fnMarks)))) (and_r_fnMarks (and_l_fnMarks cl2_fnMarks))) (and_r_fnMarks cl2_fnMarks)) (and_l_fnMarks (and_l_fnMarks (and_l_fnMarks (and_l_fnMarks (and_l_fnMarks (and_l_fnMarks (and_l_fnMarks cl3_fnMarks)))))))) (and_r_fnMarks (and_l_fnMarks (and_l_fnMarks (and_l_fnMarks (and_l_fnMarks (and_l_fnMarks (and_l_fnMarks cl3_fnMarks)))))))) (and_r_fnMarks (and_l_fnMarks (and_l_fnMarks (and_l_fnMarks (and_l_fnMarks (and_l_fnMarks cl3_fnMarks))))))) (and_r_fnMarks (and_l_fnMarks (and_l_fnMarks (and_l_fnMarks (and_l_fnMarks cl3_fnMarks)))))) (and_r_fnMarks (and_l_fnMarks (and_l_fnMarks (and_l_fnMarks cl3_fnMarks))))) (and_r_fnMarks (and_l_fnMarks (and_l_fnMarks cl3_fnMarks)))) (and_r_fnMarks (and_l_fnMarks cl3_fnMarks))) (and_r_fnMarks cl3_fnMarks)

/-- The statement. -/
theorem said_Marks : Rows.FnMarksSaid :=
  OpenClaim.holds_of_cond 3 Tryz.f3 rfl rfl rfl rfl rfl rfl rfl ⟨rfl, rfl, rfl, rfl, rfl⟩ rfl rfl rfl rfl rfl (by kernel_rfl) Tryz.func3 closed_fnMarks
    (of_decide_eq_true (by kernel_rfl)) (by unfold Func.isWrapper; first | (rw [if_pos (by decide +kernel)]; kernel_rfl) | (rw [if_neg (by decide +kernel)]; exact ⟨rfl, rfl⟩))
    (fun os started H enc _ F => by rw [OpenClaim.pre_eq_preRow]; exact lifted_Marks os started H enc F)
end Go.Proofs.YtghfijncihbojaaGreat
