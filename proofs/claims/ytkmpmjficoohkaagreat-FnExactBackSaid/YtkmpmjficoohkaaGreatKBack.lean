/-
  laws.FnExactBack: the statement: for every input the law returns true, and the input reads as it did. Conditions: none.
-/
import Derived.Test.YtkmpmjficoohkaaGreatLBack
import Derived.Test.YtkmpmjficoohkaaGreatOpenN
import Derived.Test.YtkmpmjficoohkaaGreatRows
import Derived.WalkKit
import Derived.ChangeMaps5
import Derived.Deep.DeepWitnessRowRef
import Derived.Test.YtkmpmjficoohkaaGreatKBacka
import Derived.Test.YtkmpmjficoohkaaGreatKBackb
import Derived.Test.YtkmpmjficoohkaaGreatKBackc
set_option linter.unusedSimpArgs false
set_option linter.unusedVariables false
set_option linter.unnecessarySimpa false
namespace Go.Proofs.YtkmpmjficoohkaaGreat
open Go Go.RowKit Go.ChangeShapes Go.WideShapes Go.ChangeAt

theorem and_tt_fnExactBack {a b : Bool} (h1 : a = true) (h2 : b = true) : (a && b) = true := by rw [h1, h2]; rfl
theorem and_l_fnExactBack {a b : Bool} (h : (a && b) = true) : a = true := by cases a <;> simp_all
theorem and_r_fnExactBack {a b : Bool} (h : (a && b) = true) : b = true := by cases b <;> simp_all
set_option maxRecDepth 100000 in
theorem closed_fnExactBack : joinedFacts Tryz.pinned.checked.prog 7 Tryz.f7 (OpenSpec.ofChange Rows.fnExactBackSpec).bare Rows.fnExactBackRow = true := by
  unfold joinedFacts
  exact and_tt_fnExactBack (and_tt_fnExactBack (and_tt_fnExactBack (and_tt_fnExactBack (and_tt_fnExactBack (and_tt_fnExactBack (and_tt_fnExactBack (and_tt_fnExactBack (and_tt_fnExactBack (and_tt_fnExactBack (and_tt_fnExactBack (and_tt_fnExactBack (and_tt_fnExactBack (and_tt_fnExactBack (and_tt_fnExactBack (and_tt_fnExactBack (and_tt_fnExactBack (and_tt_fnExactBack (and_tt_fnExactBack (and_tt_fnExactBack (and_tt_fnExactBack (and_tt_fnExactBack (and_tt_fnExactBack (cl0_fnExactBack) (and_l_fnExactBack (and_l_fnExactBack (and_l_fnExactBack (and_l_fnExactBack (and_l_fnExactBack (and_l_fnExactBack (and_l_fnExactBack cl1_fnExactBack)))))))) (and_r_fnExactBack (and_l_fnExactBack (and_l_fnExactBack (and_l_fnExactBack (and_l_fnExactBack (and_l_fnExactBack (and_l_fnExactBack cl1_fnExactBack)))))))) (and_r_fnExactBack (and_l_fnExactBack (and_l_fnExactBack (and_l_fnExactBack (and_l_fnExactBack (and_l_fnExactBack cl1_fnExactBack))))))) (and_r_fnExactBack (and_l_fnExactBack (and_l_fnExactBack (and_l_fnExactBack (and_l_fnExactBack cl1_fnExactBack)))))) (and_r_fnExactBack (and_l_fnExactBack (and_l_fnExactBack (and_l_fnExactBack cl1_fnExactBack))))) (and_r_fnExactBack (and_l_fnExactBack (and_l_fnExactBack cl1_fnExactBack)))) (and_r_fnExactBack (and_l_fnExactBack cl1_fnExactBack))) (and_r_fnExactBack cl1_fnExactBack)) (and_l_fnExactBack (and_l_fnExactBack (and_l_fnExactBack (and_l_fnExactBack (and_l_fnExactBack (and_l_fnExactBack cl2_fnExactBack))))))) (and_r_fnExactBack (and_l_fnExactBack (and_l_fnExactBack (and_l_fnExactBack (and_l_fnExactBack (and_l_fnExactBack cl2_fnExactBack))))))) (and_r_fnExactBack (and_l_fnExactBack (and_l_fnExactBack (and_l_fnExactBack (and_l_fnExactBack cl2_fnExactBack)))))) (and_r_fnExactBack (and_l_fnExactBack (and_l_fnExactBack (and_l_fnExactBack cl2_fnExactBack))))) (and_r_fnExactBack (and_l_fnExactBack (and_l_fnExactBack cl2_fnExactBack)))) (and_r_fnExactBack (and_l_fnExactBack cl2_fnExactBack))) (and_r_fnExactBack cl2_fnExactBack)) (and_l_fnExactBack (and_l_fnExactBack (and_l_fnExactBack (and_l_fnExactBack (and_l_fnExactBack (and_l_fnExactBack (and_l_fnExactBack cl3_fnExactBack)))))))) (and_r_fnExactBack (and_l_fnExactBack (and_l_fnExactBack (and_l_fnExactBack (and_l_fnExactBack (and_l_fnExactBack (and_l_fnExactBack cl3_fnExactBack)))))))) (and_r_fnExactBack (and_l_fnExactBack (and_l_fnExactBack (and_l_fnExactBack (and_l_fnExactBack (and_l_fnExactBack cl3_fnExactBack))))))) (and_r_fnExactBack (and_l_fnExactBack (and_l_fnExactBack (and_l_fnExactBack (and_l_fnExactBack cl3_fnExactBack)))))) (and_r_fnExactBack (and_l_fnExactBack (and_l_fnExactBack (and_l_fnExactBack cl3_fnExactBack))))) (and_r_fnExactBack (and_l_fnExactBack (and_l_fnExactBack cl3_fnExactBack)))) (and_r_fnExactBack (and_l_fnExactBack cl3_fnExactBack))) (and_r_fnExactBack cl3_fnExactBack)

/-- The statement. -/
theorem said_Back : Rows.FnExactBackSaid :=
  OpenClaim.holds_of_cond 7 Tryz.f7 rfl rfl rfl rfl rfl rfl rfl ⟨rfl, rfl, rfl, rfl, rfl⟩ rfl rfl rfl rfl rfl (by kernel_rfl) Tryz.func7 closed_fnExactBack
    (of_decide_eq_true (by kernel_rfl)) (by unfold Func.isWrapper; first | (rw [if_pos (by decide +kernel)]; kernel_rfl) | (rw [if_neg (by decide +kernel)]; exact ⟨rfl, rfl⟩))
    (fun os started H enc _ F => by rw [OpenClaim.pre_eq_preRow]; exact lifted_Back os started H enc F)
end Go.Proofs.YtkmpmjficoohkaaGreat
