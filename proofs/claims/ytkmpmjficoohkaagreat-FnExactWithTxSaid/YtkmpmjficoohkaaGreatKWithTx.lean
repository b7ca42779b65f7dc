/-
  laws.FnExactWithTx: the statement: for every input the law returns true, and the input reads as it did. Conditions: none.
-/
import Derived.Test.YtkmpmjficoohkaaGreatLWithTx
import Derived.Test.YtkmpmjficoohkaaGreatOpenN
import Derived.Test.YtkmpmjficoohkaaGreatRows
import Derived.WalkKit
import Derived.ChangeMaps5
import Derived.Deep.DeepWitnessRowRef
import Derived.Test.YtkmpmjficoohkaaGreatKWithTxa
import Derived.Test.YtkmpmjficoohkaaGreatKWithTxb
import Derived.Test.YtkmpmjficoohkaaGreatKWithTxc
set_option linter.unusedSimpArgs false
set_option linter.unusedVariables false
set_option linter.unnecessarySimpa false
namespace Go.Proofs.YtkmpmjficoohkaaGreat
open Go Go.RowKit Go.ChangeShapes Go.WideShapes Go.ChangeAt

theorem and_tt_fnExactWithTx {a b : Bool} (h1 : a = true) (h2 : b = true) : (a && b) = true := by rw [h1, h2]; rfl
theorem and_l_fnExactWithTx {a b : Bool} (h : (a && b) = true) : a = true := by cases a <;> simp_all
theorem and_r_fnExactWithTx {a b : Bool} (h : (a && b) = true) : b = true := by cases b <;> simp_all
set_option maxRecDepth 100000 in
theorem closed_fnExactWithTx : joinedFacts Tryz.pinned.checked.prog 4 Tryz.f4 (OpenSpec.ofChange Rows.fnExactWithTxSpec).bare Rows.fnExactWithTxRow = true := by
  unfold joinedFacts
  exact and_tt_fnExactWithTx (and_tt_fnExactWithTx (and_tt_fnExactWithTx (and_tt_fnExactWithTx (and_tt_fnExactWithTx (and_tt_fnExactWithTx (and_tt_fnExactWithTx (and_tt_fnExactWithTx (and_tt_fnExactWithTx (and_tt_fnExactWithTx (and_tt_fnExactWithTx (and_tt_fnExactWithTx (and_tt_fnExactWithTx (and_tt_fnExactWithTx (and_tt_fnExactWithTx (and_tt_fnExactWithTx (and_tt_fnExactWithTx (and_tt_fnExactWithTx (and_tt_fnExactWithTx (and_tt_fnExactWithTx (and_tt_fnExactWithTx (and_tt_fnExactWithTx (and_tt_fnExactWithTx (cl0_fnExactWithTx) (and_l_fnExactWithTx (and_l_fnExactWithTx (and_l_fnExactWithTx (and_l_fnExactWithTx (and_l_fnExactWithTx (and_l_fnExactWithTx (and_l_fnExactWithTx cl1_fnExactWithTx)))))))) (and_r_fnExactWithTx (and_l_fnExactWithTx (and_l_fnExactWithTx (and_l_fnExactWithTx (and_l_fnExactWithTx (and_l_fnExactWithTx (and_l_fnExactWithTx cl1_fnExactWithTx)))))))) (and_r_fnExactWithTx (and_l_fnExactWithTx (and_l_fnExactWithTx (and_l_fnExactWithTx (and_l_fnExactWithTx (and_l_fnExactWithTx cl1_fnExactWithTx))))))) (and_r_fnExactWithTx (and_l_fnExactWithTx (and_l_fnExactWithTx (and_l_fnExactWithTx (and_l_fnExactWithTx cl1_fnExactWithTx)))))) (and_r_fnExactWithTx (and_l_fnExactWithTx (and_l_fnExactWithTx (and_l_fnExactWithTx cl1_fnExactWithTx))))) (and_r_fnExactWithTx (and_l_fnExactWithTx (and_l_fnExactWithTx cl1_fnExactWithTx)))) (and_r_fnExactWithTx (and_l_fnExactWithTx cl1_fnExactWithTx))) (and_r_fnExactWithTx cl1_fnExactWithTx)) (and_l_fnExactWithTx (and_l_fnExactWithTx (and_l_fnExactWithTx (and_l_fnExactWithTx (and_l_fnExactWithTx (and_l_fnExactWithTx cl2_fnExactWithTx))))))) (and_r_fnExactWithTx (and_l_fnExactWithTx (and_l_fnExactWithTx (and_l_fnExactWithTx (and_l_fnExactWithTx (and_l_fnExactWithTx cl2_fnExactWithTx))))))) (and_r_fnExactWithTx (and_l_fnExactWithTx (and_l_fnExactWithTx (and_l_fnExactWithTx (and_l_fnExactWithTx cl2_fnExactWithTx)))))) (and_r_fnExactWithTx (and_l_fnExactWithTx (and_l_fnExactWithTx (and_l_fnExactWithTx cl2_fnExactWithTx))))) (and_r_fnExactWithTx (and_l_fnExactWithTx (and_l_fnExactWithTx cl2_fnExactWithTx)))) (and_r_fnExactWithTx (and_l_fnExactWithTx cl2_fnExactWithTx))) (and_r_fnExactWithTx cl2_fnExactWithTx)) (and_l_fnExactWithTx (and_l_fnExactWithTx (and_l_fnExactWithTx (and_l_fnExactWithTx (and_l_fnExactWithTx (and_l_fnExactWithTx (and_l_fnExactWithTx cl3_fnExactWithTx)))))))) (and_r_fnExactWithTx (and_l_fnExactWithTx (and_l_fnExactWithTx (and_l_fnExactWithTx (and_l_fnExactWithTx (and_l_fnExactWithTx (and_l_fnExactWithTx cl3_fnExactWithTx)))))))) (and_r_fnExactWithTx (and_l_fnExactWithTx (and_l_fnExactWithTx (and_l_fnExactWithTx (and_l_fnExactWithTx (and_l_fnExactWithTx cl3_fnExactWithTx))))))) (and_r_fnExactWithTx (and_l_fnExactWithTx (and_l_fnExactWithTx (and_l_fnExactWithTx (and_l_fnExactWithTx cl3_fnExactWithTx)))))) (and_r_fnExactWithTx (and_l_fnExactWithTx (and_l_fnExactWithTx (and_l_fnExactWithTx cl3_fnExactWithTx))))) (and_r_fnExactWithTx (and_l_fnExactWithTx (and_l_fnExactWithTx cl3_fnExactWithTx)))) (and_r_fnExactWithTx (and_l_fnExactWithTx cl3_fnExactWithTx))) (and_r_fnExactWithTx cl3_fnExactWithTx)

/-- The statement. -/
theorem said_WithTx : Rows.FnExactWithTxSaid :=
  OpenClaim.holds_of_cond 4 Tryz.f4 rfl rfl rfl rfl rfl rfl rfl ⟨rfl, rfl, rfl, rfl, rfl⟩ rfl rfl rfl rfl rfl (by kernel_rfl) Tryz.func4 closed_fnExactWithTx
    (of_decide_eq_true (by kernel_rfl)) (by unfold Func.isWrapper; first | (rw [if_pos (by decide +kernel)]; kernel_rfl) | (rw [if_neg (by decide +kernel)]; exact ⟨rfl, rfl⟩))
    (fun os started H enc _ F => by rw [OpenClaim.pre_eq_preRow]; exact lifted_WithTx os started H enc F)
end Go.Proofs.YtkmpmjficoohkaaGreat
