/-
  laws.FnExactFoldBegin: the statement and its card: for every machine and every other argument the law returns true, and the arguments read as they did. Conditions: the package-level variables that the row lists hold what it lists.
-/
import Derived.Test.YtjncpgcccgdeiaaGreatDoorDatM
import Derived.Test.YtjncpgcccgdeiaaGreatDoorLFoldBegin
import Derived.Test.YtjncpgcccgdeiaaGreatDoorOpenN
import Derived.Test.YtjncpgcccgdeiaaGreatDoorCards
import Derived.Test.YtjncpgcccgdeiaaGreatDoorTie
import Derived.ChangeMaps5
import Derived.Deep.DeepWitnessRowRef
import Derived.Test.YtjncpgcccgdeiaaGreatDoorKFoldBegina
import Derived.Test.YtjncpgcccgdeiaaGreatDoorKFoldBeginb
import Derived.Test.YtjncpgcccgdeiaaGreatDoorKFoldBeginc
import Derived.Test.YtjncpgcccgdeiaaGreatDoorKFoldBegind
set_option linter.unusedSimpArgs false
set_option linter.unusedVariables false
set_option linter.unnecessarySimpa false
namespace Go.Proofs.YtjncpgcccgdeiaaGreatDoor
open Go Go.RowKit Go.ChangeShapes Go.WideShapes Go.ChangeAt

theorem and_tt_fnExactFoldBegin {a b : Bool} (h1 : a = true) (h2 : b = true) : (a && b) = true := by rw [h1, h2]; rfl
theorem and_l_fnExactFoldBegin {a b : Bool} (h : (a && b) = true) : a = true := by cases a <;> simp_all
theorem and_r_fnExactFoldBegin {a b : Bool} (h : (a && b) = true) : b = true := by cases b <;> simp_all
set_option maxRecDepth 100000 in
theorem closed_fnExactFoldBegin : joinedFacts Tryz.pinned.checked.prog 5 Tryz.f5 (OpenSpec.ofChange Rows.fnExactFoldBeginSpec).bare Rows.fnExactFoldBeginRow = true := by
  unfold joinedFacts
  exact and_tt_fnExactFoldBegin (and_tt_fnExactFoldBegin (and_tt_fnExactFoldBegin (and_tt_fnExactFoldBegin (and_tt_fnExactFoldBegin (and_tt_fnExactFoldBegin (and_tt_fnExactFoldBegin (and_tt_fnExactFoldBegin (and_tt_fnExactFoldBegin (and_tt_fnExactFoldBegin (and_tt_fnExactFoldBegin (and_tt_fnExactFoldBegin (and_tt_fnExactFoldBegin (and_tt_fnExactFoldBegin (and_tt_fnExactFoldBegin (and_tt_fnExactFoldBegin (and_tt_fnExactFoldBegin (and_tt_fnExactFoldBegin (and_tt_fnExactFoldBegin (and_tt_fnExactFoldBegin (and_tt_fnExactFoldBegin (and_tt_fnExactFoldBegin (and_tt_fnExactFoldBegin (cl0_fnExactFoldBegin) (and_l_fnExactFoldBegin (and_l_fnExactFoldBegin (and_l_fnExactFoldBegin (and_l_fnExactFoldBegin (and_l_fnExactFoldBegin (and_l_fnExactFoldBegin (and_l_fnExactFoldBegin cl1_fnExactFoldBegin)))))))) (and_r_fnExactFoldBegin (and_l_fnExactFoldBegin (and_l_fnExactFoldBegin (and_l_fnExactFoldBegin (and_l_fnExactFoldBegin (and_l_fnExactFoldBegin (and_l_fnExactFoldBegin cl1_fnExactFoldBegin)))))))) (and_r_fnExactFoldBegin (and_l_fnExactFoldBegin (and_l_fnExactFoldBegin (and_l_fnExactFoldBegin (and_l_fnExactFoldBegin (and_l_fnExactFoldBegin cl1_fnExactFoldBegin))))))) (and_r_fnExactFoldBegin (and_l_fnExactFoldBegin (and_l_fnExactFoldBegin (and_l_fnExactFoldBegin (and_l_fnExactFoldBegin cl1_fnExactFoldBegin)))))) (and_r_fnExactFoldBegin (and_l_fnExactFoldBegin (and_l_fnExactFoldBegin (and_l_fnExactFoldBegin cl1_fnExactFoldBegin))))) (and_r_fnExactFoldBegin (and_l_fnExactFoldBegin (and_l_fnExactFoldBegin cl1_fnExactFoldBegin)))) (and_r_fnExactFoldBegin (and_l_fnExactFoldBegin cl1_fnExactFoldBegin))) (and_r_fnExactFoldBegin cl1_fnExactFoldBegin)) (and_l_fnExactFoldBegin (and_l_fnExactFoldBegin (and_l_fnExactFoldBegin (and_l_fnExactFoldBegin (and_l_fnExactFoldBegin (and_l_fnExactFoldBegin cl2_fnExactFoldBegin))))))) (and_r_fnExactFoldBegin (and_l_fnExactFoldBegin (and_l_fnExactFoldBegin (and_l_fnExactFoldBegin (and_l_fnExactFoldBegin (and_l_fnExactFoldBegin cl2_fnExactFoldBegin))))))) (and_r_fnExactFoldBegin (and_l_fnExactFoldBegin (and_l_fnExactFoldBegin (and_l_fnExactFoldBegin (and_l_fnExactFoldBegin cl2_fnExactFoldBegin)))))) (and_r_fnExactFoldBegin (and_l_fnExactFoldBegin (and_l_fnExactFoldBegin (and_l_fnExactFoldBegin cl2_fnExactFoldBegin))))) (and_r_fnExactFoldBegin (and_l_fnExactFoldBegin (and_l_fnExactFoldBegin cl2_fnExactFoldBegin)))) (and_r_fnExactFoldBegin (and_l_fnExactFoldBegin cl2_fnExactFoldBegin))) (and_r_fnExactFoldBegin cl2_fnExactFoldBegin)) (and_l_fnExactFoldBegin (and_l_fnExactFoldBegin (and_l_fnExactFoldBegin (and_l_fnExactFoldBegin (and_l_fnExactFoldBegin (and_l_fnExactFoldBegin (and_l_fnExactFoldBegin cl3_fnExactFoldBegin)))))))) (and_r_fnExactFoldBegin (and_l_fnExactFoldBegin (and_l_fnExactFoldBegin (and_l_fnExactFoldBegin (and_l_fnExactFoldBegin (and_l_fnExactFoldBegin (and_l_fnExactFoldBegin cl3_fnExactFoldBegin)))))))) (and_r_fnExactFoldBegin (and_l_fnExactFoldBegin (and_l_fnExactFoldBegin (and_l_fnExactFoldBegin (and_l_fnExactFoldBegin (and_l_fnExactFoldBegin cl3_fnExactFoldBegin))))))) (and_r_fnExactFoldBegin (and_l_fnExactFoldBegin (and_l_fnExactFoldBegin (and_l_fnExactFoldBegin (and_l_fnExactFoldBegin cl3_fnExactFoldBegin)))))) (and_r_fnExactFoldBegin (and_l_fnExactFoldBegin (and_l_fnExactFoldBegin (and_l_fnExactFoldBegin cl3_fnExactFoldBegin))))) (and_r_fnExactFoldBegin (and_l_fnExactFoldBegin (and_l_fnExactFoldBegin cl3_fnExactFoldBegin)))) (and_r_fnExactFoldBegin (and_l_fnExactFoldBegin cl3_fnExactFoldBegin))) (and_r_fnExactFoldBegin cl3_fnExactFoldBegin)

theorem said_FoldBegin : Rows.FnExactFoldBeginSaid :=
  OpenClaim.holds_of_cond 5 Tryz.f5 rfl rfl rfl rfl rfl rfl rfl ⟨rfl, rfl, rfl, rfl, rfl⟩ rfl rfl rfl rfl rfl (by kernel_rfl) Tryz.func5 closed_fnExactFoldBegin
    (of_decide_eq_true (by kernel_rfl)) (by unfold Func.isWrapper; first | (rw [if_pos (by decide +kernel)]; kernel_rfl) | (rw [if_neg (by decide +kernel)]; exact ⟨rfl, rfl⟩))
    (fun os started H enc _ F => by rw [OpenClaim.pre_eq_preRow]; exact lifted_FoldBegin os started H enc F)

theorem w_FoldBegin : Rows.fnExactFoldBeginRow.wfByText (OpenSpec.ofChange Rows.fnExactFoldBeginSpec) = true := by kernel_rfl
theorem m_FoldBegin : Tryz.pinned.checked.prog.mainIs = some (Rows.fnExactFoldBeginCard.stood.harness.1, Rows.fnExactFoldBeginCard.stood.harness.2.toList) := by kernel_rfl
theorem k_FoldBegin : true = Tryz.pinned.checked.prog.looks [] := by kernel_rfl
theorem plain_FoldBegin (f : FuncId) (fn : Func) (hf : Tryz.pinned.checked.prog.funcNamed "loop.example/g00974/laws.FnExactFoldBegin" = some f) (hfn : Tryz.pinned.checked.prog.funcs[f]? = some fn) :
    true = Tryz.pinned.checked.prog.looks [] ∧ ∀ (j : Nat) t, fn.params[j]? = some t → Tryz.pinned.checked.prog.wantsStandIn t = false := by
  obtain rfl : f = 5 := Option.some.inj ((show Tryz.prog.funcNamed "loop.example/g00974/laws.FnExactFoldBegin" = some 5 by kernel_rfl).symm.trans hf) |>.symm
  obtain rfl : fn = Tryz.f5 := (Option.some.inj (Tryz.func5.symm.trans hfn)).symm
  refine ⟨k_FoldBegin, fun j t ht => ?_⟩
  rw [Tryz.params5] at ht
  have hm := Array.mem_of_getElem? ht
  have hall : ∀ t ∈ (#[26] : Array TypeId), Tryz.prog.wantsStandIn t = false := by
    intro t ht
    simp only [List.mem_toArray, List.mem_cons, List.not_mem_nil, or_false] at ht
    rcases ht with rfl
    · exact (show Tryz.prog.wantsStandIn 26 = false by kernel_rfl)
  exact hall t hm

/-- The card. -/
theorem card_FoldBegin : Rows.FnExactFoldBeginCardSaid :=
  Claim7.holds_tied_plain_at .later [] _ _ _ _ said_FoldBegin (fun _ h => by cases h) w_FoldBegin (fun _ h => by cases h) fnExactFoldBegin_row_tie rfl ⟨rfl, rfl⟩ m_FoldBegin rfl plain_FoldBegin g_FoldBegin
end Go.Proofs.YtjncpgcccgdeiaaGreatDoor
