/-
  laws.FnExactFolded: the statement and its card: for every machine and every other argument the law returns true, and the arguments read as they did. Conditions: the package-level variables that the row lists hold what it lists.
-/
import Derived.Test.YtjncpgcccgdeiaaGreatDoorDatM
import Derived.Test.YtjncpgcccgdeiaaGreatDoorLFolded
import Derived.Test.YtjncpgcccgdeiaaGreatDoorOpenN
import Derived.Test.YtjncpgcccgdeiaaGreatDoorCards
import Derived.Test.YtjncpgcccgdeiaaGreatDoorTie
import Derived.ChangeMaps5
import Derived.Deep.DeepWitnessRowRef
import Derived.Test.YtjncpgcccgdeiaaGreatDoorKFoldeda
import Derived.Test.YtjncpgcccgdeiaaGreatDoorKFoldedb
import Derived.Test.YtjncpgcccgdeiaaGreatDoorKFoldedc
import Derived.Test.YtjncpgcccgdeiaaGreatDoorKFoldedd
set_option linter.unusedSimpArgs false
set_option linter.unusedVariables false
set_option linter.unnecessarySimpa false
namespace Go.Proofs.YtjncpgcccgdeiaaGreatDoor
open Go Go.RowKit Go.ChangeShapes Go.WideShapes Go.ChangeAt

theorem and_tt_fnExactFolded {a b : Bool} (h1 : a = true) (h2 : b = true) : (a && b) = true := by rw [h1, h2]; rfl
theorem and_l_fnExactFolded {a b : Bool} (h : (a && b) = true) : a = true := by cases a <;> simp_all
theorem and_r_fnExactFolded {a b : Bool} (h : (a && b) = true) : b = true := by cases b <;> simp_all
set_option maxRecDepth 100000 in
theorem closed_fnExactFolded : joinedFacts Tryz.pinned.checked.prog 6 Tryz.f6 (OpenSpec.ofChange Rows.fnExactFoldedSpec).bare Rows.fnExactFoldedRow = true := by
  unfold joinedFacts
  exact and_tt_fnExactFolded (and_tt_fnExactFolded (and_tt_fnExactFolded (and_tt_fnExactFolded (and_tt_fnExactFolded (and_tt_fnExactFolded (and_tt_fnExactFolded (and_tt_fnExactFolded (and_tt_fnExactFolded (and_tt_fnExactFolded (and_tt_fnExactFolded (and_tt_fnExactFolded (and_tt_fnExactFolded (and_tt_fnExactFolded (and_tt_fnExactFolded (and_tt_fnExactFolded (and_tt_fnExactFolded (and_tt_fnExactFolded (and_tt_fnExactFolded (and_tt_fnExactFolded (and_tt_fnExactFolded (and_tt_fnExactFolded (and_tt_fnExactFolded (cl0_fnExactFolded) (and_l_fnExactFolded (and_l_fnExactFolded (and_l_fnExactFolded (and_l_fnExactFolded (and_l_fnExactFolded (and_l_fnExactFolded (and_l_fnExactFolded cl1_fnExactFolded)))))))) (and_r_fnExactFolded (and_l_fnExactFolded (and_l_fnExactFolded (and_l_fnExactFolded (and_l_fnExactFolded (and_l_fnExactFolded (and_l_fnExactFolded cl1_fnExactFolded)))))))) (and_r_fnExactFolded (and_l_fnExactFolded (and_l_fnExactFolded (and_l_fnExactFolded (and_l_fnExactFolded (and_l_fnExactFolded cl1_fnExactFolded))))))) (and_r_fnExactFolded (and_l_fnExactFolded (and_l_fnExactFolded (and_l_fnExactFolded (and_l_fnExactFolded cl1_fnExactFolded)))))) (and_r_fnExactFolded (and_l_fnExactFolded (and_l_fnExactFolded (and_l_fnExactFolded cl1_fnExactFolded))))) (and_r_fnExactFolded (and_l_fnExactFolded (and_l_fnExactFolded cl1_fnExactFolded)))) (and_r_fnExactFolded (and_l_fnExactFolded cl1_fnExactFolded))) (and_r_fnExactFolded cl1_fnExactFolded)) (and_l_fnExactFolded (and_l_fnExactFolded (and_l_fnExactFolded (and_l_fnExactFolded (and_l_fnExactFolded (and_l_fnExactFolded cl2_fnExactFolded))))))) (and_r_fnExactFolded (and_l_fnExactFolded (and_l_fnExactFolded (and_l_fnExactFolded (and_l_fnExactFolded (and_l_fnExactFolded cl2_fnExactFolded))))))) (and_r_fnExactFolded (and_l_fnExactFolded (and_l_fnExactFolded (and_l_fnExactFolded (and_l_fnExactFolded cl2_fnExactFolded)))))) (and_r_fnExactFolded (and_l_fnExactFolded (and_l_fnExactFolded (and_l_fnExactFolded cl2_fnExactFolded))))) (and_r_fnExactFolded (and_l_fnExactFolded (and_l_fnExactFolded cl2_fnExactFolded)))) (and_r_fnExactFolded (and_l_fnExactFolded cl2_fnExactFolded))) (and_r_fnExactFolded cl2_fnExactFolded)) (and_l_fnExactFolded (and_l_fnExactFolded (and_l_fnExactFolded (and_l_fnExactFolded (and_l_fnExactFolded (and_l_fnExactFolded (and_l_fnExactFolded cl3_fnExactFolded)))))))) (and_r_fnExactFolded (and_l_fnExactFolded (and_l_fnExactFolded (and_l_fnExactFolded (and_l_fnExactFolded (and_l_fnExactFolded (and_l_fnExactFolded cl3_fnExactFolded)))))))) (and_r_fnExactFolded (and_l_fnExactFolded (and_l_fnExactFolded (and_l_fnExactFolded (and_l_fnExactFolded (and_l_fnExactFolded cl3_fnExactFolded))))))) (and_r_fnExactFolded (and_l_fnExactFolded (and_l_fnExactFolded (and_l_fnExactFolded (and_l_fnExactFolded cl3_fnExactFolded)))))) (and_r_fnExactFolded (and_l_fnExactFolded (and_l_fnExactFolded (and_l_fnExactFolded cl3_fnExactFolded))))) (and_r_fnExactFolded (and_l_fnExactFolded (and_l_fnExactFolded cl3_fnExactFolded)))) (and_r_fnExactFolded (and_l_fnExactFolded cl3_fnExactFolded))) (and_r_fnExactFolded cl3_fnExactFolded)

theorem said_Folded : Rows.FnExactFoldedSaid :=
  OpenClaim.holds_of_cond 6 Tryz.f6 rfl rfl rfl rfl rfl rfl rfl ⟨rfl, rfl, rfl, rfl, rfl⟩ rfl rfl rfl rfl rfl (by kernel_rfl) Tryz.func6 closed_fnExactFolded
    (of_decide_eq_true (by kernel_rfl)) (by unfold Func.isWrapper; first | (rw [if_pos (by decide +kernel)]; kernel_rfl) | (rw [if_neg (by decide +kernel)]; exact ⟨rfl, rfl⟩))
    (fun os started H enc _ F => by rw [OpenClaim.pre_eq_preRow]; exact lifted_Folded os started H enc F)

theorem w_Folded : Rows.fnExactFoldedRow.wfByText (OpenSpec.ofChange Rows.fnExactFoldedSpec) = true := by kernel_rfl
theorem m_Folded : Tryz.pinned.checked.prog.mainIs = some (Rows.fnExactFoldedCard.stood.harness.1, Rows.fnExactFoldedCard.stood.harness.2.toList) := by kernel_rfl
theorem k_Folded : true = Tryz.pinned.checked.prog.looks [] := by kernel_rfl
theorem plain_Folded (f : FuncId) (fn : Func) (hf : Tryz.pinned.checked.prog.funcNamed "loop.example/g00974/laws.FnExactFolded" = some f) (hfn : Tryz.pinned.checked.prog.funcs[f]? = some fn) :
    true = Tryz.pinned.checked.prog.looks [] ∧ ∀ (j : Nat) t, fn.params[j]? = some t → Tryz.pinned.checked.prog.wantsStandIn t = false := by
  obtain rfl : f = 6 := Option.some.inj ((show Tryz.prog.funcNamed "loop.example/g00974/laws.FnExactFolded" = some 6 by kernel_rfl).symm.trans hf) |>.symm
  obtain rfl : fn = Tryz.f6 := (Option.some.inj (Tryz.func6.symm.trans hfn)).symm
  refine ⟨k_Folded, fun j t ht => ?_⟩
  rw [Tryz.params6] at ht
  have hm := Array.mem_of_getElem? ht
  have hall : ∀ t ∈ (#[26] : Array TypeId), Tryz.prog.wantsStandIn t = false := by
    intro t ht
    simp only [List.mem_toArray, List.mem_cons, List.not_mem_nil, or_false] at ht
    rcases ht with rfl
    · exact (show Tryz.prog.wantsStandIn 26 = false by kernel_rfl)
  exact hall t hm

/-- The card. -/
theorem card_Folded : Rows.FnExactFoldedCardSaid :=
  Claim7.holds_tied_plain_at .later [] _ _ _ _ said_Folded (fun _ h => by cases h) w_Folded (fun _ h => by cases h) fnExactFolded_row_tie rfl ⟨rfl, rfl⟩ m_Folded rfl plain_Folded g_Folded
end Go.Proofs.YtjncpgcccgdeiaaGreatDoor
