/-
  laws.FnExactCleaned: the statement and its card: for every machine and every other argument the law returns true, and the arguments read as they did. Conditions: the package-level variables that the row lists hold what it lists.
-/
import Derived.Test.YtjncpgcccgdeiaaGreatDoorDatT
import Derived.Test.YtjncpgcccgdeiaaGreatDoorLCleaned
import Derived.Test.YtjncpgcccgdeiaaGreatDoorOpenN
import Derived.Test.YtjncpgcccgdeiaaGreatDoorCards
import Derived.Test.YtjncpgcccgdeiaaGreatDoorTie
import Derived.ChangeMaps5
import Derived.Deep.DeepWitnessRowRef
import Derived.Test.YtjncpgcccgdeiaaGreatDoorKCleaneda
import Derived.Test.YtjncpgcccgdeiaaGreatDoorKCleanedb
import Derived.Test.YtjncpgcccgdeiaaGreatDoorKCleanedc
import Derived.Test.YtjncpgcccgdeiaaGreatDoorKCleanedd
set_option linter.unusedSimpArgs false
set_option linter.unusedVariables false
set_option linter.unnecessarySimpa false
namespace Go.Proofs.YtjncpgcccgdeiaaGreatDoor
open Go Go.RowKit Go.ChangeShapes Go.WideShapes Go.ChangeAt

theorem and_tt_fnExactCleaned {a b : Bool} (h1 : a = true) (h2 : b = true) : (a && b) = true := by rw [h1, h2]; rfl
theorem and_l_fnExactCleaned {a b : Bool} (h : (a && b) = true) : a = true := by cases a <;> simp_all
theorem and_r_fnExactCleaned {a b : Bool} (h : (a && b) = true) : b = true := by cases b <;> simp_all
set_option maxRecDepth 100000 in
theorem closed_fnExactCleaned : joinedFacts Tryz.pinned.checked.prog 4 Tryz.f4 (OpenSpec.ofChange Rows.fnExactCleanedSpec).bare Rows.fnExactCleanedRow = true := by
  unfold joinedFacts
  exact and_tt_fnExactCleaned (and_tt_fnExactCleaned (and_tt_fnExactCleaned (and_tt_fnExactCleaned (and_tt_fnExactCleaned (and_tt_fnExactCleaned (and_tt_fnExactCleaned (and_tt_fnExactCleaned (and_tt_fnExactCleaned (and_tt_fnExactCleaned (and_tt_fnExactCleaned (and_tt_fnExactCleaned (and_tt_fnExactCleaned (and_tt_fnExactCleaned (and_tt_fnExactCleaned (and_tt_fnExactCleaned (and_tt_fnExactCleaned (and_tt_fnExactCleaned (and_tt_fnExactCleaned (and_tt_fnExactCleaned (and_tt_fnExactCleaned (and_tt_fnExactCleaned (and_tt_fnExactCleaned (cl0_fnExactCleaned) (and_l_fnExactCleaned (and_l_fnExactCleaned (and_l_fnExactCleaned (and_l_fnExactCleaned (and_l_fnExactCleaned (and_l_fnExactCleaned (and_l_fnExactCleaned cl1_fnExactCleaned)))))))) (and_r_fnExactCleaned (and_l_fnExactCleaned (and_l_fnExactCleaned (and_l_fnExactCleaned (and_l_fnExactCleaned (and_l_fnExactCleaned (and_l_fnExactCleaned cl1_fnExactCleaned)))))))) (and_r_fnExactCleaned (and_l_fnExactCleaned (and_l_fnExactCleaned (and_l_fnExactCleaned (and_l_fnExactCleaned (and_l_fnExactCleaned cl1_fnExactCleaned))))))) (and_r_fnExactCleaned (and_l_fnExactCleaned (and_l_fnExactCleaned (and_l_fnExactCleaned (and_l_fnExactCleaned cl1_fnExactCleaned)))))) (and_r_fnExactCleaned (and_l_fnExactCleaned (and_l_fnExactCleaned (and_l_fnExactCleaned cl1_fnExactCleaned))))) (and_r_fnExactCleaned (and_l_fnExactCleaned (and_l_fnExactCleaned cl1_fnExactCleaned)))) (and_r_fnExactCleaned (and_l_fnExactCleaned cl1_fnExactCleaned))) (and_r_fnExactCleaned cl1_fnExactCleaned)) (and_l_fnExactCleaned (and_l_fnExactCleaned (and_l_fnExactCleaned (and_l_fnExactCleaned (and_l_fnExactCleaned (and_l_fnExactCleaned cl2_fnExactCleaned))))))) (and_r_fnExactCleaned (and_l_fnExactCleaned (and_l_fnExactCleaned (and_l_fnExactCleaned (and_l_fnExactCleaned (and_l_fnExactCleaned cl2_fnExactCleaned))))))) (and_r_fnExactCleaned (and_l_fnExactCleaned (and_l_fnExactCleaned (and_l_fnExactCleaned (and_l_fnExactCleaned cl2_fnExactCleaned)))))) (and_r_fnExactCleaned (and_l_fnExactCleaned (and_l_fnExactCleaned (and_l_fnExactCleaned cl2_fnExactCleaned))))) (and_r_fnExactCleaned (and_l_fnExactCleaned (and_l_fnExactCleaned cl2_fnExactCleaned)))) (and_r_fnExactCleaned (and_l_fnExactCleaned cl2_fnExactCleaned))) (and_r_fnExactCleaned cl2_fnExactCleaned)) (and_l_fnExactCleaned (and_l_fnExactCleaned (and_l_fnExactCleaned (and_l_fnExactCleaned (and_l_fnExactCleaned (and_l_fnExactCleaned (and_l_fnExactCleaned cl3_fnExactCleaned)))))))) (and_r_fnExactCleaned (and_l_fnExactCleaned (and_l_fnExactCleaned (and_l_fnExactCleaned (and_l_fnExactCleaned (and_l_fnExactCleaned (and_l_fnExactCleaned cl3_fnExactCleaned)))))))) (and_r_fnExactCleaned (and_l_fnExactCleaned (and_l_fnExactCleaned (and_l_fnExactCleaned (and_l_fnExactCleaned (and_l_fnExactCleaned cl3_fnExactCleaned))))))) (and_r_fnExactCleaned (and_l_fnExactCleaned (and_l_fnExactCleaned (and_l_fnExactCleaned (and_l_fnExactCleaned cl3_fnExactCleaned)))))) (and_r_fnExactCleaned (and_l_fnExactCleaned (and_l_fnExactCleaned (and_l_fnExactCleaned cl3_fnExactCleaned))))) (and_r_fnExactCleaned (and_l_fnExactCleaned (and_l_fnExactCleaned cl3_fnExactCleaned)))) (and_r_fnExactCleaned (and_l_fnExactCleaned cl3_fnExactCleaned))) (and_r_fnExactCleaned cl3_fnExactCleaned)

theorem said_Cleaned : Rows.FnExactCleanedSaid :=
  OpenClaim.holds_of_cond 4 Tryz.f4 rfl rfl rfl rfl rfl rfl rfl ⟨rfl, rfl, rfl, rfl, rfl⟩ rfl rfl rfl rfl rfl (by kernel_rfl) Tryz.func4 closed_fnExactCleaned
    (of_decide_eq_true (by kernel_rfl)) (by unfold Func.isWrapper; first | (rw [if_pos (by decide +kernel)]; kernel_rfl) | (rw [if_neg (by decide +kernel)]; exact ⟨rfl, rfl⟩))
    (fun os started H enc _ F => by rw [OpenClaim.pre_eq_preRow]; exact lifted_Cleaned os started H enc F)

theorem w_Cleaned : Rows.fnExactCleanedRow.wfByText (OpenSpec.ofChange Rows.fnExactCleanedSpec) = true := by kernel_rfl
theorem m_Cleaned : Tryz.pinned.checked.prog.mainIs = some (Rows.fnExactCleanedCard.stood.harness.1, Rows.fnExactCleanedCard.stood.harness.2.toList) := by kernel_rfl
theorem k_Cleaned : true = Tryz.pinned.checked.prog.looks [] := by kernel_rfl
theorem plain_Cleaned (f : FuncId) (fn : Func) (hf : Tryz.pinned.checked.prog.funcNamed "loop.example/g00974/laws.FnExactCleaned" = some f) (hfn : Tryz.pinned.checked.prog.funcs[f]? = some fn) :
    true = Tryz.pinned.checked.prog.looks [] ∧ ∀ (j : Nat) t, fn.params[j]? = some t → Tryz.pinned.checked.prog.wantsStandIn t = false := by
  obtain rfl : f = 4 := Option.some.inj ((show Tryz.prog.funcNamed "loop.example/g00974/laws.FnExactCleaned" = some 4 by kernel_rfl).symm.trans hf) |>.symm
  obtain rfl : fn = Tryz.f4 := (Option.some.inj (Tryz.func4.symm.trans hfn)).symm
  refine ⟨k_Cleaned, fun j t ht => ?_⟩
  rw [Tryz.params4] at ht
  have hm := Array.mem_of_getElem? ht
  have hall : ∀ t ∈ (#[26] : Array TypeId), Tryz.prog.wantsStandIn t = false := by
    intro t ht
    simp only [List.mem_toArray, List.mem_cons, List.not_mem_nil, or_false] at ht
    rcases ht with rfl
    · exact (show Tryz.prog.wantsStandIn 26 = false by kernel_rfl)
  exact hall t hm

/-- The card. -/
theorem card_Cleaned : Rows.FnExactCleanedCardSaid :=
  Claim7.holds_tied_plain_at .later [] _ _ _ _ said_Cleaned (fun _ h => by cases h) w_Cleaned (fun _ h => by cases h) fnExactCleaned_row_tie rfl ⟨rfl, rfl⟩ m_Cleaned rfl plain_Cleaned g_Cleaned
end Go.Proofs.YtjncpgcccgdeiaaGreatDoor
