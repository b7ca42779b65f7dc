/-
  laws.FnExactMarkLimit: the statement and its card: for every machine and every other argument the law returns true, and the arguments read as they did. Conditions: the package-level variables that the row lists hold what it lists.
-/
import Derived.Test.YtghfijncihbojaaGreatDoorS10SPEC
import Derived.Test.YtghfijncihbojaaGreatDoorLMarkLimit
import Derived.Test.YtghfijncihbojaaGreatDoorOpenB
import Derived.Test.YtghfijncihbojaaGreatDoorCards
import Derived.Test.YtghfijncihbojaaGreatDoorTie
import Derived.ChangeMaps5
import Derived.Deep.DeepWitnessRowRef
import Derived.Test.YtghfijncihbojaaGreatDoorKMarkLimita
import Derived.Test.YtghfijncihbojaaGreatDoorKMarkLimitb
import Derived.Test.YtghfijncihbojaaGreatDoorKMarkLimitc
import Derived.Test.YtghfijncihbojaaGreatDoorKMarkLimitd
set_option linter.unusedSimpArgs false
set_option linter.unusedVariables false
set_option linter.unnecessarySimpa false
namespace Go.Proofs.YtghfijncihbojaaGreatDoor
open Go Go.RowKit Go.ChangeShapes Go.WideShapes Go.ChangeAt

theorem and_tt_fnMarkLimit {a b : Bool} (h1 : a = true) (h2 : b = true) : (a && b) = true := by rw [h1, h2]; rfl
theorem and_l_fnMarkLimit {a b : Bool} (h : (a && b) = true) : a = true := by cases a <;> simp_all
theorem and_r_fnMarkLimit {a b : Bool} (h : (a && b) = true) : b = true := by cases b <;> simp_all
set_option maxRecDepth 100000 in
theorem closed_fnMarkLimit : joinedFacts Tryz.pinned.checked.prog 3 Tryz.f3 (OpenSpec.ofChange Rows.fnMarkLimitSpec).bare Rows.fnMarkLimitRow = true := by
  unfold joinedFacts
  exact and_tt_fnMarkLimit (and_tt_fnMarkLimit (and_tt_fnMarkLimit (and_tt_fnMarkLimit (and_tt_fnMarkLimit (and_tt_fnMarkLimit (and_tt_fnMarkLimit (and_tt_fnMarkLimit (and_tt_fnMarkLimit (and_tt_fnMarkLimit (and_tt_fnMarkLimit (and_tt_fnMarkLimit (and_tt_fnMarkLimit (and_tt_fnMarkLimit (and_tt_fnMarkLimit (and_tt_fnMarkLimit (and_tt_fnMarkLimit (and_tt_fnMarkLimit (and_tt_fnMarkLimit (and_tt_fnMarkLimit (and_tt_fnMarkLimit (and_tt_fnMarkLimit (and_tt_fnMarkLimit (cl0_fnMarkLimit) (and_l_fnMarkLimit (and_l_fnMarkLimit (and_l_fnMarkLimit (and_l_fnMarkLimit (and_l_fnMarkLimit (and_l_fnMarkLimit (and_l_fnMarkLimit cl1_fnMarkLimit)))))))) (and_r_fnMarkLimit (and_l_fnMarkLimit (and_l_fnMarkLimit (and_l_fnMarkLimit (and_l_fnMarkLimit (and_l_fnMarkLimit (and_l_fnMarkLimit cl1_fnMarkLimit)))))))) (and_r_fnMarkLimit (and_l_fnMarkLimit (and_l_fnMarkLimit (and_l_fnMarkLimit (and_l_fnMarkLimit (and_l_fnMarkLimit cl1_fnMarkLimit))))))) (and_r_fnMarkLimit (and_l_fnMarkLimit (and_l_fnMarkLimit (and_l_fnMarkLimit (and_l_fnMarkLimit cl1_fnMarkLimit)))))) (and_r_fnMarkLimit (and_l_fnMarkLimit (and_l_fnMarkLimit (and_l_fnMarkLimit cl1_fnMarkLimit))))) (and_r_fnMarkLimit (and_l_fnMarkLimit (and_l_fnMarkLimit cl1_fnMarkLimit)))) (and_r_fnMarkLimit (and_l_fnMarkLimit cl1_fnMarkLimit))) (and_r_fnMarkLimit cl1_fnMarkLimit)) (and_l_fnMarkLimit (and_l_fnMarkLimit (and_l_fnMarkLimit (and_l_fnMarkLimit (and_l_fnMarkLimit (and_l_fnMarkLimit cl2_fnMarkLimit))))))) (and_r_fnMarkLimit (and_l_fnMarkLimit (and_l_fnMarkLimit (and_l_fnMarkLimit (and_l_fnMarkLimit (and_l_fnMarkLimit cl2_fnMarkLimit))))))) (and_r_fnMarkLimit (and_l_fnMarkLimit (and_l_fnMarkLimit (and_l_fnMarkLimit (and_l_fnMarkLimit cl2_fnMarkLimit)))))) (and_r_fnMarkLimit (and_l_fnMarkLimit (and_l_fnMarkLimit (and_l_fnMarkLimit cl2_fnMarkLimit))))) (and_r_fnMarkLimit (and_l_fnMarkLimit (and_l_fnMarkLimit cl2_fnMarkLimit)))) (and_r_fnMarkLimit (and_l_fnMarkLimit cl2_fnMarkLimit))) (and_r_fnMarkLimit cl2_fnMarkLimit)) (and_l_fnMarkLimit (and_l_fnMarkLimit (and_l_fnMarkLimit (and_l_fnMarkLimit (and_l_fnMarkLimit (and_l_fnMarkLimit (and_l_fnMarkLimit cl3_fnMarkLimit)))))))) (and_r_fnMarkLimit (and_l_fnMarkLimit (and_l_fnMarkLimit (and_l_fnMarkLimit (and_l_fnMarkLimit (and_l_fnMarkLimit (and_l_fnMarkLimit cl3_fnMarkLimit)))))))) (and_r_fnMarkLimit (and_l_fnMarkLimit (and_l_fnMarkLimit (and_l_fnMarkLimit (and_l_fnMarkLimit (and_l_fnMarkLimit cl3_fnMarkLimit))))))) (and_r_fnMarkLimit (and_l_fnMarkLimit (and_l_fnMarkLimit (and_l_fnMarkLimit (and_l_fnMarkLimit cl3_fnMarkLimit)))))) (and_r_fnMarkLimit (and_l_fnMarkLimit (and_l_fnMarkLimit (and_l_fnMarkLimit cl3_fnMarkLimit))))) (and_r_fnMarkLimit (and_l_fnMarkLimit (and_l_fnMarkLimit cl3_fnMarkLimit)))) (and_r_fnMarkLimit (and_l_fnMarkLimit cl3_fnMarkLimit))) (and_r_fnMarkLimit cl3_fnMarkLimit)

theorem said_MarkLimit : Rows.FnMarkLimitSaid :=
  OpenClaim.holds_of_cond 3 Tryz.f3 rfl rfl rfl rfl rfl rfl rfl ⟨rfl, rfl, rfl, rfl, rfl⟩ rfl rfl rfl rfl rfl (by kernel_rfl) Tryz.func3 closed_fnMarkLimit
    (of_decide_eq_true (by kernel_rfl)) (by unfold Func.isWrapper; first | (rw [if_pos (by decide +kernel)]; kernel_rfl) | (rw [if_neg (by decide +kernel)]; exact ⟨rfl, rfl⟩))
    (fun os started H enc _ F => by rw [OpenClaim.pre_eq_preRow]; exact lifted_MarkLimit os started H enc F)

theorem w_MarkLimit : Rows.fnMarkLimitRow.wfByText (OpenSpec.ofChange Rows.fnMarkLimitSpec) = true := by kernel_rfl
theorem m_MarkLimit : Tryz.pinned.checked.prog.mainIs = some (Rows.fnMarkLimitCard.stood.harness.1, Rows.fnMarkLimitCard.stood.harness.2.toList) := by kernel_rfl
theorem k_MarkLimit : true = Tryz.pinned.checked.prog.looks [] := by kernel_rfl
theorem plain_MarkLimit (f : FuncId) (fn : Func) (hf : Tryz.pinned.checked.prog.funcNamed "loop.example/g00974/laws.FnMarkLimit" = some f) (hfn : Tryz.pinned.checked.prog.funcs[f]? = some fn) :
    true = Tryz.pinned.checked.prog.looks [] ∧ ∀ (j : Nat) t, fn.params[j]? = some t → Tryz.pinned.checked.prog.wantsStandIn t = false := by
  obtain rfl : f = 3 := Option.some.inj ((show Tryz.prog.funcNamed "loop.example/g00974/laws.FnMarkLimit" = some 3 by kernel_rfl).symm.trans hf) |>.symm
  obtain rfl : fn = Tryz.f3 := (Option.some.inj (Tryz.func3.symm.trans hfn)).symm
  refine ⟨k_MarkLimit, fun j t ht => ?_⟩
  rw [Tryz.params3] at ht
  have hm := Array.mem_of_getElem? ht
  have hall : ∀ t ∈ (#[22] : Array TypeId), Tryz.prog.wantsStandIn t = false := by
    intro t ht
    simp only [List.mem_toArray, List.mem_cons, List.not_mem_nil, or_false] at ht
    rcases ht with rfl
    · exact (show Tryz.prog.wantsStandIn 22 = false by kernel_rfl)
  exact hall t hm

/-- The card. -/
theorem card_MarkLimit : Rows.FnMarkLimitCardSaid :=
  Claim7.holds_tied_plain_at .later [] _ _ _ _ said_MarkLimit (fun _ h => by cases h) w_MarkLimit (fun _ h => by cases h) fnMarkLimit_row_tie rfl ⟨rfl, rfl⟩ m_MarkLimit rfl plain_MarkLimit g_MarkLimit
end Go.Proofs.YtghfijncihbojaaGreatDoor
