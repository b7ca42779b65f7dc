/-
  laws.FnExactTxFull: the statement and its card: for every machine and every other argument the law returns true, and the arguments read as they did. Conditions: the package-level variables that the row lists hold what it lists.
-/
import Derived.Test.YtghfijncihbojaaGreatDoorS10SPEC
import Derived.Test.YtghfijncihbojaaGreatDoorLTxFull
import Derived.Test.YtghfijncihbojaaGreatDoorOpenB
import Derived.Test.YtghfijncihbojaaGreatDoorCards
import Derived.Test.YtghfijncihbojaaGreatDoorTie
import Derived.ChangeMaps5
import Derived.Deep.DeepWitnessRowRef
import Derived.Test.YtghfijncihbojaaGreatDoorKTxFulla
import Derived.Test.YtghfijncihbojaaGreatDoorKTxFullb
import Derived.Test.YtghfijncihbojaaGreatDoorKTxFullc
import Derived.Test.YtghfijncihbojaaGreatDoorKTxFulld
set_option linter.unusedSimpArgs false
set_option linter.unusedVariables false
set_option linter.unnecessarySimpa false
namespace Go.Proofs.YtghfijncihbojaaGreatDoor
open Go Go.RowKit Go.ChangeShapes Go.WideShapes Go.ChangeAt

theorem and_tt_fnTxFull {a b : Bool} (h1 : a = true) (h2 : b = true) : (a && b) = true := by rw [h1, h2]; rfl
theorem and_l_fnTxFull {a b : Bool} (h : (a && b) = true) : a = true := by cases a <;> simp_all
theorem and_r_fnTxFull {a b : Bool} (h : (a && b) = true) : b = true := by cases b <;> simp_all
set_option maxRecDepth 100000 in
theorem closed_fnTxFull : joinedFacts Tryz.pinned.checked.prog 4 Tryz.f4 (OpenSpec.ofChange Rows.fnTxFullSpec).bare Rows.fnTxFullRow = true := by
  unfold joinedFacts
  exact and_tt_fnTxFull (and_tt_fnTxFull (and_tt_fnTxFull (and_tt_fnTxFull (and_tt_fnTxFull (and_tt_fnTxFull (and_tt_fnTxFull (and_tt_fnTxFull (and_tt_fnTxFull (and_tt_fnTxFull (and_tt_fnTxFull (and_tt_fnTxFull (and_tt_fnTxFull (and_tt_fnTxFull (and_tt_fnTxFull (and_tt_fnTxFull (and_tt_fnTxFull (and_tt_fnTxFull (and_tt_fnTxFull (and_tt_fnTxFull (and_tt_fnTxFull (and_tt_fnTxFull (and_tt_fnTxFull (cl0_fnTxFull) (and_l_fnTxFull (and_l_fnTxFull (and_l_fnTxFull (and_l_fnTxFull (and_l_fnTxFull (and_l_fnTxFull (and_l_fnTxFull cl1_fnTxFull)))))))) (and_r_fnTxFull (and_l_fnTxFull (and_l_fnTxFull (and_l_fnTxFull (and_l_fnTxFull (and_l_fnTxFull (and_l_fnTxFull cl1_fnTxFull)))))))) (and_r_fnTxFull (and_l_fnTxFull (and_l_fnTxFull (and_l_fnTxFull (and_l_fnTxFull (and_l_fnTxFull cl1_fnTxFull))))))) (and_r_fnTxFull (and_l_fnTxFull (and_l_fnTxFull (and_l_fnTxFull (and_l_fnTxFull cl1_fnTxFull)))))) (and_r_fnTxFull (and_l_fnTxFull (and_l_fnTxFull (and_l_fnTxFull cl1_fnTxFull))))) (and_r_fnTxFull (and_l_fnTxFull (and_l_fnTxFull cl1_fnTxFull)))) (and_r_fnTxFull (and_l_fnTxFull cl1_fnTxFull))) (and_r_fnTxFull cl1_fnTxFull)) (and_l_fnTxFull (and_l_fnTxFull (and_l_fnTxFull (and_l_fnTxFull (and_l_fnTxFull (and_l_fnTxFull cl2_fnTxFull))))))) (and_r_fnTxFull (and_l_fnTxFull (and_l_fnTxFull (and_l_fnTxFull (and_l_fnTxFull (and_l_fnTxFull cl2_fnTxFull))))))) (and_r_fnTxFull (and_l_fnTxFull (and_l_fnTxFull (and_l_fnTxFull (and_l_fnTxFull cl2_fnTxFull)))))) (and_r_fnTxFull (and_l_fnTxFull (and_l_fnTxFull (and_l_fnTxFull cl2_fnTxFull))))) (and_r_fnTxFull (and_l_fnTxFull (and_l_fnTxFull cl2_fnTxFull)))) (and_r_fnTxFull (and_l_fnTxFull cl2_fnTxFull))) (and_r_fnTxFull cl2_fnTxFull)) (and_l_fnTxFull (and_l_fnTxFull (and_l_fnTxFull (and_l_fnTxFull (and_l_fnTxFull (and_l_fnTxFull (and_l_fnTxFull cl3_fnTxFull)))))))) (and_r_fnTxFull (and_l_fnTxFull (and_l_fnTxFull (and_l_fnTxFull (and_l_fnTxFull (and_l_fnTxFull (and_l_fnTxFull cl3_fnTxFull)))))))) (and_r_fnTxFull (and_l_fnTxFull (and_l_fnTxFull (and_l_fnTxFull (and_l_fnTxFull (and_l_fnTxFull cl3_fnTxFull))))))) (and_r_fnTxFull (and_l_fnTxFull (and_l_fnTxFull (and_l_fnTxFull (and_l_fnTxFull cl3_fnTxFull)))))) (and_r_fnTxFull (and_l_fnTxFull (and_l_fnTxFull (and_l_fnTxFull cl3_fnTxFull))))) (and_r_fnTxFull (and_l_fnTxFull (and_l_fnTxFull cl3_fnTxFull)))) (and_r_fnTxFull (and_l_fnTxFull cl3_fnTxFull))) (and_r_fnTxFull cl3_fnTxFull)

theorem said_TxFull : Rows.FnTxFullSaid :=
  OpenClaim.holds_of_cond 4 Tryz.f4 rfl rfl rfl rfl rfl rfl rfl ⟨rfl, rfl, rfl, rfl, rfl⟩ rfl rfl rfl rfl rfl (by kernel_rfl) Tryz.func4 closed_fnTxFull
    (of_decide_eq_true (by kernel_rfl)) (by unfold Func.isWrapper; first | (rw [if_pos (by decide +kernel)]; kernel_rfl) | (rw [if_neg (by decide +kernel)]; exact ⟨rfl, rfl⟩))
    (fun os started H enc _ F => by rw [OpenClaim.pre_eq_preRow]; exact lifted_TxFull os started H enc F)

theorem w_TxFull : Rows.fnTxFullRow.wfByText (OpenSpec.ofChange Rows.fnTxFullSpec) = true := by kernel_rfl
theorem m_TxFull : Tryz.pinned.checked.prog.mainIs = some (Rows.fnTxFullCard.stood.harness.1, Rows.fnTxFullCard.stood.harness.2.toList) := by kernel_rfl
theorem k_TxFull : true = Tryz.pinned.checked.prog.looks [] := by kernel_rfl
theorem plain_TxFull (f : FuncId) (fn : Func) (hf : Tryz.pinned.checked.prog.funcNamed "loop.example/g00974/laws.FnTxFull" = some f) (hfn : Tryz.pinned.checked.prog.funcs[f]? = some fn) :
    true = Tryz.pinned.checked.prog.looks [] ∧ ∀ (j : Nat) t, fn.params[j]? = some t → Tryz.pinned.checked.prog.wantsStandIn t = false := by
  obtain rfl : f = 4 := Option.some.inj ((show Tryz.prog.funcNamed "loop.example/g00974/laws.FnTxFull" = some 4 by kernel_rfl).symm.trans hf) |>.symm
  obtain rfl : fn = Tryz.f4 := (Option.some.inj (Tryz.func4.symm.trans hfn)).symm
  refine ⟨k_TxFull, fun j t ht => ?_⟩
  rw [Tryz.params4] at ht
  have hm := Array.mem_of_getElem? ht
  have hall : ∀ t ∈ (#[22] : Array TypeId), Tryz.prog.wantsStandIn t = false := by
    intro t ht
    simp only [List.mem_toArray, List.mem_cons, List.not_mem_nil, or_false] at ht
    rcases ht with rfl
    · exact (show Tryz.prog.wantsStandIn 22 = false by kernel_rfl)
  exact hall t hm

/-- The card. -/
theorem card_TxFull : Rows.FnTxFullCardSaid :=
  Claim7.holds_tied_plain_at .later [] _ _ _ _ said_TxFull (fun _ h => by cases h) w_TxFull (fun _ h => by cases h) fnTxFull_row_tie rfl ⟨rfl, rfl⟩ m_TxFull rfl plain_TxFull g_TxFull
end Go.Proofs.YtghfijncihbojaaGreatDoor
