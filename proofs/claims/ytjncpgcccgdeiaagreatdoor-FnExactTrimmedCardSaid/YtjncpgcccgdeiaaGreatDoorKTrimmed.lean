/-
  laws.FnExactTrimmed: the statement and its card: for every machine and every other argument the law returns true, and the arguments read as they did. Conditions: the package-level variables that the row lists hold what it lists.
-/
import Derived.Test.YtjncpgcccgdeiaaGreatDoorDatT
import Derived.Test.YtjncpgcccgdeiaaGreatDoorLTrimmed
import Derived.Test.YtjncpgcccgdeiaaGreatDoorOpenN
import Derived.Test.YtjncpgcccgdeiaaGreatDoorCards
import Derived.Test.YtjncpgcccgdeiaaGreatDoorTie
import Derived.ChangeMaps5
import Derived.Deep.DeepWitnessRowRef
import Derived.Test.YtjncpgcccgdeiaaGreatDoorKTrimmeda
import Derived.Test.YtjncpgcccgdeiaaGreatDoorKTrimmedb
import Derived.Test.YtjncpgcccgdeiaaGreatDoorKTrimmedc
import Derived.Test.YtjncpgcccgdeiaaGreatDoorKTrimmedd
set_option linter.unusedSimpArgs false
set_option linter.unusedVariables false
set_option linter.unnecessarySimpa false
namespace Go.Proofs.YtjncpgcccgdeiaaGreatDoor
open Go Go.RowKit Go.ChangeShapes Go.WideShapes Go.ChangeAt

theorem and_tt_fnExactTrimmed {a b : Bool} (h1 : a = true) (h2 : b = true) : (a && b) = true := by rw [h1, h2]; rfl
theorem and_l_fnExactTrimmed {a b : Bool} (h : (a && b) = true) : a = true := by cases a <;> simp_all
theorem and_r_fnExactTrimmed {a b : Bool} (h : (a && b) = true) : b = true := by cases b <;> simp_all
set_option maxRecDepth 100000 in
theorem closed_fnExactTrimmed : joinedFacts Tryz.pinned.checked.prog 3 Tryz.f3 (OpenSpec.ofChange Rows.fnExactTrimmedSpec).bare Rows.fnExactTrimmedRow = true := by
  unfold joinedFacts
  exact and_tt_fnExactTrimmed (and_tt_fnExactTrimmed (and_tt_fnExactTrimmed (and_tt_fnExactTrimmed (and_tt_fnExactTrimmed (and_tt_fnExactTrimmed (and_tt_fnExactTrimmed (and_tt_fnExactTrimmed (and_tt_fnExactTrimmed (and_tt_fnExactTrimmed (and_tt_fnExactTrimmed (and_tt_fnExactTrimmed (and_tt_fnExactTrimmed (and_tt_fnExactTrimmed (and_tt_fnExactTrimmed (and_tt_fnExactTrimmed (and_tt_fnExactTrimmed (and_tt_fnExactTrimmed (and_tt_fnExactTrimmed (and_tt_fnExactTrimmed (and_tt_fnExactTrimmed (and_tt_fnExactTrimmed (and_tt_fnExactTrimmed (cl0_fnExactTrimmed) (and_l_fnExactTrimmed (and_l_fnExactTrimmed (and_l_fnExactTrimmed (and_l_fnExactTrimmed (and_l_fnExactTrimmed (and_l_fnExactTrimmed (and_l_fnExactTrimmed cl1_fnExactTrimmed)))))))) (and_r_fnExactTrimmed (and_l_fnExactTrimmed (and_l_fnExactTrimmed (and_l_fnExactTrimmed (and_l_fnExactTrimmed (and_l_fnExactTrimmed (and_l_fnExactTrimmed cl1_fnExactTrimmed)))))))) (and_r_fnExactTrimmed (and_l_fnExactTrimmed (and_l_fnExactTrimmed (and_l_fnExactTrimmed (and_l_fnExactTrimmed (and_l_fnExactTrimmed cl1_fnExactTrimmed))))))) (and_r_fnExactTrimmed (and_l_fnExactTrimmed (and_l_fnExactTrimmed (and_l_fnExactTrimmed (and_l_fnExactTrimmed cl1_fnExactTrimmed)))))) (and_r_fnExactTrimmed (and_l_fnExactTrimmed (and_l_fnExactTrimmed (and_l_fnExactTrimmed cl1_fnExactTrimmed))))) (and_r_fnExactTrimmed (and_l_fnExactTrimmed (and_l_fnExactTrimmed cl1_fnExactTrimmed)))) (and_r_fnExactTrimmed (and_l_fnExactTrimmed cl1_fnExactTrimmed))) (and_r_fnExactTrimmed cl1_fnExactTrimmed)) (and_l_fnExactTrimmed (and_l_fnExactTrimmed (and_l_fnExactTrimmed (and_l_fnExactTrimmed (and_l_fnExactTrimmed (and_l_fnExactTrimmed cl2_fnExactTrimmed))))))) (and_r_fnExactTrimmed (and_l_fnExactTrimmed (and_l_fnExactTrimmed (and_l_fnExactTrimmed (and_l_fnExactTrimmed (and_l_fnExactTrimmed cl2_fnExactTrimmed))))))) (and_r_fnExactTrimmed (and_l_fnExactTrimmed (and_l_fnExactTrimmed (and_l_fnExactTrimmed (and_l_fnExactTrimmed cl2_fnExactTrimmed)))))) (and_r_fnExactTrimmed (and_l_fnExactTrimmed (and_l_fnExactTrimmed (and_l_fnExactTrimmed cl2_fnExactTrimmed))))) (and_r_fnExactTrimmed (and_l_fnExactTrimmed (and_l_fnExactTrimmed cl2_fnExactTrimmed)))) (and_r_fnExactTrimmed (and_l_fnExactTrimmed cl2_fnExactTrimmed))) (and_r_fnExactTrimmed cl2_fnExactTrimmed)) (and_l_fnExactTrimmed (and_l_fnExactTrimmed (and_l_fnExactTrimmed (and_l_fnExactTrimmed (and_l_fnExactTrimmed (and_l_fnExactTrimmed (and_l_fnExactTrimmed cl3_fnExactTrimmed)))))))) (and_r_fnExactTrimmed (and_l_fnExactTrimmed (and_l_fnExactTrimmed (and_l_fnExactTrimmed (and_l_fnExactTrimmed (and_l_fnExactTrimmed (and_l_fnExactTrimmed cl3_fnExactTrimmed)))))))) (and_r_fnExactTrimmed (and_l_fnExactTrimmed (and_l_fnExactTrimmed (and_l_fnExactTrimmed (and_l_fnExactTrimmed (and_l_fnExactTrimmed cl3_fnExactTrimmed))))))) (and_r_fnExactTrimmed (and_l_fnExactTrimmed (and_l_fnExactTrimmed (and_l_fnExactTrimmed (and_l_fnExactTrimmed cl3_fnExactTrimmed)))))) (and_r_fnExactTrimmed (and_l_fnExactTrimmed (and_l_fnExactTrimmed (and_l_fnExactTrimmed cl3_fnExactTrimmed))))) (and_r_fnExactTrimmed (and_l_fnExactTrimmed (and_l_fnExactTrimmed cl3_fnExactTrimmed)))) (and_r_fnExactTrimmed (and_l_fnExactTrimmed cl3_fnExactTrimmed))) (and_r_fnExactTrimmed cl3_fnExactTrimmed)

theorem said_Trimmed : Rows.FnExactTrimmedSaid :=
  OpenClaim.holds_of_cond 3 Tryz.f3 rfl rfl rfl rfl rfl rfl rfl ⟨rfl, rfl, rfl, rfl, rfl⟩ rfl rfl rfl rfl rfl (by kernel_rfl) Tryz.func3 closed_fnExactTrimmed
    (of_decide_eq_true (by kernel_rfl)) (by unfold Func.isWrapper; first | (rw [if_pos (by decide +kernel)]; kernel_rfl) | (rw [if_neg (by decide +kernel)]; exact ⟨rfl, rfl⟩))
    (fun os started H enc _ F => by rw [OpenClaim.pre_eq_preRow]; exact lifted_Trimmed os started H enc F)

theorem w_Trimmed : Rows.fnExactTrimmedRow.wfByText (OpenSpec.ofChange Rows.fnExactTrimmedSpec) = true := by kernel_rfl
theorem m_Trimmed : Tryz.pinned.checked.prog.mainIs = some (Rows.fnExactTrimmedCard.stood.harness.1, Rows.fnExactTrimmedCard.stood.harness.2.toList) := by kernel_rfl
theorem k_Trimmed : true = Tryz.pinned.checked.prog.looks [] := by kernel_rfl
theorem plain_Trimmed (f : FuncId) (fn : Func) (hf : Tryz.pinned.checked.prog.funcNamed "loop.example/g00974/laws.FnExactTrimmed" = some f) (hfn : Tryz.pinned.checked.prog.funcs[f]? = some fn) :
    true = Tryz.pinned.checked.prog.looks [] ∧ ∀ (j : Nat) t, fn.params[j]? = some t → Tryz.pinned.checked.prog.wantsStandIn t = false := by
  obtain rfl : f = 3 := Option.some.inj ((show Tryz.prog.funcNamed "loop.example/g00974/laws.FnExactTrimmed" = some 3 by kernel_rfl).symm.trans hf) |>.symm
  obtain rfl : fn = Tryz.f3 := (Option.some.inj (Tryz.func3.symm.trans hfn)).symm
  refine ⟨k_Trimmed, fun j t ht => ?_⟩
  rw [Tryz.params3] at ht
  have hm := Array.mem_of_getElem? ht
  have hall : ∀ t ∈ (#[26] : Array TypeId), Tryz.prog.wantsStandIn t = false := by
    intro t ht
    simp only [List.mem_toArray, List.mem_cons, List.not_mem_nil, or_false] at ht
    rcases ht with rfl
    · exact (show Tryz.prog.wantsStandIn 26 = false by kernel_rfl)
  exact hall t hm

/-- The card. -/
theorem card_Trimmed : Rows.FnExactTrimmedCardSaid :=
  Claim7.holds_tied_plain_at .later [] _ _ _ _ said_Trimmed (fun _ h => by cases h) w_Trimmed (fun _ h => by cases h) fnExactTrimmed_row_tie rfl ⟨rfl, rfl⟩ m_Trimmed rfl plain_Trimmed g_Trimmed
end Go.Proofs.YtjncpgcccgdeiaaGreatDoor
