/-
  laws.FnExactBetween: the statement and its card: for every machine and every other argument the law returns true, and the arguments read as they did. Conditions: the package-level variables that the row lists hold what it lists.
-/
import Derived.Test.YtjncpgcccgdeiaaGreatDoorDatT
import Derived.Test.YtjncpgcccgdeiaaGreatDoorLBetween
import Derived.Test.YtjncpgcccgdeiaaGreatDoorOpenB
import Derived.Test.YtjncpgcccgdeiaaGreatDoorCards
import Derived.Test.YtjncpgcccgdeiaaGreatDoorTie
import Derived.ChangeMaps5
import Derived.Deep.DeepWitnessRowRef
import Derived.Test.YtjncpgcccgdeiaaGreatDoorKBetweena
import Derived.Test.YtjncpgcccgdeiaaGreatDoorKBetweenb
import Derived.Test.YtjncpgcccgdeiaaGreatDoorKBetweenc
import Derived.Test.YtjncpgcccgdeiaaGreatDoorKBetweend
set_option linter.unusedSimpArgs false
set_option linter.unusedVariables false
set_option linter.unnecessarySimpa false
namespace Go.Proofs.YtjncpgcccgdeiaaGreatDoor
open Go Go.RowKit Go.ChangeShapes Go.WideShapes Go.ChangeAt

theorem and_tt_fnBetween {a b : Bool} (h1 : a = true) (h2 : b = true) : (a && b) = true := by rw [h1, h2]; rfl
theorem and_l_fnBetween {a b : Bool} (h : (a && b) = true) : a = true := by cases a <;> simp_all
theorem and_r_fnBetween {a b : Bool} (h : (a && b) = true) : b = true := by cases b <;> simp_all
set_option maxRecDepth 100000 in
theorem closed_fnBetween : joinedFacts Tryz.pinned.checked.prog 7 Tryz.f7 (OpenSpec.ofChange Rows.fnBetweenSpec).bare Rows.fnBetweenRow = true := by
  unfold joinedFacts
  exact and_tt_fnBetween (and_tt_fnBetween (and_tt_fnBetween (and_tt_fnBetween (and_tt_fnBetween (and_tt_fnBetween (and_tt_fnBetween (and_tt_fnBetween (and_tt_fnBetween (and_tt_fnBetween (and_tt_fnBetween (and_tt_fnBetween (and_tt_fnBetween (and_tt_fnBetween (and_tt_fnBetween (and_tt_fnBetween (and_tt_fnBetween (and_tt_fnBetween (and_tt_fnBetween (and_tt_fnBetween (and_tt_fnBetween (and_tt_fnBetween (and_tt_fnBetween (cl0_fnBetween) (and_l_fnBetween (and_l_fnBetween (and_l_fnBetween (and_l_fnBetween (and_l_fnBetween (and_l_fnBetween (and_l_fnBetween cl1_fnBetween)))))))) (and_r_fnBetween (and_l_fnBetween (and_l_fnBetween (and_l_fnBetween (and_l_fnBetween (and_l_fnBetween (and_l_fnBetween cl1_fnBetween)))))))) (and_r_fnBetween (and_l_fnBetween (and_l_fnBetween (and_l_fnBetween (and_l_fnBetween (and_l_fnBetween cl1_fnBetween))))))) (and_r_fnBetween (and_l_fnBetween (and_l_fnBetween (and_l_fnBetween (and_l_fnBetween cl1_fnBetween)))))) (and_r_fnBetween (and_l_fnBetween (and_l_fnBetween (and_l_fnBetween cl1_fnBetween))))) (and_r_fnBetween (and_l_fnBetween (and_l_fnBetween cl1_fnBetween)))) (and_r_fnBetween (and_l_fnBetween cl1_fnBetween))) (and_r_fnBetween cl1_fnBetween)) (and_l_fnBetween (and_l_fnBetween (and_l_fnBetween (and_l_fnBetween (and_l_fnBetween (and_l_fnBetween cl2_fnBetween))))))) (and_r_fnBetween (and_l_fnBetween (and_l_fnBetween (and_l_fnBetween (and_l_fnBetween (and_l_fnBetween cl2_fnBetween))))))) (and_r_fnBetween (and_l_fnBetween (and_l_fnBetween (and_l_fnBetween (and_l_fnBetween cl2_fnBetween)))))) (and_r_fnBetween (and_l_fnBetween (and_l_fnBetween (and_l_fnBetween cl2_fnBetween))))) (and_r_fnBetween (and_l_fnBetween (and_l_fnBetween cl2_fnBetween)))) (and_r_fnBetween (and_l_fnBetween cl2_fnBetween))) (and_r_fnBetween cl2_fnBetween)) (and_l_fnBetween (and_l_fnBetween (and_l_fnBetween (and_l_fnBetween (and_l_fnBetween (and_l_fnBetween (and_l_fnBetween cl3_fnBetween)))))))) (and_r_fnBetween (and_l_fnBetween (and_l_fnBetween (and_l_fnBetween (and_l_fnBetween (and_l_fnBetween (and_l_fnBetween cl3_fnBetween)))))))) (and_r_fnBetween (and_l_fnBetween (and_l_fnBetween (and_l_fnBetween (and_l_fnBetween (and_l_fnBetween cl3_fnBetween))))))) (and_r_fnBetween (and_l_fnBetween (and_l_fnBetween (and_l_fnBetween (and_l_fnBetween cl3_fnBetween)))))) (and_r_fnBetween (and_l_fnBetween (and_l_fnBetween (and_l_fnBetween cl3_fnBetween))))) (and_r_fnBetween (and_l_fnBetween (and_l_fnBetween cl3_fnBetween)))) (and_r_fnBetween (and_l_fnBetween cl3_fnBetween))) (and_r_fnBetween cl3_fnBetween)

theorem said_Between : Rows.FnBetweenSaid :=
  OpenClaim.holds_of_cond 7 Tryz.f7 rfl rfl rfl rfl rfl rfl rfl ⟨rfl, rfl, rfl, rfl, rfl⟩ rfl rfl rfl rfl rfl (by kernel_rfl) Tryz.func7 closed_fnBetween
    (of_decide_eq_true (by kernel_rfl)) (by unfold Func.isWrapper; first | (rw [if_pos (by decide +kernel)]; kernel_rfl) | (rw [if_neg (by decide +kernel)]; exact ⟨rfl, rfl⟩))
    (fun os started H enc _ F => by rw [OpenClaim.pre_eq_preRow]; exact lifted_Between os started H enc F)

theorem w_Between : Rows.fnBetweenRow.wfByText (OpenSpec.ofChange Rows.fnBetweenSpec) = true := by kernel_rfl
theorem m_Between : Tryz.pinned.checked.prog.mainIs = some (Rows.fnBetweenCard.stood.harness.1, Rows.fnBetweenCard.stood.harness.2.toList) := by kernel_rfl
theorem k_Between : true = Tryz.pinned.checked.prog.looks [] := by kernel_rfl
theorem plain_Between (f : FuncId) (fn : Func) (hf : Tryz.pinned.checked.prog.funcNamed "loop.example/g00974/laws.FnBetween" = some f) (hfn : Tryz.pinned.checked.prog.funcs[f]? = some fn) :
    true = Tryz.pinned.checked.prog.looks [] ∧ ∀ (j : Nat) t, fn.params[j]? = some t → Tryz.pinned.checked.prog.wantsStandIn t = false := by
  obtain rfl : f = 7 := Option.some.inj ((show Tryz.prog.funcNamed "loop.example/g00974/laws.FnBetween" = some 7 by kernel_rfl).symm.trans hf) |>.symm
  obtain rfl : fn = Tryz.f7 := (Option.some.inj (Tryz.func7.symm.trans hfn)).symm
  refine ⟨k_Between, fun j t ht => ?_⟩
  rw [Tryz.params7] at ht
  have hm := Array.mem_of_getElem? ht
  have hall : ∀ t ∈ (#[39] : Array TypeId), Tryz.prog.wantsStandIn t = false := by
    intro t ht
    simp only [List.mem_toArray, List.mem_cons, List.not_mem_nil, or_false] at ht
    rcases ht with rfl
    · exact (show Tryz.prog.wantsStandIn 39 = false by kernel_rfl)
  exact hall t hm

/-- The card. -/
theorem card_Between : Rows.FnBetweenCardSaid :=
  Claim7.holds_tied_plain_at .later [] _ _ _ _ said_Between (fun _ h => by cases h) w_Between (fun _ h => by cases h) fnBetween_row_tie rfl ⟨rfl, rfl⟩ m_Between rfl plain_Between g_Between
end Go.Proofs.YtjncpgcccgdeiaaGreatDoor
