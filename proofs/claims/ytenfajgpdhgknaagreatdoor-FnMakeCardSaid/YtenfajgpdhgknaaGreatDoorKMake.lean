/-
  laws.FnExactMake: the statement and its card: for every machine and every other argument the law returns true, and the arguments read as they did. Conditions: the package-level variables that the row lists hold what it lists.
-/
import Derived.Test.YtenfajgpdhgknaaGreatDoorLd
import Derived.Test.YtenfajgpdhgknaaGreatDoorLMake
import Derived.Test.YtenfajgpdhgknaaGreatDoorOpenB
import Derived.Test.YtenfajgpdhgknaaGreatDoorCards
import Derived.Test.YtenfajgpdhgknaaGreatDoorTie
import Derived.ChangeMaps5
import Derived.Deep.DeepWitnessRowRef
import Derived.Test.YtenfajgpdhgknaaGreatDoorKMakea
import Derived.Test.YtenfajgpdhgknaaGreatDoorKMakeb
import Derived.Test.YtenfajgpdhgknaaGreatDoorKMakec
import Derived.Test.YtenfajgpdhgknaaGreatDoorKMaked
set_option linter.unusedSimpArgs false
set_option linter.unusedVariables false
set_option linter.unnecessarySimpa false
namespace Go.Proofs.YtenfajgpdhgknaaGreatDoor
open Go Go.RowKit Go.ChangeShapes Go.WideShapes Go.ChangeAt

theorem and_tt_fnMake {a b : Bool} (h1 : a = true) (h2 : b = true) : (a && b) = true := by rw [h1, h2]; rfl
theorem and_l_fnMake {a b : Bool} (h : (a && b) = true) : a = true := by cases a <;> simp_all
theorem and_r_fnMake {a b : Bool} (h : (a && b) = true) : b = true := by cases b <;> simp_all
set_option maxRecDepth 100000 in
theorem closed_fnMake : joinedFacts Tryz.pinned.checked.prog 6 Tryz.f6 (OpenSpec.ofChange Rows.fnMakeSpec).bare Rows.fnMakeRow = true := by
  unfold joinedFacts
  exact and_tt_fnMake (and_tt_fnMake (and_tt_fnMake (and_tt_fnMake (and_tt_fnMake (and_tt_fnMake (and_tt_fnMake (and_tt_fnMake (and_tt_fnMake (and_tt_fnMake (and_tt_fnMake (and_tt_fnMake (and_tt_fnMake (and_tt_fnMake (and_tt_fnMake (and_tt_fnMake (and_tt_fnMake (and_tt_fnMake (and_tt_fnMake (and_tt_fnMake (and_tt_fnMake (and_tt_fnMake (and_tt_fnMake (cl0_fnMake) (and_l_fnMake (and_l_fnMake (and_l_fnMake (and_l_fnMake (and_l_fnMake (and_l_fnMake (and_l_fnMake cl1_fnMake)))))))) (and_r_fnMake (and_l_fnMake (and_l_fnMake (and_l_fnMake (and_l_fnMake (and_l_fnMake (and_l_fnMake cl1_fnMake)))))))) (and_r_fnMake (and_l_fnMake (and_l_fnMake (and_l_fnMake (and_l_fnMake (and_l_fnMake cl1_fnMake))))))) (and_r_fnMake (and_l_fnMake (and_l_fnMake (and_l_fnMake (and_l_fnMake cl1_fnMake)))))) (and_r_fnMake (and_l_fnMake (and_l_fnMake (and_l_fnMake cl1_fnMake))))) (and_r_fnMake (and_l_fnMake (and_l_fnMake cl1_fnMake)))) (and_r_fnMake (and_l_fnMake cl1_fnMake))) (and_r_fnMake cl1_fnMake)) (and_l_fnMake (and_l_fnMake (and_l_fnMake (and_l_fnMake (and_l_fnMake (and_l_fnMake cl2_fnMake))))))) (and_r_fnMake (and_l_fnMake (and_l_fnMake (and_l_fnMake (and_l_fnMake (and_l_fnMake cl2_fnMake))))))) (and_r_fnMake (and_l_fnMake (and_l_fnMake (and_l_fnMake (and_l_fnMake cl2_fnMake)))))) (and_r_fnMake (and_l_fnMake (and_l_fnMake (and_l_fnMake cl2_fnMake))))) (and_r_fnMake (and_l_fnMake (and_l_fnMake cl2_fnMake)))) (and_r_fnMake (and_l_fnMake cl2_fnMake))) (and_r_fnMake cl2_fnMake)) (and_l_fnMake (and_l_fnMake (and_l_fnMake (and_l_fnMake (and_l_fnMake (and_l_fnMake (and_l_fnMake cl3_fnMake)))))))) (and_r_fnMake (and_l_fnMake (and_l_fnMake (and_l_fnMake (and_l_fnMake (and_l_fnMake (and_l_fnMake cl3_fnMake)))))))) (and_r_fnMake (and_l_fnMake (and_l_fnMake (and_l_fnMake (and_l_fnMake (and_l_fnMake cl3_fnMake))))))) (and_r_fnMake (and_l_fnMake (and_l_fnMake (and_l_fnMake (and_l_fnMake cl3_fnMake)))))) (and_r_fnMake (and_l_fnMake (and_l_fnMake (and_l_fnMake cl3_fnMake))))) (and_r_fnMake (and_l_fnMake (and_l_fnMake cl3_fnMake)))) (and_r_fnMake (and_l_fnMake cl3_fnMake))) (and_r_fnMake cl3_fnMake)

theorem said_Make : Rows.FnMakeSaid :=
  OpenClaim.holds_of_cond 6 Tryz.f6 rfl rfl rfl rfl rfl rfl rfl ⟨rfl, rfl, rfl, rfl, rfl⟩ rfl rfl rfl rfl rfl (by kernel_rfl) Tryz.func6 closed_fnMake
    (of_decide_eq_true (by kernel_rfl)) (by unfold Func.isWrapper; first | (rw [if_pos (by decide +kernel)]; kernel_rfl) | (rw [if_neg (by decide +kernel)]; exact ⟨rfl, rfl⟩))
    (fun os started H enc _ F => by rw [OpenClaim.pre_eq_preRow]; exact lifted_Make os started H enc F)

theorem w_Make : Rows.fnMakeRow.wfByText (OpenSpec.ofChange Rows.fnMakeSpec) = true := by kernel_rfl
theorem m_Make : Tryz.pinned.checked.prog.mainIs = some (Rows.fnMakeCard.stood.harness.1, Rows.fnMakeCard.stood.harness.2.toList) := by kernel_rfl
theorem k_Make : true = Tryz.pinned.checked.prog.looks [] := by kernel_rfl
theorem plain_Make (f : FuncId) (fn : Func) (hf : Tryz.pinned.checked.prog.funcNamed "loop.example/g00974/laws.FnMake" = some f) (hfn : Tryz.pinned.checked.prog.funcs[f]? = some fn) :
    true = Tryz.pinned.checked.prog.looks [] ∧ ∀ (j : Nat) t, fn.params[j]? = some t → Tryz.pinned.checked.prog.wantsStandIn t = false := by
  obtain rfl : f = 6 := Option.some.inj ((show Tryz.prog.funcNamed "loop.example/g00974/laws.FnMake" = some 6 by kernel_rfl).symm.trans hf) |>.symm
  obtain rfl : fn = Tryz.f6 := (Option.some.inj (Tryz.func6.symm.trans hfn)).symm
  refine ⟨k_Make, fun j t ht => ?_⟩
  rw [Tryz.params6] at ht
  have hm := Array.mem_of_getElem? ht
  have hall : ∀ t ∈ (#[44] : Array TypeId), Tryz.prog.wantsStandIn t = false := by
    intro t ht
    simp only [List.mem_toArray, List.mem_cons, List.not_mem_nil, or_false] at ht
    rcases ht with rfl
    · exact (show Tryz.prog.wantsStandIn 44 = false by kernel_rfl)
  exact hall t hm

/-- The card. -/
theorem card_Make : Rows.FnMakeCardSaid :=
  Claim7.holds_tied_plain_at .later [] _ _ _ _ said_Make (fun _ h => by cases h) w_Make (fun _ h => by cases h) fnMake_row_tie rfl ⟨rfl, rfl⟩ m_Make rfl plain_Make g_Make
end Go.Proofs.YtenfajgpdhgknaaGreatDoor
