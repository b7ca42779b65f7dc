/-
  laws.FnExactDoCall: the statement and its card: for every machine and every other argument the law returns true, and the arguments read as they did. Conditions: the package-level variables that the row lists hold what it lists.
-/
import Derived.Test.YthdgcbdfcclgbaaGreatDoorSc
import Derived.Test.YthdgcbdfcclgbaaGreatDoorLDoCall
import Derived.Test.YthdgcbdfcclgbaaGreatDoorOpenK
import Derived.Test.YthdgcbdfcclgbaaGreatDoorCards
import Derived.Test.YthdgcbdfcclgbaaGreatDoorTie
import Derived.ChangeMaps5
import Derived.Deep.DeepWitnessRowRef
import Derived.Test.YthdgcbdfcclgbaaGreatDoorKDoCalla
import Derived.Test.YthdgcbdfcclgbaaGreatDoorKDoCallb
import Derived.Test.YthdgcbdfcclgbaaGreatDoorKDoCallc
import Derived.Test.YthdgcbdfcclgbaaGreatDoorKDoCalld
set_option linter.unusedSimpArgs false
set_option linter.unusedVariables false
set_option linter.unnecessarySimpa false
namespace Go.Proofs.YthdgcbdfcclgbaaGreatDoor
open Go Go.RowKit Go.ChangeShapes Go.WideShapes Go.ChangeAt

theorem and_tt_fnExactDoCall {a b : Bool} (h1 : a = true) (h2 : b = true) : (a && b) = true := by rw [h1, h2]; rfl
theorem and_l_fnExactDoCall {a b : Bool} (h : (a && b) = true) : a = true := by cases a <;> simp_all
theorem and_r_fnExactDoCall {a b : Bool} (h : (a && b) = true) : b = true := by cases b <;> simp_all
set_option maxRecDepth 100000 in
theorem closed_fnExactDoCall : joinedFacts Tryz.pinned.checked.prog 3 Tryz.f3 (OpenSpec.ofChange Rows.fnExactDoCallSpec).bare Rows.fnExactDoCallRow = true := by
  unfold joinedFacts
  exact and_tt_fnExactDoCall (and_tt_fnExactDoCall (and_tt_fnExactDoCall (and_tt_fnExactDoCall (and_tt_fnExactDoCall (and_tt_fnExactDoCall (and_tt_fnExactDoCall (and_tt_fnExactDoCall (and_tt_fnExactDoCall (and_tt_fnExactDoCall (and_tt_fnExactDoCall (and_tt_fnExactDoCall (and_tt_fnExactDoCall (and_tt_fnExactDoCall (and_tt_fnExactDoCall (and_tt_fnExactDoCall (and_tt_fnExactDoCall (and_tt_fnExactDoCall (and_tt_fnExactDoCall (and_tt_fnExactDoCall (and_tt_fnExactDoCall (and_tt_fnExactDoCall (and_tt_fnExactDoCall (cl0_fnExactDoCall) (and_l_fnExactDoCall (and_l_fnExactDoCall (and_l_fnExactDoCall (and_l_fnExactDoCall (and_l_fnExactDoCall (and_l_fnExactDoCall (and_l_fnExactDoCall cl1_fnExactDoCall)))))))) (and_r_fnExactDoCall (and_l_fnExactDoCall (and_l_fnExactDoCall (and_l_fnExactDoCall (and_l_fnExactDoCall (and_l_fnExactDoCall (and_l_fnExactDoCall cl1_fnExactDoCall)))))))) (and_r_fnExactDoCall (and_l_fnExactDoCall (and_l_fnExactDoCall (and_l_fnExactDoCall (and_l_fnExactDoCall (and_l_fnExactDoCall cl1_fnExactDoCall))))))) (and_r_fnExactDoCall (and_l_fnExactDoCall (and_l_fnExactDoCall (and_l_fnExactDoCall (and_l_fnExactDoCall cl1_fnExactDoCall)))))) (and_r_fnExactDoCall (and_l_fnExactDoCall (and_l_fnExactDoCall (and_l_fnExactDoCall cl1_fnExactDoCall))))) (and_r_fnExactDoCall (and_l_fnExactDoCall (and_l_fnExactDoCall cl1_fnExactDoCall)))) (and_r_fnExactDoCall (and_l_fnExactDoCall cl1_fnExactDoCall))) (and_r_fnExactDoCall cl1_fnExactDoCall)) (and_l_fnExactDoCall (and_l_fnExactDoCall (and_l_fnExactDoCall (and_l_fnExactDoCall (and_l_fnExactDoCall (and_l_fnExactDoCall cl2_fnExactDoCall))))))) (and_r_fnExactDoCall (and_l_fnExactDoCall (and_l_fnExactDoCall (and_l_fnExactDoCall (and_l_fnExactDoCall (and_l_fnExactDoCall cl2_fnExactDoCall))))))) (and_r_fnExactDoCall (and_l_fnExactDoCall (and_l_fnExactDoCall (and_l_fnExactDoCall (and_l_fnExactDoCall cl2_fnExactDoCall)))))) (and_r_fnExactDoCall (and_l_fnExactDoCall (and_l_fnExactDoCall (and_l_fnExactDoCall cl2_fnExactDoCall))))) (and_r_fnExactDoCall (and_l_fnExactDoCall (and_l_fnExactDoCall cl2_fnExactDoCall)))) (and_r_fnExactDoCall (and_l_fnExactDoCall cl2_fnExactDoCall))) (and_r_fnExactDoCall cl2_fnExactDoCall)) (and_l_fnExactDoCall (and_l_fnExactDoCall (and_l_fnExactDoCall (and_l_fnExactDoCall (and_l_fnExactDoCall (and_l_fnExactDoCall (and_l_fnExactDoCall cl3_fnExactDoCall)))))))) (and_r_fnExactDoCall (and_l_fnExactDoCall (and_l_fnExactDoCall (and_l_fnExactDoCall (and_l_fnExactDoCall (and_l_fnExactDoCall (and_l_fnExactDoCall cl3_fnExactDoCall)))))))) (and_r_fnExactDoCall (and_l_fnExactDoCall (and_l_fnExactDoCall (and_l_fnExactDoCall (and_l_fnExactDoCall (and_l_fnExactDoCall cl3_fnExactDoCall))))))) (and_r_fnExactDoCall (and_l_fnExactDoCall (and_l_fnExactDoCall (and_l_fnExactDoCall (and_l_fnExactDoCall cl3_fnExactDoCall)))))) (and_r_fnExactDoCall (and_l_fnExactDoCall (and_l_fnExactDoCall (and_l_fnExactDoCall cl3_fnExactDoCall))))) (and_r_fnExactDoCall (and_l_fnExactDoCall (and_l_fnExactDoCall cl3_fnExactDoCall)))) (and_r_fnExactDoCall (and_l_fnExactDoCall cl3_fnExactDoCall))) (and_r_fnExactDoCall cl3_fnExactDoCall)

theorem said_DoCall : Rows.FnExactDoCallSaid :=
  OpenClaim.holds_of_cond 3 Tryz.f3 rfl rfl rfl rfl rfl rfl rfl ⟨rfl, rfl, rfl, rfl, rfl⟩ rfl rfl rfl rfl rfl (by kernel_rfl) Tryz.func3 closed_fnExactDoCall
    (of_decide_eq_true (by kernel_rfl)) (by unfold Func.isWrapper; first | (rw [if_pos (by decide +kernel)]; kernel_rfl) | (rw [if_neg (by decide +kernel)]; exact ⟨rfl, rfl⟩))
    (fun os started H enc _ F => by rw [OpenClaim.pre_eq_preRow]; exact lifted_DoCall os started H enc F)

theorem w_DoCall : Rows.fnExactDoCallRow.wfByText (OpenSpec.ofChange Rows.fnExactDoCallSpec) = true := by kernel_rfl
theorem m_DoCall : Tryz.pinned.checked.prog.mainIs = some (Rows.fnExactDoCallCard.stood.harness.1, Rows.fnExactDoCallCard.stood.harness.2.toList) := by kernel_rfl
theorem k_DoCall : true = Tryz.pinned.checked.prog.looks [] := by kernel_rfl
theorem plain_DoCall (f : FuncId) (fn : Func) (hf : Tryz.pinned.checked.prog.funcNamed "loop.example/g00974/laws.FnExactDoCall" = some f) (hfn : Tryz.pinned.checked.prog.funcs[f]? = some fn) :
    true = Tryz.pinned.checked.prog.looks [] ∧ ∀ (j : Nat) t, fn.params[j]? = some t → Tryz.pinned.checked.prog.wantsStandIn t = false := by
  obtain rfl : f = 3 := Option.some.inj ((show Tryz.prog.funcNamed "loop.example/g00974/laws.FnExactDoCall" = some 3 by kernel_rfl).symm.trans hf) |>.symm
  obtain rfl : fn = Tryz.f3 := (Option.some.inj (Tryz.func3.symm.trans hfn)).symm
  refine ⟨k_DoCall, fun j t ht => ?_⟩
  rw [Tryz.params3] at ht
  have hm := Array.mem_of_getElem? ht
  have hall : ∀ t ∈ (#[27, 3, 29] : Array TypeId), Tryz.prog.wantsStandIn t = false := by
    intro t ht
    simp only [List.mem_toArray, List.mem_cons, List.not_mem_nil, or_false] at ht
    rcases ht with rfl | rfl | rfl
    · exact (show Tryz.prog.wantsStandIn 27 = false by kernel_rfl)
    · exact (show Tryz.prog.wantsStandIn 3 = false by kernel_rfl)
    · exact (show Tryz.prog.wantsStandIn 29 = false by kernel_rfl)
  exact hall t hm

/-- The card. -/
theorem card_DoCall : Rows.FnExactDoCallCardSaid :=
  Claim7.holds_tied_plain_at .later [] _ _ _ _ said_DoCall (fun _ h => by cases h) w_DoCall (fun _ h => by cases h) fnExactDoCall_row_tie rfl ⟨rfl, rfl⟩ m_DoCall rfl plain_DoCall g_DoCall
end Go.Proofs.YthdgcbdfcclgbaaGreatDoor
