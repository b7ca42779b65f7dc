/-
  laws.FnExactKernelNew: the statement and its card: for every machine and every other argument the law returns true, and the arguments read as they did. Conditions: the package-level variables that the row lists hold what it lists.
-/
import Derived.Test.YtkmpmjficoohkaaGreatDoorFlat
import Derived.Test.YtkmpmjficoohkaaGreatDoorLKernelNew
import Derived.Test.YtkmpmjficoohkaaGreatDoorCards
import Derived.Test.YtkmpmjficoohkaaGreatDoorTie
import Derived.ChangeMaps5
import Derived.Deep.DeepWitnessRowRef
import Derived.Test.YtkmpmjficoohkaaGreatDoorKKernelNewa
import Derived.Test.YtkmpmjficoohkaaGreatDoorKKernelNewb
import Derived.Test.YtkmpmjficoohkaaGreatDoorKKernelNewc
import Derived.Test.YtkmpmjficoohkaaGreatDoorKKernelNewd
set_option linter.unusedSimpArgs false
set_option linter.unusedVariables false
set_option linter.unnecessarySimpa false
namespace Go.Proofs.YtkmpmjficoohkaaGreatDoor
open Go Go.RowKit Go.ChangeShapes Go.WideShapes Go.ChangeAt

theorem and_tt_fnExactKernelNew {a b : Bool} (h1 : a = true) (h2 : b = true) : (a && b) = true := by rw [h1, h2]; rfl
theorem and_l_fnExactKernelNew {a b : Bool} (h : (a && b) = true) : a = true := by cases a <;> simp_all
theorem and_r_fnExactKernelNew {a b : Bool} (h : (a && b) = true) : b = true := by cases b <;> simp_all
set_option maxRecDepth 100000 in
theorem closed_fnExactKernelNew : joinedFacts Tryz.pinned.checked.prog 3 Tryz.f3 (OpenSpec.ofChange Rows.fnExactKernelNewSpec).bare Rows.fnExactKernelNewRow = true := by
  unfold joinedFacts
  exact and_tt_fnExactKernelNew (and_tt_fnExactKernelNew (and_tt_fnExactKernelNew (and_tt_fnExactKernelNew (and_tt_fnExactKernelNew (and_tt_fnExactKernelNew (and_tt_fnExactKernelNew (and_tt_fnExactKernelNew (and_tt_fnExactKernelNew (and_tt_fnExactKernelNew (and_tt_fnExactKernelNew (and_tt_fnExactKernelNew (and_tt_fnExactKernelNew (and_tt_fnExactKernelNew (and_tt_fnExactKernelNew (and_tt_fnExactKernelNew (and_tt_fnExactKernelNew (and_tt_fnExactKernelNew (and_tt_fnExactKernelNew (and_tt_fnExactKernelNew (and_tt_fnExactKernelNew (and_tt_fnExactKernelNew (and_tt_fnExactKernelNew (cl0_fnExactKernelNew) (and_l_fnExactKernelNew (and_l_fnExactKernelNew (and_l_fnExactKernelNew (and_l_fnExactKernelNew (and_l_fnExactKernelNew (and_l_fnExactKernelNew (and_l_fnExactKernelNew cl1_fnExactKernelNew)))))))) (and_r_fnExactKernelNew (and_l_fnExactKernelNew (and_l_fnExactKernelNew (and_l_fnExactKernelNew (and_l_fnExactKernelNew (and_l_fnExactKernelNew (and_l_fnExactKernelNew cl1_fnExactKernelNew)))))))) (and_r_fnExactKernelNew (and_l_fnExactKernelNew (and_l_fnExactKernelNew (and_l_fnExactKernelNew (and_l_fnExactKernelNew (and_l_fnExactKernelNew cl1_fnExactKernelNew))))))) (and_r_fnExactKernelNew (and_l_fnExactKernelNew (and_l_fnExactKernelNew (and_l_fnExactKernelNew (and_l_fnExactKernelNew cl1_fnExactKernelNew)))))) (and_r_fnExactKernelNew (and_l_fnExactKernelNew (and_l_fnExactKernelNew (and_l_fnExactKernelNew cl1_fnExactKernelNew))))) (and_r_fnExactKernelNew (and_l_fnExactKernelNew (and_l_fnExactKernelNew cl1_fnExactKernelNew)))) (and_r_fnExactKernelNew (and_l_fnExactKernelNew cl1_fnExactKernelNew))) (and_r_fnExactKernelNew cl1_fnExactKernelNew)) (and_l_fnExactKernelNew (and_l_fnExactKernelNew (and_l_fnExactKernelNew (and_l_fnExactKernelNew (and_l_fnExactKernelNew (and_l_fnExactKernelNew cl2_fnExactKernelNew))))))) (and_r_fnExactKernelNew (and_l_fnExactKernelNew (and_l_fnExactKernelNew (and_l_fnExactKernelNew (and_l_fnExactKernelNew (and_l_fnExactKernelNew cl2_fnExactKernelNew))))))) (and_r_fnExactKernelNew (and_l_fnExactKernelNew (and_l_fnExactKernelNew (and_l_fnExactKernelNew (and_l_fnExactKernelNew cl2_fnExactKernelNew)))))) (and_r_fnExactKernelNew (and_l_fnExactKernelNew (and_l_fnExactKernelNew (and_l_fnExactKernelNew cl2_fnExactKernelNew))))) (and_r_fnExactKernelNew (and_l_fnExactKernelNew (and_l_fnExactKernelNew cl2_fnExactKernelNew)))) (and_r_fnExactKernelNew (and_l_fnExactKernelNew cl2_fnExactKernelNew))) (and_r_fnExactKernelNew cl2_fnExactKernelNew)) (and_l_fnExactKernelNew (and_l_fnExactKernelNew (and_l_fnExactKernelNew (and_l_fnExactKernelNew (and_l_fnExactKernelNew (and_l_fnExactKernelNew (and_l_fnExactKernelNew cl3_fnExactKernelNew)))))))) (and_r_fnExactKernelNew (and_l_fnExactKernelNew (and_l_fnExactKernelNew (and_l_fnExactKernelNew (and_l_fnExactKernelNew (and_l_fnExactKernelNew (and_l_fnExactKernelNew cl3_fnExactKernelNew)))))))) (and_r_fnExactKernelNew (and_l_fnExactKernelNew (and_l_fnExactKernelNew (and_l_fnExactKernelNew (and_l_fnExactKernelNew (and_l_fnExactKernelNew cl3_fnExactKernelNew))))))) (and_r_fnExactKernelNew (and_l_fnExactKernelNew (and_l_fnExactKernelNew (and_l_fnExactKernelNew (and_l_fnExactKernelNew cl3_fnExactKernelNew)))))) (and_r_fnExactKernelNew (and_l_fnExactKernelNew (and_l_fnExactKernelNew (and_l_fnExactKernelNew cl3_fnExactKernelNew))))) (and_r_fnExactKernelNew (and_l_fnExactKernelNew (and_l_fnExactKernelNew cl3_fnExactKernelNew)))) (and_r_fnExactKernelNew (and_l_fnExactKernelNew cl3_fnExactKernelNew))) (and_r_fnExactKernelNew cl3_fnExactKernelNew)

theorem said_KernelNew : Rows.FnExactKernelNewSaid :=
  OpenClaim.holds_of_cond 3 Tryz.f3 rfl rfl rfl rfl rfl rfl rfl ⟨rfl, rfl, rfl, rfl, rfl⟩ rfl rfl rfl rfl rfl (by kernel_rfl) Tryz.func3 closed_fnExactKernelNew
    (of_decide_eq_true (by kernel_rfl)) (by unfold Func.isWrapper; first | (rw [if_pos (by decide +kernel)]; kernel_rfl) | (rw [if_neg (by decide +kernel)]; exact ⟨rfl, rfl⟩))
    (fun os started H enc _ F => by rw [OpenClaim.pre_eq_preRow]; exact lifted_KernelNew os started H enc F)

theorem w_KernelNew : Rows.fnExactKernelNewRow.wfByText (OpenSpec.ofChange Rows.fnExactKernelNewSpec) = true := by kernel_rfl
theorem m_KernelNew : Tryz.pinned.checked.prog.mainIs = some (Rows.fnExactKernelNewCard.stood.harness.1, Rows.fnExactKernelNewCard.stood.harness.2.toList) := by kernel_rfl
theorem k_KernelNew : true = Tryz.pinned.checked.prog.looks [] := by kernel_rfl
theorem plain_KernelNew (f : FuncId) (fn : Func) (hf : Tryz.pinned.checked.prog.funcNamed "loop.example/g00974/laws.FnExactKernelNew" = some f) (hfn : Tryz.pinned.checked.prog.funcs[f]? = some fn) :
    true = Tryz.pinned.checked.prog.looks [] ∧ ∀ (j : Nat) t, fn.params[j]? = some t → Tryz.pinned.checked.prog.wantsStandIn t = false := by
  obtain rfl : f = 3 := Option.some.inj ((show Tryz.prog.funcNamed "loop.example/g00974/laws.FnExactKernelNew" = some 3 by kernel_rfl).symm.trans hf) |>.symm
  obtain rfl : fn = Tryz.f3 := (Option.some.inj (Tryz.func3.symm.trans hfn)).symm
  refine ⟨k_KernelNew, fun j t ht => ?_⟩
  rw [Tryz.params3] at ht
  have hm := Array.mem_of_getElem? ht
  have hall : ∀ t ∈ (#[] : Array TypeId), Tryz.prog.wantsStandIn t = false := by
    intro t ht
    simp only [List.mem_toArray, List.mem_cons, List.not_mem_nil, or_false] at ht

  exact hall t hm

/-- The card. -/
theorem card_KernelNew : Rows.FnExactKernelNewCardSaid :=
  Claim7.holds_tied_plain_at .later [] _ _ _ _ said_KernelNew (fun _ h => by cases h) w_KernelNew (fun _ h => by cases h) fnExactKernelNew_row_tie rfl ⟨rfl, rfl⟩ m_KernelNew rfl plain_KernelNew g_KernelNew
end Go.Proofs.YtkmpmjficoohkaaGreatDoor
