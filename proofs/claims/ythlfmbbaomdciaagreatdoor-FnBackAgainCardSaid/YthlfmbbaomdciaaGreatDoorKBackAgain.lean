/-
Texts of the walk, joined: what each one proves stands at its theorems.
-/
import Derived.Test.YthlfmbbaomdciaaGreatDoorKBackAgaina
import Derived.Test.YthlfmbbaomdciaaGreatDoorKBackAgainb
import Derived.Test.YthlfmbbaomdciaaGreatDoorKBackAgainc
import Derived.Test.YthlfmbbaomdciaaGreatDoorKBackAgaind
set_option linter.unusedSimpArgs false
set_option linter.unusedVariables false
set_option linter.unnecessarySimpa false
namespace Go.Proofs.YthlfmbbaomdciaaGreatDoor
open Go Go.RowKit Go.ChangeShapes Go.WideShapes Go.ChangeAt
theorem and_tt_fnBackAgain {a b : Bool} (h1 : a = true) (h2 : b = true) : (a && b) = true := by rw [h1, h2]; rfl
theorem and_l_fnBackAgain {a b : Bool} (h : (a && b) = true) : a = true := by cases a <;> simp_all
theorem and_r_fnBackAgain {a b : Bool} (h : (a && b) = true) : b = true := by cases b <;> simp_all
set_option maxRecDepth 100000 in
theorem closed_fnBackAgain : joinedFacts Tryz.pinned.checked.prog 5 Tryz.f5 (OpenSpec.ofChange Rows.fnBackAgainSpec).bare Rows.fnBackAgainRow = true := by
 unfold joinedFacts
 exact and_tt_fnBackAgain (and_tt_fnBackAgain (and_tt_fnBackAgain (and_tt_fnBackAgain (and_tt_fnBackAgain (and_tt_fnBackAgain (and_tt_fnBackAgain (and_tt_fnBackAgain (and_tt_fnBackAgain (and_tt_fnBackAgain (and_tt_fnBackAgain (and_tt_fnBackAgain (and_tt_fnBackAgain (and_tt_fnBackAgain (and_tt_fnBackAgain (and_tt_fnBackAgain (and_tt_fnBackAgain (and_tt_fnBackAgain (and_tt_fnBackAgain (and_tt_fnBackAgain (and_tt_fnBackAgain (and_tt_fnBackAgain (and_tt_fnBackAgain (cl0_fnBackAgain) (and_l_fnBackAgain (and_l_fnBackAgain (and_l_fnBackAgain (and_l_fnBackAgain (and_l_fnBackAgain (and_l_fnBackAgain (and_l_fnBackAgain cl1_fnBackAgain)))))))) (and_r_fnBackAgain (and_l_fnBackAgain (and_l_fnBackAgain (and_l_fnBackAgain (and_l_fnBackAgain (and_l_fnBackAgain (and_l_fnBackAgain cl1_fnBackAgain)))))))) (and_r_fnBackAgain (and_l_fnBackAgain (and_l_fnBackAgain (and_l_fnBackAgain (and_l_fnBackAgain (and_l_fnBackAgain cl1_fnBackAgain))))))) (and_r_fnBackAgain (and_l_fnBackAgain (and_l_fnBackAgain (and_l_fnBackAgain (and_l_fnBackAgain cl1_fnBackAgain)))))) (and_r_fnBackAgain (and_l_fnBackAgain (and_l_fnBackAgain (and_l_fnBackAgain cl1_fnBackAgain))))) (and_r_fnBackAgain (and_l_fnBackAgain (and_l_fnBackAgain cl1_fnBackAgain)))) (and_r_fnBackAgain (and_l_fnBackAgain cl1_fnBackAgain))) (and_r_fnBackAgain cl1_fnBackAgain)) (and_l_fnBackAgain (and_l_fnBackAgain (and_l_fnBackAgain (and_l_fnBackAgain (and_l_fnBackAgain (and_l_fnBackAgain cl2_fnBackAgain))))))) (and_r_fnBackAgain (and_l_fnBackAgain (and_l_fnBackAgain (and_l_fnBackAgain (and_l_fnBackAgain (and_l_fnBackAgain cl2_fnBackAgain))))))) (and_r_fnBackAgain (and_l_fnBackAgain (and_l_fnBackAgain (and_l_fnBackAgain (and_l_fnBackAgain cl2_fnBackAgain)))))) (and_r_fnBackAgain (and_l_fnBackAgain (and_l_fnBackAgain (and_l_fnBackAgain cl2_fnBackAgain))))) (and_r_fnBackAgain (and_l_fnBackAgain (and_l_fnBackAgain cl2_fnBackAgain)))) (and_r_fnBackAgain (and_l_fnBackAgain cl2_fnBackAgain))) (and_r_fnBackAgain cl2_fnBackAgain)) (and_l_fnBackAgain (and_l_fnBackAgain (and_l_fnBackAgain (and_l_fnBackAgain (and_l_fnBackAgain (and_l_fnBackAgain (and_l_fnBackAgain cl3_fnBackAgain)))))))) (and_r_fnBackAgain (and_l_fnBackAgain (and_l_fnBackAgain (and_l_fnBackAgain (and_l_fnBackAgain (and_l_fnBackAgain (and_l_fnBackAgain cl3_fnBackAgain)))))))) (and_r_fnBackAgain (and_l_fnBackAgain (and_l_fnBackAgain (and_l_fnBackAgain (and_l_fnBackAgain (and_l_fnBackAgain cl3_fnBackAgain))))))) (and_r_fnBackAgain (and_l_fnBackAgain (and_l_fnBackAgain (and_l_fnBackAgain (and_l_fnBackAgain cl3_fnBackAgain)))))) (and_r_fnBackAgain (and_l_fnBackAgain (and_l_fnBackAgain (and_l_fnBackAgain cl3_fnBackAgain))))) (and_r_fnBackAgain (and_l_fnBackAgain (and_l_fnBackAgain cl3_fnBackAgain)))) (and_r_fnBackAgain (and_l_fnBackAgain cl3_fnBackAgain))) (and_r_fnBackAgain cl3_fnBackAgain)

theorem said_BackAgain : Rows.FnBackAgainSaid :=
 OpenClaim.holds_of_cond 5 Tryz.f5 rfl rfl rfl rfl rfl rfl rfl ⟨rfl, rfl, rfl, rfl, rfl⟩ rfl rfl rfl rfl rfl (by kernel_rfl) Tryz.func5 closed_fnBackAgain
   (of_decide_eq_true (by kernel_rfl)) (by unfold Func.isWrapper; first | (rw [if_pos (by decide +kernel)]; kernel_rfl) | (rw [if_neg (by decide +kernel)]; exact ⟨rfl, rfl⟩))
   (fun os started H enc _ F => by rw [OpenClaim.pre_eq_preRow]; exact lifted_BackAgain os started H enc F)

theorem w_BackAgain : Rows.fnBackAgainRow.wfByText (OpenSpec.ofChange Rows.fnBackAgainSpec) = true := by kernel_rfl
theorem m_BackAgain : Tryz.pinned.checked.prog.mainIs = some (Rows.fnBackAgainCard.stood.harness.1, Rows.fnBackAgainCard.stood.harness.2.toList) := by kernel_rfl
theorem k_BackAgain : true = Tryz.pinned.checked.prog.looks [] := by kernel_rfl
theorem plain_BackAgain (f : FuncId) (fn : Func) (hf : Tryz.pinned.checked.prog.funcNamed "loop.example/g00974/laws.FnBackAgain" = some f) (hfn : Tryz.pinned.checked.prog.funcs[f]? = some fn) :
   true = Tryz.pinned.checked.prog.looks [] ∧ ∀ (j : Nat) t, fn.params[j]? = some t → Tryz.pinned.checked.prog.wantsStandIn t = false := by
 obtain rfl : f = 5 := Option.some.inj ((show Tryz.prog.funcNamed "loop.example/g00974/laws.FnBackAgain" = some 5 by kernel_rfl).symm.trans hf) |>.symm
 obtain rfl : fn = Tryz.f5 := (Option.some.inj (Tryz.func5.symm.trans hfn)).symm
 refine ⟨k_BackAgain, fun j t ht => ?_⟩
 rw [Tryz.params5] at ht
 have hm := Array.mem_of_getElem? ht
 have hall : ∀ t ∈ (#[22] : Array TypeId), Tryz.prog.wantsStandIn t = false := by
   intro t ht
   simp only [List.mem_toArray, List.mem_cons, List.not_mem_nil, or_false] at ht
   rcases ht with rfl
   · exact (show Tryz.prog.wantsStandIn 22 = false by kernel_rfl)
 exact hall t hm

/-- The card. -/
theorem card_BackAgain : Rows.FnBackAgainCardSaid :=
 Claim7.holds_tied_plain_at .later [] _ _ _ _ said_BackAgain (fun _ h => by cases h) w_BackAgain (fun _ h => by cases h) fnBackAgain_row_tie rfl ⟨rfl, rfl⟩ m_BackAgain rfl plain_BackAgain g_BackAgain
end Go.Proofs.YthlfmbbaomdciaaGreatDoor
