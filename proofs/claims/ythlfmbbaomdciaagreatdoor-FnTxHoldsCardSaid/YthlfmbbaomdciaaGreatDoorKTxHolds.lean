/-
Texts of the walk, joined: what each one proves stands at its theorems.
-/
import Derived.Test.YthlfmbbaomdciaaGreatDoorKTxHoldsa
import Derived.Test.YthlfmbbaomdciaaGreatDoorKTxHoldsb
import Derived.Test.YthlfmbbaomdciaaGreatDoorKTxHoldsc
import Derived.Test.YthlfmbbaomdciaaGreatDoorKTxHoldsd
set_option linter.unusedSimpArgs false
set_option linter.unusedVariables false
set_option linter.unnecessarySimpa false
namespace Go.Proofs.YthlfmbbaomdciaaGreatDoor
open Go Go.RowKit Go.ChangeShapes Go.WideShapes Go.ChangeAt
theorem and_tt_fnTxHolds {a b : Bool} (h1 : a = true) (h2 : b = true) : (a && b) = true := by rw [h1, h2]; rfl
theorem and_l_fnTxHolds {a b : Bool} (h : (a && b) = true) : a = true := by cases a <;> simp_all
theorem and_r_fnTxHolds {a b : Bool} (h : (a && b) = true) : b = true := by cases b <;> simp_all
set_option maxRecDepth 100000 in
theorem closed_fnTxHolds : joinedFacts Tryz.pinned.checked.prog 10 Tryz.f10 (OpenSpec.ofChange Rows.fnTxHoldsSpec).bare Rows.fnTxHoldsRow = true := by
 unfold joinedFacts
 exact and_tt_fnTxHolds (and_tt_fnTxHolds (and_tt_fnTxHolds (and_tt_fnTxHolds (and_tt_fnTxHolds (and_tt_fnTxHolds (and_tt_fnTxHolds (and_tt_fnTxHolds (and_tt_fnTxHolds (and_tt_fnTxHolds (and_tt_fnTxHolds (and_tt_fnTxHolds (and_tt_fnTxHolds (and_tt_fnTxHolds (and_tt_fnTxHolds (and_tt_fnTxHolds (and_tt_fnTxHolds (and_tt_fnTxHolds (and_tt_fnTxHolds (and_tt_fnTxHolds (and_tt_fnTxHolds (and_tt_fnTxHolds (and_tt_fnTxHolds (cl0_fnTxHolds) (and_l_fnTxHolds (and_l_fnTxHolds (and_l_fnTxHolds (and_l_fnTxHolds (and_l_fnTxHolds (and_l_fnTxHolds (and_l_fnTxHolds cl1_fnTxHolds)))))))) (and_r_fnTxHolds (and_l_fnTxHolds (and_l_fnTxHolds (and_l_fnTxHolds (and_l_fnTxHolds (and_l_fnTxHolds (and_l_fnTxHolds cl1_fnTxHolds)))))))) (and_r_fnTxHolds (and_l_fnTxHolds (and_l_fnTxHolds (and_l_fnTxHolds (and_l_fnTxHolds (and_l_fnTxHolds cl1_fnTxHolds))))))) (and_r_fnTxHolds (and_l_fnTxHolds (and_l_fnTxHolds (and_l_fnTxHolds (and_l_fnTxHolds cl1_fnTxHolds)))))) (and_r_fnTxHolds (and_l_fnTxHolds (and_l_fnTxHolds (and_l_fnTxHolds cl1_fnTxHolds))))) (and_r_fnTxHolds (and_l_fnTxHolds (and_l_fnTxHolds cl1_fnTxHolds)))) (and_r_fnTxHolds (and_l_fnTxHolds cl1_fnTxHolds))) (and_r_fnTxHolds cl1_fnTxHolds)) (and_l_fnTxHolds (and_l_fnTxHolds (and_l_fnTxHolds (and_l_fnTxHolds (and_l_fnTxHolds (and_l_fnTxHolds cl2_fnTxHolds))))))) (and_r_fnTxHolds (and_l_fnTxHolds (and_l_fnTxHolds (and_l_fnTxHolds (and_l_fnTxHolds (and_l_fnTxHolds cl2_fnTxHolds))))))) (and_r_fnTxHolds (and_l_fnTxHolds (and_l_fnTxHolds (and_l_fnTxHolds (and_l_fnTxHolds cl2_fnTxHolds)))))) (and_r_fnTxHolds (and_l_fnTxHolds (and_l_fnTxHolds (and_l_fnTxHolds cl2_fnTxHolds))))) (and_r_fnTxHolds (and_l_fnTxHolds (and_l_fnTxHolds cl2_fnTxHolds)))) (and_r_fnTxHolds (and_l_fnTxHolds cl2_fnTxHolds))) (and_r_fnTxHolds cl2_fnTxHolds)) (and_l_fnTxHolds (and_l_fnTxHolds (and_l_fnTxHolds (and_l_fnTxHolds (and_l_fnTxHolds (and_l_fnTxHolds (and_l_fnTxHolds cl3_fnTxHolds)))))))) (and_r_fnTxHolds (and_l_fnTxHolds (and_l_fnTxHolds (and_l_fnTxHolds (and_l_fnTxHolds (and_l_fnTxHolds (and_l_fnTxHolds cl3_fnTxHolds)))))))) (and_r_fnTxHolds (and_l_fnTxHolds (and_l_fnTxHolds (and_l_fnTxHolds (and_l_fnTxHolds (and_l_fnTxHolds cl3_fnTxHolds))))))) (and_r_fnTxHolds (and_l_fnTxHolds (and_l_fnTxHolds (and_l_fnTxHolds (and_l_fnTxHolds cl3_fnTxHolds)))))) (and_r_fnTxHolds (and_l_fnTxHolds (and_l_fnTxHolds (and_l_fnTxHolds cl3_fnTxHolds))))) (and_r_fnTxHolds (and_l_fnTxHolds (and_l_fnTxHolds cl3_fnTxHolds)))) (and_r_fnTxHolds (and_l_fnTxHolds cl3_fnTxHolds))) (and_r_fnTxHolds cl3_fnTxHolds)

theorem said_TxHolds : Rows.FnTxHoldsSaid :=
 OpenClaim.holds_of_cond 10 Tryz.f10 rfl rfl rfl rfl rfl rfl rfl ⟨rfl, rfl, rfl, rfl, rfl⟩ rfl rfl rfl rfl rfl (by kernel_rfl) Tryz.func10 closed_fnTxHolds
   (of_decide_eq_true (by kernel_rfl)) (by unfold Func.isWrapper; first | (rw [if_pos (by decide +kernel)]; kernel_rfl) | (rw [if_neg (by decide +kernel)]; exact ⟨rfl, rfl⟩))
   (fun os started H enc _ F => by rw [OpenClaim.pre_eq_preRow]; exact lifted_TxHolds os started H enc F)

theorem w_TxHolds : Rows.fnTxHoldsRow.wfByText (OpenSpec.ofChange Rows.fnTxHoldsSpec) = true := by kernel_rfl
theorem m_TxHolds : Tryz.pinned.checked.prog.mainIs = some (Rows.fnTxHoldsCard.stood.harness.1, Rows.fnTxHoldsCard.stood.harness.2.toList) := by kernel_rfl
theorem k_TxHolds : true = Tryz.pinned.checked.prog.looks [] := by kernel_rfl
theorem plain_TxHolds (f : FuncId) (fn : Func) (hf : Tryz.pinned.checked.prog.funcNamed "loop.example/g00974/laws.FnTxHolds" = some f) (hfn : Tryz.pinned.checked.prog.funcs[f]? = some fn) :
   true = Tryz.pinned.checked.prog.looks [] ∧ ∀ (j : Nat) t, fn.params[j]? = some t → Tryz.pinned.checked.prog.wantsStandIn t = false := by
 obtain rfl : f = 10 := Option.some.inj ((show Tryz.prog.funcNamed "loop.example/g00974/laws.FnTxHolds" = some 10 by kernel_rfl).symm.trans hf) |>.symm
 obtain rfl : fn = Tryz.f10 := (Option.some.inj (Tryz.func10.symm.trans hfn)).symm
 refine ⟨k_TxHolds, fun j t ht => ?_⟩
 rw [Tryz.params10] at ht
 have hm := Array.mem_of_getElem? ht
 have hall : ∀ t ∈ (#[22] : Array TypeId), Tryz.prog.wantsStandIn t = false := by
   intro t ht
   simp only [List.mem_toArray, List.mem_cons, List.not_mem_nil, or_false] at ht
   rcases ht with rfl
   · exact (show Tryz.prog.wantsStandIn 22 = false by kernel_rfl)
 exact hall t hm

/-- The card. -/
theorem card_TxHolds : Rows.FnTxHoldsCardSaid :=
 Claim7.holds_tied_plain_at .later [] _ _ _ _ said_TxHolds (fun _ h => by cases h) w_TxHolds (fun _ h => by cases h) fnTxHolds_row_tie rfl ⟨rfl, rfl⟩ m_TxHolds rfl plain_TxHolds g_TxHolds
end Go.Proofs.YthlfmbbaomdciaaGreatDoor
