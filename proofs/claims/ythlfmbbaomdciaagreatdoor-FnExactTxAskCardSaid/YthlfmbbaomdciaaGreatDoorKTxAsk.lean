/-
Texts of the walk, joined: what each one proves stands at its theorems.
-/
import Derived.Test.YthlfmbbaomdciaaGreatDoorKTxAska
import Derived.Test.YthlfmbbaomdciaaGreatDoorKTxAskb
import Derived.Test.YthlfmbbaomdciaaGreatDoorKTxAskc
import Derived.Test.YthlfmbbaomdciaaGreatDoorKTxAskd
set_option linter.unusedSimpArgs false
set_option linter.unusedVariables false
set_option linter.unnecessarySimpa false
namespace Go.Proofs.YthlfmbbaomdciaaGreatDoor
open Go Go.RowKit Go.ChangeShapes Go.WideShapes Go.ChangeAt
theorem and_tt_fnExactTxAsk {a b : Bool} (h1 : a = true) (h2 : b = true) : (a && b) = true := by rw [h1, h2]; rfl
theorem and_l_fnExactTxAsk {a b : Bool} (h : (a && b) = true) : a = true := by cases a <;> simp_all
theorem and_r_fnExactTxAsk {a b : Bool} (h : (a && b) = true) : b = true := by cases b <;> simp_all
set_option maxRecDepth 100000 in
theorem closed_fnExactTxAsk : joinedFacts Tryz.pinned.checked.prog 12 Tryz.f12 (OpenSpec.ofChange Rows.fnExactTxAskSpec).bare Rows.fnExactTxAskRow = true := by
 unfold joinedFacts
 exact and_tt_fnExactTxAsk (and_tt_fnExactTxAsk (and_tt_fnExactTxAsk (and_tt_fnExactTxAsk (and_tt_fnExactTxAsk (and_tt_fnExactTxAsk (and_tt_fnExactTxAsk (and_tt_fnExactTxAsk (and_tt_fnExactTxAsk (and_tt_fnExactTxAsk (and_tt_fnExactTxAsk (and_tt_fnExactTxAsk (and_tt_fnExactTxAsk (and_tt_fnExactTxAsk (and_tt_fnExactTxAsk (and_tt_fnExactTxAsk (and_tt_fnExactTxAsk (and_tt_fnExactTxAsk (and_tt_fnExactTxAsk (and_tt_fnExactTxAsk (and_tt_fnExactTxAsk (and_tt_fnExactTxAsk (and_tt_fnExactTxAsk (cl0_fnExactTxAsk) (and_l_fnExactTxAsk (and_l_fnExactTxAsk (and_l_fnExactTxAsk (and_l_fnExactTxAsk (and_l_fnExactTxAsk (and_l_fnExactTxAsk (and_l_fnExactTxAsk cl1_fnExactTxAsk)))))))) (and_r_fnExactTxAsk (and_l_fnExactTxAsk (and_l_fnExactTxAsk (and_l_fnExactTxAsk (and_l_fnExactTxAsk (and_l_fnExactTxAsk (and_l_fnExactTxAsk cl1_fnExactTxAsk)))))))) (and_r_fnExactTxAsk (and_l_fnExactTxAsk (and_l_fnExactTxAsk (and_l_fnExactTxAsk (and_l_fnExactTxAsk (and_l_fnExactTxAsk cl1_fnExactTxAsk))))))) (and_r_fnExactTxAsk (and_l_fnExactTxAsk (and_l_fnExactTxAsk (and_l_fnExactTxAsk (and_l_fnExactTxAsk cl1_fnExactTxAsk)))))) (and_r_fnExactTxAsk (and_l_fnExactTxAsk (and_l_fnExactTxAsk (and_l_fnExactTxAsk cl1_fnExactTxAsk))))) (and_r_fnExactTxAsk (and_l_fnExactTxAsk (and_l_fnExactTxAsk cl1_fnExactTxAsk)))) (and_r_fnExactTxAsk (and_l_fnExactTxAsk cl1_fnExactTxAsk))) (and_r_fnExactTxAsk cl1_fnExactTxAsk)) (and_l_fnExactTxAsk (and_l_fnExactTxAsk (and_l_fnExactTxAsk (and_l_fnExactTxAsk (and_l_fnExactTxAsk (and_l_fnExactTxAsk cl2_fnExactTxAsk))))))) (and_r_fnExactTxAsk (and_l_fnExactTxAsk (and_l_fnExactTxAsk (and_l_fnExactTxAsk (and_l_fnExactTxAsk (and_l_fnExactTxAsk cl2_fnExactTxAsk))))))) (and_r_fnExactTxAsk (and_l_fnExactTxAsk (and_l_fnExactTxAsk (and_l_fnExactTxAsk (and_l_fnExactTxAsk cl2_fnExactTxAsk)))))) (and_r_fnExactTxAsk (and_l_fnExactTxAsk (and_l_fnExactTxAsk (and_l_fnExactTxAsk cl2_fnExactTxAsk))))) (and_r_fnExactTxAsk (and_l_fnExactTxAsk (and_l_fnExactTxAsk cl2_fnExactTxAsk)))) (and_r_fnExactTxAsk (and_l_fnExactTxAsk cl2_fnExactTxAsk))) (and_r_fnExactTxAsk cl2_fnExactTxAsk)) (and_l_fnExactTxAsk (and_l_fnExactTxAsk (and_l_fnExactTxAsk (and_l_fnExactTxAsk (and_l_fnExactTxAsk (and_l_fnExactTxAsk (and_l_fnExactTxAsk cl3_fnExactTxAsk)))))))) (and_r_fnExactTxAsk (and_l_fnExactTxAsk (and_l_fnExactTxAsk (and_l_fnExactTxAsk (and_l_fnExactTxAsk (and_l_fnExactTxAsk (and_l_fnExactTxAsk cl3_fnExactTxAsk)))))))) (and_r_fnExactTxAsk (and_l_fnExactTxAsk (and_l_fnExactTxAsk (and_l_fnExactTxAsk (and_l_fnExactTxAsk (and_l_fnExactTxAsk cl3_fnExactTxAsk))))))) (and_r_fnExactTxAsk (and_l_fnExactTxAsk (and_l_fnExactTxAsk (and_l_fnExactTxAsk (and_l_fnExactTxAsk cl3_fnExactTxAsk)))))) (and_r_fnExactTxAsk (and_l_fnExactTxAsk (and_l_fnExactTxAsk (and_l_fnExactTxAsk cl3_fnExactTxAsk))))) (and_r_fnExactTxAsk (and_l_fnExactTxAsk (and_l_fnExactTxAsk cl3_fnExactTxAsk)))) (and_r_fnExactTxAsk (and_l_fnExactTxAsk cl3_fnExactTxAsk))) (and_r_fnExactTxAsk cl3_fnExactTxAsk)

theorem said_TxAsk : Rows.FnExactTxAskSaid :=
 OpenClaim.holds_of_cond 12 Tryz.f12 rfl rfl rfl rfl rfl rfl rfl ⟨rfl, rfl, rfl, rfl, rfl⟩ rfl rfl rfl rfl rfl (by kernel_rfl) Tryz.func12 closed_fnExactTxAsk
   (of_decide_eq_true (by kernel_rfl)) (by unfold Func.isWrapper; first | (rw [if_pos (by decide +kernel)]; kernel_rfl) | (rw [if_neg (by decide +kernel)]; exact ⟨rfl, rfl⟩))
   (fun os started H enc _ F => by rw [OpenClaim.pre_eq_preRow]; exact lifted_TxAsk os started H enc F)

theorem w_TxAsk : Rows.fnExactTxAskRow.wfByText (OpenSpec.ofChange Rows.fnExactTxAskSpec) = true := by kernel_rfl
theorem m_TxAsk : Tryz.pinned.checked.prog.mainIs = some (Rows.fnExactTxAskCard.stood.harness.1, Rows.fnExactTxAskCard.stood.harness.2.toList) := by kernel_rfl
theorem k_TxAsk : true = Tryz.pinned.checked.prog.looks [] := by kernel_rfl
theorem plain_TxAsk (f : FuncId) (fn : Func) (hf : Tryz.pinned.checked.prog.funcNamed "loop.example/g00974/laws.FnExactTxAsk" = some f) (hfn : Tryz.pinned.checked.prog.funcs[f]? = some fn) :
   true = Tryz.pinned.checked.prog.looks [] ∧ ∀ (j : Nat) t, fn.params[j]? = some t → Tryz.pinned.checked.prog.wantsStandIn t = false := by
 obtain rfl : f = 12 := Option.some.inj ((show Tryz.prog.funcNamed "loop.example/g00974/laws.FnExactTxAsk" = some 12 by kernel_rfl).symm.trans hf) |>.symm
 obtain rfl : fn = Tryz.f12 := (Option.some.inj (Tryz.func12.symm.trans hfn)).symm
 refine ⟨k_TxAsk, fun j t ht => ?_⟩
 rw [Tryz.params12] at ht
 have hm := Array.mem_of_getElem? ht
 have hall : ∀ t ∈ (#[109, 114, 115] : Array TypeId), Tryz.prog.wantsStandIn t = false := by
   intro t ht
   simp only [List.mem_toArray, List.mem_cons, List.not_mem_nil, or_false] at ht
   rcases ht with rfl | rfl | rfl
   · exact (show Tryz.prog.wantsStandIn 109 = false by kernel_rfl)
   · exact (show Tryz.prog.wantsStandIn 114 = false by kernel_rfl)
   · exact (show Tryz.prog.wantsStandIn 115 = false by kernel_rfl)
 exact hall t hm

/-- The card. -/
theorem card_TxAsk : Rows.FnExactTxAskCardSaid :=
 Claim7.holds_tied_plain_at .later [] _ _ _ _ said_TxAsk (fun _ h => by cases h) w_TxAsk (fun _ h => by cases h) fnExactTxAsk_row_tie rfl ⟨rfl, rfl⟩ m_TxAsk rfl plain_TxAsk g_TxAsk
end Go.Proofs.YthlfmbbaomdciaaGreatDoor
