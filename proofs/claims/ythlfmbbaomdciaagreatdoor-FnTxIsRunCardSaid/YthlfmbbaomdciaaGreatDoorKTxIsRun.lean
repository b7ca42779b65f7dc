/-
Texts of the walk, joined: what each one proves stands at its theorems.
-/
import Derived.Test.YthlfmbbaomdciaaGreatDoorKTxIsRuna
import Derived.Test.YthlfmbbaomdciaaGreatDoorKTxIsRunb
import Derived.Test.YthlfmbbaomdciaaGreatDoorKTxIsRunc
import Derived.Test.YthlfmbbaomdciaaGreatDoorKTxIsRund
set_option linter.unusedSimpArgs false
set_option linter.unusedVariables false
set_option linter.unnecessarySimpa false
namespace Go.Proofs.YthlfmbbaomdciaaGreatDoor
open Go Go.RowKit Go.ChangeShapes Go.WideShapes Go.ChangeAt
theorem and_tt_fnTxIsRun {a b : Bool} (h1 : a = true) (h2 : b = true) : (a && b) = true := by rw [h1, h2]; rfl
theorem and_l_fnTxIsRun {a b : Bool} (h : (a && b) = true) : a = true := by cases a <;> simp_all
theorem and_r_fnTxIsRun {a b : Bool} (h : (a && b) = true) : b = true := by cases b <;> simp_all
set_option maxRecDepth 100000 in
theorem closed_fnTxIsRun : joinedFacts Tryz.pinned.checked.prog 8 Tryz.f8 (OpenSpec.ofChange Rows.fnTxIsRunSpec).bare Rows.fnTxIsRunRow = true := by
 unfold joinedFacts
 exact and_tt_fnTxIsRun (and_tt_fnTxIsRun (and_tt_fnTxIsRun (and_tt_fnTxIsRun (and_tt_fnTxIsRun (and_tt_fnTxIsRun (and_tt_fnTxIsRun (and_tt_fnTxIsRun (and_tt_fnTxIsRun (and_tt_fnTxIsRun (and_tt_fnTxIsRun (and_tt_fnTxIsRun (and_tt_fnTxIsRun (and_tt_fnTxIsRun (and_tt_fnTxIsRun (and_tt_fnTxIsRun (and_tt_fnTxIsRun (and_tt_fnTxIsRun (and_tt_fnTxIsRun (and_tt_fnTxIsRun (and_tt_fnTxIsRun (and_tt_fnTxIsRun (and_tt_fnTxIsRun (cl0_fnTxIsRun) (and_l_fnTxIsRun (and_l_fnTxIsRun (and_l_fnTxIsRun (and_l_fnTxIsRun (and_l_fnTxIsRun (and_l_fnTxIsRun (and_l_fnTxIsRun cl1_fnTxIsRun)))))))) (and_r_fnTxIsRun (and_l_fnTxIsRun (and_l_fnTxIsRun (and_l_fnTxIsRun (and_l_fnTxIsRun (and_l_fnTxIsRun (and_l_fnTxIsRun cl1_fnTxIsRun)))))))) (and_r_fnTxIsRun (and_l_fnTxIsRun (and_l_fnTxIsRun (and_l_fnTxIsRun (and_l_fnTxIsRun (and_l_fnTxIsRun cl1_fnTxIsRun))))))) (and_r_fnTxIsRun (and_l_fnTxIsRun (and_l_fnTxIsRun (and_l_fnTxIsRun (and_l_fnTxIsRun cl1_fnTxIsRun)))))) (and_r_fnTxIsRun (and_l_fnTxIsRun (and_l_fnTxIsRun (and_l_fnTxIsRun cl1_fnTxIsRun))))) (and_r_fnTxIsRun (and_l_fnTxIsRun (and_l_fnTxIsRun cl1_fnTxIsRun)))) (and_r_fnTxIsRun (and_l_fnTxIsRun cl1_fnTxIsRun))) (and_r_fnTxIsRun cl1_fnTxIsRun)) (and_l_fnTxIsRun (and_l_fnTxIsRun (and_l_fnTxIsRun (and_l_fnTxIsRun (and_l_fnTxIsRun (and_l_fnTxIsRun cl2_fnTxIsRun))))))) (and_r_fnTxIsRun (and_l_fnTxIsRun (and_l_fnTxIsRun (and_l_fnTxIsRun (and_l_fnTxIsRun (and_l_fnTxIsRun cl2_fnTxIsRun))))))) (and_r_fnTxIsRun (and_l_fnTxIsRun (and_l_fnTxIsRun (and_l_fnTxIsRun (and_l_fnTxIsRun cl2_fnTxIsRun)))))) (and_r_fnTxIsRun (and_l_fnTxIsRun (and_l_fnTxIsRun (and_l_fnTxIsRun cl2_fnTxIsRun))))) (and_r_fnTxIsRun (and_l_fnTxIsRun (and_l_fnTxIsRun cl2_fnTxIsRun)))) (and_r_fnTxIsRun (and_l_fnTxIsRun cl2_fnTxIsRun))) (and_r_fnTxIsRun cl2_fnTxIsRun)) (and_l_fnTxIsRun (and_l_fnTxIsRun (and_l_fnTxIsRun (and_l_fnTxIsRun (and_l_fnTxIsRun (and_l_fnTxIsRun (and_l_fnTxIsRun cl3_fnTxIsRun)))))))) (and_r_fnTxIsRun (and_l_fnTxIsRun (and_l_fnTxIsRun (and_l_fnTxIsRun (and_l_fnTxIsRun (and_l_fnTxIsRun (and_l_fnTxIsRun cl3_fnTxIsRun)))))))) (and_r_fnTxIsRun (and_l_fnTxIsRun (and_l_fnTxIsRun (and_l_fnTxIsRun (and_l_fnTxIsRun (and_l_fnTxIsRun cl3_fnTxIsRun))))))) (and_r_fnTxIsRun (and_l_fnTxIsRun (and_l_fnTxIsRun (and_l_fnTxIsRun (and_l_fnTxIsRun cl3_fnTxIsRun)))))) (and_r_fnTxIsRun (and_l_fnTxIsRun (and_l_fnTxIsRun (and_l_fnTxIsRun cl3_fnTxIsRun))))) (and_r_fnTxIsRun (and_l_fnTxIsRun (and_l_fnTxIsRun cl3_fnTxIsRun)))) (and_r_fnTxIsRun (and_l_fnTxIsRun cl3_fnTxIsRun))) (and_r_fnTxIsRun cl3_fnTxIsRun)

theorem said_TxIsRun : Rows.FnTxIsRunSaid :=
 OpenClaim.holds_of_cond 8 Tryz.f8 rfl rfl rfl rfl rfl rfl rfl ⟨rfl, rfl, rfl, rfl, rfl⟩ rfl rfl rfl rfl rfl (by kernel_rfl) Tryz.func8 closed_fnTxIsRun
   (of_decide_eq_true (by kernel_rfl)) (by unfold Func.isWrapper; first | (rw [if_pos (by decide +kernel)]; kernel_rfl) | (rw [if_neg (by decide +kernel)]; exact ⟨rfl, rfl⟩))
   (fun os started H enc _ F => by rw [OpenClaim.pre_eq_preRow]; exact lifted_TxIsRun os started H enc F)

theorem w_TxIsRun : Rows.fnTxIsRunRow.wfByText (OpenSpec.ofChange Rows.fnTxIsRunSpec) = true := by kernel_rfl
theorem m_TxIsRun : Tryz.pinned.checked.prog.mainIs = some (Rows.fnTxIsRunCard.stood.harness.1, Rows.fnTxIsRunCard.stood.harness.2.toList) := by kernel_rfl
theorem k_TxIsRun : true = Tryz.pinned.checked.prog.looks [] := by kernel_rfl
theorem plain_TxIsRun (f : FuncId) (fn : Func) (hf : Tryz.pinned.checked.prog.funcNamed "loop.example/g00974/laws.FnTxIsRun" = some f) (hfn : Tryz.pinned.checked.prog.funcs[f]? = some fn) :
   true = Tryz.pinned.checked.prog.looks [] ∧ ∀ (j : Nat) t, fn.params[j]? = some t → Tryz.pinned.checked.prog.wantsStandIn t = false := by
 obtain rfl : f = 8 := Option.some.inj ((show Tryz.prog.funcNamed "loop.example/g00974/laws.FnTxIsRun" = some 8 by kernel_rfl).symm.trans hf) |>.symm
 obtain rfl : fn = Tryz.f8 := (Option.some.inj (Tryz.func8.symm.trans hfn)).symm
 refine ⟨k_TxIsRun, fun j t ht => ?_⟩
 rw [Tryz.params8] at ht
 have hm := Array.mem_of_getElem? ht
 have hall : ∀ t ∈ (#[22] : Array TypeId), Tryz.prog.wantsStandIn t = false := by
   intro t ht
   simp only [List.mem_toArray, List.mem_cons, List.not_mem_nil, or_false] at ht
   rcases ht with rfl
   · exact (show Tryz.prog.wantsStandIn 22 = false by kernel_rfl)
 exact hall t hm

/-- The card. -/
theorem card_TxIsRun : Rows.FnTxIsRunCardSaid :=
 Claim7.holds_tied_plain_at .later [] _ _ _ _ said_TxIsRun (fun _ h => by cases h) w_TxIsRun (fun _ h => by cases h) fnTxIsRun_row_tie rfl ⟨rfl, rfl⟩ m_TxIsRun rfl plain_TxIsRun g_TxIsRun
end Go.Proofs.YthlfmbbaomdciaaGreatDoor
