/-
Texts of the walk, joined: what each one proves stands at its theorems.
-/
import Derived.Test.YthlfmbbaomdciaaGreatDoorKTxSeesa
import Derived.Test.YthlfmbbaomdciaaGreatDoorKTxSeesb
import Derived.Test.YthlfmbbaomdciaaGreatDoorKTxSeesc
import Derived.Test.YthlfmbbaomdciaaGreatDoorKTxSeesd
set_option linter.unusedSimpArgs false
set_option linter.unusedVariables false
set_option linter.unnecessarySimpa false
namespace Go.Proofs.YthlfmbbaomdciaaGreatDoor
open Go Go.RowKit Go.ChangeShapes Go.WideShapes Go.ChangeAt
theorem and_tt_fnTxSees {a b : Bool} (h1 : a = true) (h2 : b = true) : (a && b) = true := by rw [h1, h2]; rfl
theorem and_l_fnTxSees {a b : Bool} (h : (a && b) = true) : a = true := by cases a <;> simp_all
theorem and_r_fnTxSees {a b : Bool} (h : (a && b) = true) : b = true := by cases b <;> simp_all
set_option maxRecDepth 100000 in
theorem closed_fnTxSees : joinedFacts Tryz.pinned.checked.prog 7 Tryz.f7 (OpenSpec.ofChange Rows.fnTxSeesSpec).bare Rows.fnTxSeesRow = true := by
 unfold joinedFacts
 exact and_tt_fnTxSees (and_tt_fnTxSees (and_tt_fnTxSees (and_tt_fnTxSees (and_tt_fnTxSees (and_tt_fnTxSees (and_tt_fnTxSees (and_tt_fnTxSees (and_tt_fnTxSees (and_tt_fnTxSees (and_tt_fnTxSees (and_tt_fnTxSees (and_tt_fnTxSees (and_tt_fnTxSees (and_tt_fnTxSees (and_tt_fnTxSees (and_tt_fnTxSees (and_tt_fnTxSees (and_tt_fnTxSees (and_tt_fnTxSees (and_tt_fnTxSees (and_tt_fnTxSees (and_tt_fnTxSees (cl0_fnTxSees) (and_l_fnTxSees (and_l_fnTxSees (and_l_fnTxSees (and_l_fnTxSees (and_l_fnTxSees (and_l_fnTxSees (and_l_fnTxSees cl1_fnTxSees)))))))) (and_r_fnTxSees (and_l_fnTxSees (and_l_fnTxSees (and_l_fnTxSees (and_l_fnTxSees (and_l_fnTxSees (and_l_fnTxSees cl1_fnTxSees)))))))) (and_r_fnTxSees (and_l_fnTxSees (and_l_fnTxSees (and_l_fnTxSees (and_l_fnTxSees (and_l_fnTxSees cl1_fnTxSees))))))) (and_r_fnTxSees (and_l_fnTxSees (and_l_fnTxSees (and_l_fnTxSees (and_l_fnTxSees cl1_fnTxSees)))))) (and_r_fnTxSees (and_l_fnTxSees (and_l_fnTxSees (and_l_fnTxSees cl1_fnTxSees))))) (and_r_fnTxSees (and_l_fnTxSees (and_l_fnTxSees cl1_fnTxSees)))) (and_r_fnTxSees (and_l_fnTxSees cl1_fnTxSees))) (and_r_fnTxSees cl1_fnTxSees)) (and_l_fnTxSees (and_l_fnTxSees (and_l_fnTxSees (and_l_fnTxSees (and_l_fnTxSees (and_l_fnTxSees cl2_fnTxSees))))))) (and_r_fnTxSees (and_l_fnTxSees (and_l_fnTxSees (and_l_fnTxSees (and_l_fnTxSees (and_l_fnTxSees cl2_fnTxSees))))))) (and_r_fnTxSees (and_l_fnTxSees (and_l_fnTxSees (and_l_fnTxSees (and_l_fnTxSees cl2_fnTxSees)))))) (and_r_fnTxSees (and_l_fnTxSees (and_l_fnTxSees (and_l_fnTxSees cl2_fnTxSees))))) (and_r_fnTxSees (and_l_fnTxSees (and_l_fnTxSees cl2_fnTxSees)))) (and_r_fnTxSees (and_l_fnTxSees cl2_fnTxSees))) (and_r_fnTxSees cl2_fnTxSees)) (and_l_fnTxSees (and_l_fnTxSees (and_l_fnTxSees (and_l_fnTxSees (and_l_fnTxSees (and_l_fnTxSees (and_l_fnTxSees cl3_fnTxSees)))))))) (and_r_fnTxSees (and_l_fnTxSees (and_l_fnTxSees (and_l_fnTxSees (and_l_fnTxSees (and_l_fnTxSees (and_l_fnTxSees cl3_fnTxSees)))))))) (and_r_fnTxSees (and_l_fnTxSees (and_l_fnTxSees (and_l_fnTxSees (and_l_fnTxSees (and_l_fnTxSees cl3_fnTxSees))))))) (and_r_fnTxSees (and_l_fnTxSees (and_l_fnTxSees (and_l_fnTxSees (and_l_fnTxSees cl3_fnTxSees)))))) (and_r_fnTxSees (and_l_fnTxSees (and_l_fnTxSees (and_l_fnTxSees cl3_fnTxSees))))) (and_r_fnTxSees (and_l_fnTxSees (and_l_fnTxSees cl3_fnTxSees)))) (and_r_fnTxSees (and_l_fnTxSees cl3_fnTxSees))) (and_r_fnTxSees cl3_fnTxSees)

theorem said_TxSees : Rows.FnTxSeesSaid :=
 OpenClaim.holds_of_cond 7 Tryz.f7 rfl rfl rfl rfl rfl rfl rfl ⟨rfl, rfl, rfl, rfl, rfl⟩ rfl rfl rfl rfl rfl (by kernel_rfl) Tryz.func7 closed_fnTxSees
   (of_decide_eq_true (by kernel_rfl)) (by unfold Func.isWrapper; first | (rw [if_pos (by decide +kernel)]; kernel_rfl) | (rw [if_neg (by decide +kernel)]; exact ⟨rfl, rfl⟩))
   (fun os started H enc _ F => by rw [OpenClaim.pre_eq_preRow]; exact lifted_TxSees os started H enc F)

theorem w_TxSees : Rows.fnTxSeesRow.wfByText (OpenSpec.ofChange Rows.fnTxSeesSpec) = true := by kernel_rfl
theorem m_TxSees : Tryz.pinned.checked.prog.mainIs = some (Rows.fnTxSeesCard.stood.harness.1, Rows.fnTxSeesCard.stood.harness.2.toList) := by kernel_rfl
theorem k_TxSees : true = Tryz.pinned.checked.prog.looks [] := by kernel_rfl
theorem plain_TxSees (f : FuncId) (fn : Func) (hf : Tryz.pinned.checked.prog.funcNamed "loop.example/g00974/laws.FnTxSees" = some f) (hfn : Tryz.pinned.checked.prog.funcs[f]? = some fn) :
   true = Tryz.pinned.checked.prog.looks [] ∧ ∀ (j : Nat) t, fn.params[j]? = some t → Tryz.pinned.checked.prog.wantsStandIn t = false := by
 obtain rfl : f = 7 := Option.some.inj ((show Tryz.prog.funcNamed "loop.example/g00974/laws.FnTxSees" = some 7 by kernel_rfl).symm.trans hf) |>.symm
 obtain rfl : fn = Tryz.f7 := (Option.some.inj (Tryz.func7.symm.trans hfn)).symm
 refine ⟨k_TxSees, fun j t ht => ?_⟩
 rw [Tryz.params7] at ht
 have hm := Array.mem_of_getElem? ht
 have hall : ∀ t ∈ (#[22] : Array TypeId), Tryz.prog.wantsStandIn t = false := by
   intro t ht
   simp only [List.mem_toArray, List.mem_cons, List.not_mem_nil, or_false] at ht
   rcases ht with rfl
   · exact (show Tryz.prog.wantsStandIn 22 = false by kernel_rfl)
 exact hall t hm

/-- The card. -/
theorem card_TxSees : Rows.FnTxSeesCardSaid :=
 Claim7.holds_tied_plain_at .later [] _ _ _ _ said_TxSees (fun _ h => by cases h) w_TxSees (fun _ h => by cases h) fnTxSees_row_tie rfl ⟨rfl, rfl⟩ m_TxSees rfl plain_TxSees g_TxSees
end Go.Proofs.YthlfmbbaomdciaaGreatDoor
