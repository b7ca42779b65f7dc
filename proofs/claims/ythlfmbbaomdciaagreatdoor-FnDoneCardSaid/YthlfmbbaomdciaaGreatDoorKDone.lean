/-
Texts of the walk, joined: what each one proves stands at its theorems.
-/
import Derived.Test.YthlfmbbaomdciaaGreatDoorKDonea
import Derived.Test.YthlfmbbaomdciaaGreatDoorKDoneb
import Derived.Test.YthlfmbbaomdciaaGreatDoorKDonec
import Derived.Test.YthlfmbbaomdciaaGreatDoorKDoned
set_option linter.unusedSimpArgs false
set_option linter.unusedVariables false
set_option linter.unnecessarySimpa false
namespace Go.Proofs.YthlfmbbaomdciaaGreatDoor
open Go Go.RowKit Go.ChangeShapes Go.WideShapes Go.ChangeAt
theorem and_tt_fnDone {a b : Bool} (h1 : a = true) (h2 : b = true) : (a && b) = true := by rw [h1, h2]; rfl
theorem and_l_fnDone {a b : Bool} (h : (a && b) = true) : a = true := by cases a <;> simp_all
theorem and_r_fnDone {a b : Bool} (h : (a && b) = true) : b = true := by cases b <;> simp_all
set_option maxRecDepth 100000 in
theorem closed_fnDone : joinedFacts Tryz.pinned.checked.prog 6 Tryz.f6 (OpenSpec.ofChange Rows.fnDoneSpec).bare Rows.fnDoneRow = true := by
 unfold joinedFacts
 exact and_tt_fnDone (and_tt_fnDone (and_tt_fnDone (and_tt_fnDone (and_tt_fnDone (and_tt_fnDone (and_tt_fnDone (and_tt_fnDone (and_tt_fnDone (and_tt_fnDone (and_tt_fnDone (and_tt_fnDone (and_tt_fnDone (and_tt_fnDone (and_tt_fnDone (and_tt_fnDone (and_tt_fnDone (and_tt_fnDone (and_tt_fnDone (and_tt_fnDone (and_tt_fnDone (and_tt_fnDone (and_tt_fnDone (cl0_fnDone) (and_l_fnDone (and_l_fnDone (and_l_fnDone (and_l_fnDone (and_l_fnDone (and_l_fnDone (and_l_fnDone cl1_fnDone)))))))) (and_r_fnDone (and_l_fnDone (and_l_fnDone (and_l_fnDone (and_l_fnDone (and_l_fnDone (and_l_fnDone cl1_fnDone)))))))) (and_r_fnDone (and_l_fnDone (and_l_fnDone (and_l_fnDone (and_l_fnDone (and_l_fnDone cl1_fnDone))))))) (and_r_fnDone (and_l_fnDone (and_l_fnDone (and_l_fnDone (and_l_fnDone cl1_fnDone)))))) (and_r_fnDone (and_l_fnDone (and_l_fnDone (and_l_fnDone cl1_fnDone))))) (and_r_fnDone (and_l_fnDone (and_l_fnDone cl1_fnDone)))) (and_r_fnDone (and_l_fnDone cl1_fnDone))) (and_r_fnDone cl1_fnDone)) (and_l_fnDone (and_l_fnDone (and_l_fnDone (and_l_fnDone (and_l_fnDone (and_l_fnDone cl2_fnDone))))))) (and_r_fnDone (and_l_fnDone (and_l_fnDone (and_l_fnDone (and_l_fnDone (and_l_fnDone cl2_fnDone))))))) (and_r_fnDone (and_l_fnDone (and_l_fnDone (and_l_fnDone (and_l_fnDone cl2_fnDone)))))) (and_r_fnDone (and_l_fnDone (and_l_fnDone (and_l_fnDone cl2_fnDone))))) (and_r_fnDone (and_l_fnDone (and_l_fnDone cl2_fnDone)))) (and_r_fnDone (and_l_fnDone cl2_fnDone))) (and_r_fnDone cl2_fnDone)) (and_l_fnDone (and_l_fnDone (and_l_fnDone (and_l_fnDone (and_l_fnDone (and_l_fnDone (and_l_fnDone cl3_fnDone)))))))) (and_r_fnDone (and_l_fnDone (and_l_fnDone (and_l_fnDone (and_l_fnDone (and_l_fnDone (and_l_fnDone cl3_fnDone)))))))) (and_r_fnDone (and_l_fnDone (and_l_fnDone (and_l_fnDone (and_l_fnDone (and_l_fnDone cl3_fnDone))))))) (and_r_fnDone (and_l_fnDone (and_l_fnDone (and_l_fnDone (and_l_fnDone cl3_fnDone)))))) (and_r_fnDone (and_l_fnDone (and_l_fnDone (and_l_fnDone cl3_fnDone))))) (and_r_fnDone (and_l_fnDone (and_l_fnDone cl3_fnDone)))) (and_r_fnDone (and_l_fnDone cl3_fnDone))) (and_r_fnDone cl3_fnDone)

theorem said_Done : Rows.FnDoneSaid :=
 OpenClaim.holds_of_cond 6 Tryz.f6 rfl rfl rfl rfl rfl rfl rfl ⟨rfl, rfl, rfl, rfl, rfl⟩ rfl rfl rfl rfl rfl (by kernel_rfl) Tryz.func6 closed_fnDone
   (of_decide_eq_true (by kernel_rfl)) (by unfold Func.isWrapper; first | (rw [if_pos (by decide +kernel)]; kernel_rfl) | (rw [if_neg (by decide +kernel)]; exact ⟨rfl, rfl⟩))
   (fun os started H enc _ F => by rw [OpenClaim.pre_eq_preRow]; exact lifted_Done os started H enc F)

theorem w_Done : Rows.fnDoneRow.wfByText (OpenSpec.ofChange Rows.fnDoneSpec) = true := by kernel_rfl
theorem m_Done : Tryz.pinned.checked.prog.mainIs = some (Rows.fnDoneCard.stood.harness.1, Rows.fnDoneCard.stood.harness.2.toList) := by kernel_rfl
theorem k_Done : true = Tryz.pinned.checked.prog.looks [] := by kernel_rfl
theorem plain_Done (f : FuncId) (fn : Func) (hf : Tryz.pinned.checked.prog.funcNamed "loop.example/g00974/laws.FnDone" = some f) (hfn : Tryz.pinned.checked.prog.funcs[f]? = some fn) :
   true = Tryz.pinned.checked.prog.looks [] ∧ ∀ (j : Nat) t, fn.params[j]? = some t → Tryz.pinned.checked.prog.wantsStandIn t = false := by
 obtain rfl : f = 6 := Option.some.inj ((show Tryz.prog.funcNamed "loop.example/g00974/laws.FnDone" = some 6 by kernel_rfl).symm.trans hf) |>.symm
 obtain rfl : fn = Tryz.f6 := (Option.some.inj (Tryz.func6.symm.trans hfn)).symm
 refine ⟨k_Done, fun j t ht => ?_⟩
 rw [Tryz.params6] at ht
 have hm := Array.mem_of_getElem? ht
 have hall : ∀ t ∈ (#[22] : Array TypeId), Tryz.prog.wantsStandIn t = false := by
   intro t ht
   simp only [List.mem_toArray, List.mem_cons, List.not_mem_nil, or_false] at ht
   rcases ht with rfl
   · exact (show Tryz.prog.wantsStandIn 22 = false by kernel_rfl)
 exact hall t hm

/-- The card. -/
theorem card_Done : Rows.FnDoneCardSaid :=
 Claim7.holds_tied_plain_at .later [] _ _ _ _ said_Done (fun _ h => by cases h) w_Done (fun _ h => by cases h) fnDone_row_tie rfl ⟨rfl, rfl⟩ m_Done rfl plain_Done g_Done
end Go.Proofs.YthlfmbbaomdciaaGreatDoor
