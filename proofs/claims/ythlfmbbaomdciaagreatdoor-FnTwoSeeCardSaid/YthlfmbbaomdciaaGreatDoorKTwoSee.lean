/-
Texts of the walk, joined: what each one proves stands at its theorems.
-/
import Derived.Test.YthlfmbbaomdciaaGreatDoorKTwoSeea
import Derived.Test.YthlfmbbaomdciaaGreatDoorKTwoSeeb
import Derived.Test.YthlfmbbaomdciaaGreatDoorKTwoSeec
import Derived.Test.YthlfmbbaomdciaaGreatDoorKTwoSeed
set_option linter.unusedSimpArgs false
set_option linter.unusedVariables false
set_option linter.unnecessarySimpa false
namespace Go.Proofs.YthlfmbbaomdciaaGreatDoor
open Go Go.RowKit Go.ChangeShapes Go.WideShapes Go.ChangeAt
theorem and_tt_fnTwoSee {a b : Bool} (h1 : a = true) (h2 : b = true) : (a && b) = true := by rw [h1, h2]; rfl
theorem and_l_fnTwoSee {a b : Bool} (h : (a && b) = true) : a = true := by cases a <;> simp_all
theorem and_r_fnTwoSee {a b : Bool} (h : (a && b) = true) : b = true := by cases b <;> simp_all
set_option maxRecDepth 100000 in
theorem closed_fnTwoSee : joinedFacts Tryz.pinned.checked.prog 3 Tryz.f3 (OpenSpec.ofChange Rows.fnTwoSeeSpec).bare Rows.fnTwoSeeRow = true := by
 unfold joinedFacts
 exact and_tt_fnTwoSee (and_tt_fnTwoSee (and_tt_fnTwoSee (and_tt_fnTwoSee (and_tt_fnTwoSee (and_tt_fnTwoSee (and_tt_fnTwoSee (and_tt_fnTwoSee (and_tt_fnTwoSee (and_tt_fnTwoSee (and_tt_fnTwoSee (and_tt_fnTwoSee (and_tt_fnTwoSee (and_tt_fnTwoSee (and_tt_fnTwoSee (and_tt_fnTwoSee (and_tt_fnTwoSee (and_tt_fnTwoSee (and_tt_fnTwoSee (and_tt_fnTwoSee (and_tt_fnTwoSee (and_tt_fnTwoSee (and_tt_fnTwoSee (cl0_fnTwoSee) (and_l_fnTwoSee (and_l_fnTwoSee (and_l_fnTwoSee (and_l_fnTwoSee (and_l_fnTwoSee (and_l_fnTwoSee (and_l_fnTwoSee cl1_fnTwoSee)))))))) (and_r_fnTwoSee (and_l_fnTwoSee (and_l_fnTwoSee (and_l_fnTwoSee (and_l_fnTwoSee (and_l_fnTwoSee (and_l_fnTwoSee cl1_fnTwoSee)))))))) (and_r_fnTwoSee (and_l_fnTwoSee (and_l_fnTwoSee (and_l_fnTwoSee (and_l_fnTwoSee (and_l_fnTwoSee cl1_fnTwoSee))))))) (and_r_fnTwoSee (and_l_fnTwoSee (and_l_fnTwoSee (and_l_fnTwoSee (and_l_fnTwoSee cl1_fnTwoSee)))))) (and_r_fnTwoSee (and_l_fnTwoSee (and_l_fnTwoSee (and_l_fnTwoSee cl1_fnTwoSee))))) (and_r_fnTwoSee (and_l_fnTwoSee (and_l_fnTwoSee cl1_fnTwoSee)))) (and_r_fnTwoSee (and_l_fnTwoSee cl1_fnTwoSee))) (and_r_fnTwoSee cl1_fnTwoSee)) (and_l_fnTwoSee (and_l_fnTwoSee (and_l_fnTwoSee (and_l_fnTwoSee (and_l_fnTwoSee (and_l_fnTwoSee cl2_fnTwoSee))))))) (and_r_fnTwoSee (and_l_fnTwoSee (and_l_fnTwoSee (and_l_fnTwoSee (and_l_fnTwoSee (and_l_fnTwoSee cl2_fnTwoSee))))))) (and_r_fnTwoSee (and_l_fnTwoSee (and_l_fnTwoSee (and_l_fnTwoSee (and_l_fnTwoSee cl2_fnTwoSee)))))) (and_r_fnTwoSee (and_l_fnTwoSee (and_l_fnTwoSee (and_l_fnTwoSee cl2_fnTwoSee))))) (and_r_fnTwoSee (and_l_fnTwoSee (and_l_fnTwoSee cl2_fnTwoSee)))) (and_r_fnTwoSee (and_l_fnTwoSee cl2_fnTwoSee))) (and_r_fnTwoSee cl2_fnTwoSee)) (and_l_fnTwoSee (and_l_fnTwoSee (and_l_fnTwoSee (and_l_fnTwoSee (and_l_fnTwoSee (and_l_fnTwoSee (and_l_fnTwoSee cl3_fnTwoSee)))))))) (and_r_fnTwoSee (and_l_fnTwoSee (and_l_fnTwoSee (and_l_fnTwoSee (and_l_fnTwoSee (and_l_fnTwoSee (and_l_fnTwoSee cl3_fnTwoSee)))))))) (and_r_fnTwoSee (and_l_fnTwoSee (and_l_fnTwoSee (and_l_fnTwoSee (and_l_fnTwoSee (and_l_fnTwoSee cl3_fnTwoSee))))))) (and_r_fnTwoSee (and_l_fnTwoSee (and_l_fnTwoSee (and_l_fnTwoSee (and_l_fnTwoSee cl3_fnTwoSee)))))) (and_r_fnTwoSee (and_l_fnTwoSee (and_l_fnTwoSee (and_l_fnTwoSee cl3_fnTwoSee))))) (and_r_fnTwoSee (and_l_fnTwoSee (and_l_fnTwoSee cl3_fnTwoSee)))) (and_r_fnTwoSee (and_l_fnTwoSee cl3_fnTwoSee))) (and_r_fnTwoSee cl3_fnTwoSee)

theorem said_TwoSee : Rows.FnTwoSeeSaid :=
 OpenClaim.holds_of_cond 3 Tryz.f3 rfl rfl rfl rfl rfl rfl rfl ⟨rfl, rfl, rfl, rfl, rfl⟩ rfl rfl rfl rfl rfl (by kernel_rfl) Tryz.func3 closed_fnTwoSee
   (of_decide_eq_true (by kernel_rfl)) (by unfold Func.isWrapper; first | (rw [if_pos (by decide +kernel)]; kernel_rfl) | (rw [if_neg (by decide +kernel)]; exact ⟨rfl, rfl⟩))
   (fun os started H enc _ F => by rw [OpenClaim.pre_eq_preRow]; exact lifted_TwoSee os started H enc F)

theorem w_TwoSee : Rows.fnTwoSeeRow.wfByText (OpenSpec.ofChange Rows.fnTwoSeeSpec) = true := by kernel_rfl
theorem m_TwoSee : Tryz.pinned.checked.prog.mainIs = some (Rows.fnTwoSeeCard.stood.harness.1, Rows.fnTwoSeeCard.stood.harness.2.toList) := by kernel_rfl
theorem k_TwoSee : true = Tryz.pinned.checked.prog.looks [] := by kernel_rfl
theorem plain_TwoSee (f : FuncId) (fn : Func) (hf : Tryz.pinned.checked.prog.funcNamed "loop.example/g00974/laws.FnTwoSee" = some f) (hfn : Tryz.pinned.checked.prog.funcs[f]? = some fn) :
   true = Tryz.pinned.checked.prog.looks [] ∧ ∀ (j : Nat) t, fn.params[j]? = some t → Tryz.pinned.checked.prog.wantsStandIn t = false := by
 obtain rfl : f = 3 := Option.some.inj ((show Tryz.prog.funcNamed "loop.example/g00974/laws.FnTwoSee" = some 3 by kernel_rfl).symm.trans hf) |>.symm
 obtain rfl : fn = Tryz.f3 := (Option.some.inj (Tryz.func3.symm.trans hfn)).symm
 refine ⟨k_TwoSee, fun j t ht => ?_⟩
 rw [Tryz.params3] at ht
 have hm := Array.mem_of_getElem? ht
 have hall : ∀ t ∈ (#[22] : Array TypeId), Tryz.prog.wantsStandIn t = false := by
   intro t ht
   simp only [List.mem_toArray, List.mem_cons, List.not_mem_nil, or_false] at ht
   rcases ht with rfl
   · exact (show Tryz.prog.wantsStandIn 22 = false by kernel_rfl)
 exact hall t hm

/-- The card. -/
theorem card_TwoSee : Rows.FnTwoSeeCardSaid :=
 Claim7.holds_tied_plain_at .later [] _ _ _ _ said_TwoSee (fun _ h => by cases h) w_TwoSee (fun _ h => by cases h) fnTwoSee_row_tie rfl ⟨rfl, rfl⟩ m_TwoSee rfl plain_TwoSee g_TwoSee
end Go.Proofs.YthlfmbbaomdciaaGreatDoor
