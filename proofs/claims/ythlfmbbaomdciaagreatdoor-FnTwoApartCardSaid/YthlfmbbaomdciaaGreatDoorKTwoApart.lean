/-
Texts of the walk, joined: what each one proves stands at its theorems.
-/
import Derived.Test.YthlfmbbaomdciaaGreatDoorKTwoAparta
import Derived.Test.YthlfmbbaomdciaaGreatDoorKTwoApartb
import Derived.Test.YthlfmbbaomdciaaGreatDoorKTwoApartc
import Derived.Test.YthlfmbbaomdciaaGreatDoorKTwoApartd
set_option linter.unusedSimpArgs false
set_option linter.unusedVariables false
set_option linter.unnecessarySimpa false
namespace Go.Proofs.YthlfmbbaomdciaaGreatDoor
open Go Go.RowKit Go.ChangeShapes Go.WideShapes Go.ChangeAt
theorem and_tt_fnTwoApart {a b : Bool} (h1 : a = true) (h2 : b = true) : (a && b) = true := by rw [h1, h2]; rfl
theorem and_l_fnTwoApart {a b : Bool} (h : (a && b) = true) : a = true := by cases a <;> simp_all
theorem and_r_fnTwoApart {a b : Bool} (h : (a && b) = true) : b = true := by cases b <;> simp_all
set_option maxRecDepth 100000 in
theorem closed_fnTwoApart : joinedFacts Tryz.pinned.checked.prog 9 Tryz.f9 (OpenSpec.ofChange Rows.fnTwoApartSpec).bare Rows.fnTwoApartRow = true := by
 unfold joinedFacts
 exact and_tt_fnTwoApart (and_tt_fnTwoApart (and_tt_fnTwoApart (and_tt_fnTwoApart (and_tt_fnTwoApart (and_tt_fnTwoApart (and_tt_fnTwoApart (and_tt_fnTwoApart (and_tt_fnTwoApart (and_tt_fnTwoApart (and_tt_fnTwoApart (and_tt_fnTwoApart (and_tt_fnTwoApart (and_tt_fnTwoApart (and_tt_fnTwoApart (and_tt_fnTwoApart (and_tt_fnTwoApart (and_tt_fnTwoApart (and_tt_fnTwoApart (and_tt_fnTwoApart (and_tt_fnTwoApart (and_tt_fnTwoApart (and_tt_fnTwoApart (cl0_fnTwoApart) (and_l_fnTwoApart (and_l_fnTwoApart (and_l_fnTwoApart (and_l_fnTwoApart (and_l_fnTwoApart (and_l_fnTwoApart (and_l_fnTwoApart cl1_fnTwoApart)))))))) (and_r_fnTwoApart (and_l_fnTwoApart (and_l_fnTwoApart (and_l_fnTwoApart (and_l_fnTwoApart (and_l_fnTwoApart (and_l_fnTwoApart cl1_fnTwoApart)))))))) (and_r_fnTwoApart (and_l_fnTwoApart (and_l_fnTwoApart (and_l_fnTwoApart (and_l_fnTwoApart (and_l_fnTwoApart cl1_fnTwoApart))))))) (and_r_fnTwoApart (and_l_fnTwoApart (and_l_fnTwoApart (and_l_fnTwoApart (and_l_fnTwoApart cl1_fnTwoApart)))))) (and_r_fnTwoApart (and_l_fnTwoApart (and_l_fnTwoApart (and_l_fnTwoApart cl1_fnTwoApart))))) (and_r_fnTwoApart (and_l_fnTwoApart (and_l_fnTwoApart cl1_fnTwoApart)))) (and_r_fnTwoApart (and_l_fnTwoApart cl1_fnTwoApart))) (and_r_fnTwoApart cl1_fnTwoApart)) (and_l_fnTwoApart (and_l_fnTwoApart (and_l_fnTwoApart (and_l_fnTwoApart (and_l_fnTwoApart (and_l_fnTwoApart cl2_fnTwoApart))))))) (and_r_fnTwoApart (and_l_fnTwoApart (and_l_fnTwoApart (and_l_fnTwoApart (and_l_fnTwoApart (and_l_fnTwoApart cl2_fnTwoApart))))))) (and_r_fnTwoApart (and_l_fnTwoApart (and_l_fnTwoApart (and_l_fnTwoApart (and_l_fnTwoApart cl2_fnTwoApart)))))) (and_r_fnTwoApart (and_l_fnTwoApart (and_l_fnTwoApart (and_l_fnTwoApart cl2_fnTwoApart))))) (and_r_fnTwoApart (and_l_fnTwoApart (and_l_fnTwoApart cl2_fnTwoApart)))) (and_r_fnTwoApart (and_l_fnTwoApart cl2_fnTwoApart))) (and_r_fnTwoApart cl2_fnTwoApart)) (and_l_fnTwoApart (and_l_fnTwoApart (and_l_fnTwoApart (and_l_fnTwoApart (and_l_fnTwoApart (and_l_fnTwoApart (and_l_fnTwoApart cl3_fnTwoApart)))))))) (and_r_fnTwoApart (and_l_fnTwoApart (and_l_fnTwoApart (and_l_fnTwoApart (and_l_fnTwoApart (and_l_fnTwoApart (and_l_fnTwoApart cl3_fnTwoApart)))))))) (and_r_fnTwoApart (and_l_fnTwoApart (and_l_fnTwoApart (and_l_fnTwoApart (and_l_fnTwoApart (and_l_fnTwoApart cl3_fnTwoApart))))))) (and_r_fnTwoApart (and_l_fnTwoApart (and_l_fnTwoApart (and_l_fnTwoApart (and_l_fnTwoApart cl3_fnTwoApart)))))) (and_r_fnTwoApart (and_l_fnTwoApart (and_l_fnTwoApart (and_l_fnTwoApart cl3_fnTwoApart))))) (and_r_fnTwoApart (and_l_fnTwoApart (and_l_fnTwoApart cl3_fnTwoApart)))) (and_r_fnTwoApart (and_l_fnTwoApart cl3_fnTwoApart))) (and_r_fnTwoApart cl3_fnTwoApart)

theorem said_TwoApart : Rows.FnTwoApartSaid :=
 OpenClaim.holds_of_cond 9 Tryz.f9 rfl rfl rfl rfl rfl rfl rfl ⟨rfl, rfl, rfl, rfl, rfl⟩ rfl rfl rfl rfl rfl (by kernel_rfl) Tryz.func9 closed_fnTwoApart
   (of_decide_eq_true (by kernel_rfl)) (by unfold Func.isWrapper; first | (rw [if_pos (by decide +kernel)]; kernel_rfl) | (rw [if_neg (by decide +kernel)]; exact ⟨rfl, rfl⟩))
   (fun os started H enc _ F => by rw [OpenClaim.pre_eq_preRow]; exact lifted_TwoApart os started H enc F)

theorem w_TwoApart : Rows.fnTwoApartRow.wfByText (OpenSpec.ofChange Rows.fnTwoApartSpec) = true := by kernel_rfl
theorem m_TwoApart : Tryz.pinned.checked.prog.mainIs = some (Rows.fnTwoApartCard.stood.harness.1, Rows.fnTwoApartCard.stood.harness.2.toList) := by kernel_rfl
theorem k_TwoApart : true = Tryz.pinned.checked.prog.looks [] := by kernel_rfl
theorem plain_TwoApart (f : FuncId) (fn : Func) (hf : Tryz.pinned.checked.prog.funcNamed "loop.example/g00974/laws.FnTwoApart" = some f) (hfn : Tryz.pinned.checked.prog.funcs[f]? = some fn) :
   true = Tryz.pinned.checked.prog.looks [] ∧ ∀ (j : Nat) t, fn.params[j]? = some t → Tryz.pinned.checked.prog.wantsStandIn t = false := by
 obtain rfl : f = 9 := Option.some.inj ((show Tryz.prog.funcNamed "loop.example/g00974/laws.FnTwoApart" = some 9 by kernel_rfl).symm.trans hf) |>.symm
 obtain rfl : fn = Tryz.f9 := (Option.some.inj (Tryz.func9.symm.trans hfn)).symm
 refine ⟨k_TwoApart, fun j t ht => ?_⟩
 rw [Tryz.params9] at ht
 have hm := Array.mem_of_getElem? ht
 have hall : ∀ t ∈ (#[22] : Array TypeId), Tryz.prog.wantsStandIn t = false := by
   intro t ht
   simp only [List.mem_toArray, List.mem_cons, List.not_mem_nil, or_false] at ht
   rcases ht with rfl
   · exact (show Tryz.prog.wantsStandIn 22 = false by kernel_rfl)
 exact hall t hm

/-- The card. -/
theorem card_TwoApart : Rows.FnTwoApartCardSaid :=
 Claim7.holds_tied_plain_at .later [] _ _ _ _ said_TwoApart (fun _ h => by cases h) w_TwoApart (fun _ h => by cases h) fnTwoApart_row_tie rfl ⟨rfl, rfl⟩ m_TwoApart rfl plain_TwoApart g_TwoApart
end Go.Proofs.YthlfmbbaomdciaaGreatDoor
