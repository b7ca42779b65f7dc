/-
Texts of the walk, joined: what each one proves stands at its theorems.
-/
import Derived.Test.YthlfmbbaomdciaaGreatDoorKTouchGrowsa
import Derived.Test.YthlfmbbaomdciaaGreatDoorKTouchGrowsb
import Derived.Test.YthlfmbbaomdciaaGreatDoorKTouchGrowsc
import Derived.Test.YthlfmbbaomdciaaGreatDoorKTouchGrowsd
set_option linter.unusedSimpArgs false
set_option linter.unusedVariables false
set_option linter.unnecessarySimpa false
namespace Go.Proofs.YthlfmbbaomdciaaGreatDoor
open Go Go.RowKit Go.ChangeShapes Go.WideShapes Go.ChangeAt
theorem and_tt_fnTouchGrows {a b : Bool} (h1 : a = true) (h2 : b = true) : (a && b) = true := by rw [h1, h2]; rfl
theorem and_l_fnTouchGrows {a b : Bool} (h : (a && b) = true) : a = true := by cases a <;> simp_all
theorem and_r_fnTouchGrows {a b : Bool} (h : (a && b) = true) : b = true := by cases b <;> simp_all
set_option maxRecDepth 100000 in
theorem closed_fnTouchGrows : joinedFacts Tryz.pinned.checked.prog 4 Tryz.f4 (OpenSpec.ofChange Rows.fnTouchGrowsSpec).bare Rows.fnTouchGrowsRow = true := by
 unfold joinedFacts
 exact and_tt_fnTouchGrows (and_tt_fnTouchGrows (and_tt_fnTouchGrows (and_tt_fnTouchGrows (and_tt_fnTouchGrows (and_tt_fnTouchGrows (and_tt_fnTouchGrows (and_tt_fnTouchGrows (and_tt_fnTouchGrows (and_tt_fnTouchGrows (and_tt_fnTouchGrows (and_tt_fnTouchGrows (and_tt_fnTouchGrows (and_tt_fnTouchGrows (and_tt_fnTouchGrows (and_tt_fnTouchGrows (and_tt_fnTouchGrows (and_tt_fnTouchGrows (and_tt_fnTouchGrows (and_tt_fnTouchGrows (and_tt_fnTouchGrows (and_tt_fnTouchGrows (and_tt_fnTouchGrows (cl0_fnTouchGrows) (and_l_fnTouchGrows (and_l_fnTouchGrows (and_l_fnTouchGrows (and_l_fnTouchGrows (and_l_fnTouchGrows (and_l_fnTouchGrows (and_l_fnTouchGrows cl1_fnTouchGrows)))))))) (and_r_fnTouchGrows (and_l_fnTouchGrows (and_l_fnTouchGrows (and_l_fnTouchGrows (and_l_fnTouchGrows (and_l_fnTouchGrows (and_l_fnTouchGrows cl1_fnTouchGrows)))))))) (and_r_fnTouchGrows (and_l_fnTouchGrows (and_l_fnTouchGrows (and_l_fnTouchGrows (and_l_fnTouchGrows (and_l_fnTouchGrows cl1_fnTouchGrows))))))) (and_r_fnTouchGrows (and_l_fnTouchGrows (and_l_fnTouchGrows (and_l_fnTouchGrows (and_l_fnTouchGrows cl1_fnTouchGrows)))))) (and_r_fnTouchGrows (and_l_fnTouchGrows (and_l_fnTouchGrows (and_l_fnTouchGrows cl1_fnTouchGrows))))) (and_r_fnTouchGrows (and_l_fnTouchGrows (and_l_fnTouchGrows cl1_fnTouchGrows)))) (and_r_fnTouchGrows (and_l_fnTouchGrows cl1_fnTouchGrows))) (and_r_fnTouchGrows cl1_fnTouchGrows)) (and_l_fnTouchGrows (and_l_fnTouchGrows (and_l_fnTouchGrows (and_l_fnTouchGrows (and_l_fnTouchGrows (and_l_fnTouchGrows cl2_fnTouchGrows))))))) (and_r_fnTouchGrows (and_l_fnTouchGrows (and_l_fnTouchGrows (and_l_fnTouchGrows (and_l_fnTouchGrows (and_l_fnTouchGrows cl2_fnTouchGrows))))))) (and_r_fnTouchGrows (and_l_fnTouchGrows (and_l_fnTouchGrows (and_l_fnTouchGrows (and_l_fnTouchGrows cl2_fnTouchGrows)))))) (and_r_fnTouchGrows (and_l_fnTouchGrows (and_l_fnTouchGrows (and_l_fnTouchGrows cl2_fnTouchGrows))))) (and_r_fnTouchGrows (and_l_fnTouchGrows (and_l_fnTouchGrows cl2_fnTouchGrows)))) (and_r_fnTouchGrows (and_l_fnTouchGrows cl2_fnTouchGrows))) (and_r_fnTouchGrows cl2_fnTouchGrows)) (and_l_fnTouchGrows (and_l_fnTouchGrows (and_l_fnTouchGrows (and_l_fnTouchGrows (and_l_fnTouchGrows (and_l_fnTouchGrows (and_l_fnTouchGrows cl3_fnTouchGrows)))))))) (and_r_fnTouchGrows (and_l_fnTouchGrows (and_l_fnTouchGrows (and_l_fnTouchGrows (and_l_fnTouchGrows (and_l_fnTouchGrows (and_l_fnTouchGrows cl3_fnTouchGrows)))))))) (and_r_fnTouchGrows (and_l_fnTouchGrows (and_l_fnTouchGrows (and_l_fnTouchGrows (and_l_fnTouchGrows (and_l_fnTouchGrows cl3_fnTouchGrows))))))) (and_r_fnTouchGrows (and_l_fnTouchGrows (and_l_fnTouchGrows (and_l_fnTouchGrows (and_l_fnTouchGrows cl3_fnTouchGrows)))))) (and_r_fnTouchGrows (and_l_fnTouchGrows (and_l_fnTouchGrows (and_l_fnTouchGrows cl3_fnTouchGrows))))) (and_r_fnTouchGrows (and_l_fnTouchGrows (and_l_fnTouchGrows cl3_fnTouchGrows)))) (and_r_fnTouchGrows (and_l_fnTouchGrows cl3_fnTouchGrows))) (and_r_fnTouchGrows cl3_fnTouchGrows)

theorem said_TouchGrows : Rows.FnTouchGrowsSaid :=
 OpenClaim.holds_of_cond 4 Tryz.f4 rfl rfl rfl rfl rfl rfl rfl ⟨rfl, rfl, rfl, rfl, rfl⟩ rfl rfl rfl rfl rfl (by kernel_rfl) Tryz.func4 closed_fnTouchGrows
   (of_decide_eq_true (by kernel_rfl)) (by unfold Func.isWrapper; first | (rw [if_pos (by decide +kernel)]; kernel_rfl) | (rw [if_neg (by decide +kernel)]; exact ⟨rfl, rfl⟩))
   (fun os started H enc _ F => by rw [OpenClaim.pre_eq_preRow]; exact lifted_TouchGrows os started H enc F)

theorem w_TouchGrows : Rows.fnTouchGrowsRow.wfByText (OpenSpec.ofChange Rows.fnTouchGrowsSpec) = true := by kernel_rfl
theorem m_TouchGrows : Tryz.pinned.checked.prog.mainIs = some (Rows.fnTouchGrowsCard.stood.harness.1, Rows.fnTouchGrowsCard.stood.harness.2.toList) := by kernel_rfl
theorem k_TouchGrows : true = Tryz.pinned.checked.prog.looks [] := by kernel_rfl
theorem plain_TouchGrows (f : FuncId) (fn : Func) (hf : Tryz.pinned.checked.prog.funcNamed "loop.example/g00974/laws.FnTouchGrows" = some f) (hfn : Tryz.pinned.checked.prog.funcs[f]? = some fn) :
   true = Tryz.pinned.checked.prog.looks [] ∧ ∀ (j : Nat) t, fn.params[j]? = some t → Tryz.pinned.checked.prog.wantsStandIn t = false := by
 obtain rfl : f = 4 := Option.some.inj ((show Tryz.prog.funcNamed "loop.example/g00974/laws.FnTouchGrows" = some 4 by kernel_rfl).symm.trans hf) |>.symm
 obtain rfl : fn = Tryz.f4 := (Option.some.inj (Tryz.func4.symm.trans hfn)).symm
 refine ⟨k_TouchGrows, fun j t ht => ?_⟩
 rw [Tryz.params4] at ht
 have hm := Array.mem_of_getElem? ht
 have hall : ∀ t ∈ (#[22] : Array TypeId), Tryz.prog.wantsStandIn t = false := by
   intro t ht
   simp only [List.mem_toArray, List.mem_cons, List.not_mem_nil, or_false] at ht
   rcases ht with rfl
   · exact (show Tryz.prog.wantsStandIn 22 = false by kernel_rfl)
 exact hall t hm

/-- The card. -/
theorem card_TouchGrows : Rows.FnTouchGrowsCardSaid :=
 Claim7.holds_tied_plain_at .later [] _ _ _ _ said_TouchGrows (fun _ h => by cases h) w_TouchGrows (fun _ h => by cases h) fnTouchGrows_row_tie rfl ⟨rfl, rfl⟩ m_TouchGrows rfl plain_TouchGrows g_TouchGrows
end Go.Proofs.YthlfmbbaomdciaaGreatDoor
