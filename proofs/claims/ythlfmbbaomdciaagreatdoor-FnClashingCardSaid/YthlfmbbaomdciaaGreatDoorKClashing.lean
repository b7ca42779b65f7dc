/-
Texts of the walk, joined: what each one proves stands at its theorems.
-/
import Derived.Test.YthlfmbbaomdciaaGreatDoorKClashinga
import Derived.Test.YthlfmbbaomdciaaGreatDoorKClashingb
import Derived.Test.YthlfmbbaomdciaaGreatDoorKClashingc
import Derived.Test.YthlfmbbaomdciaaGreatDoorKClashingd
set_option linter.unusedSimpArgs false
set_option linter.unusedVariables false
set_option linter.unnecessarySimpa false
namespace Go.Proofs.YthlfmbbaomdciaaGreatDoor
open Go Go.RowKit Go.ChangeShapes Go.WideShapes Go.ChangeAt
theorem and_tt_fnClashing {a b : Bool} (h1 : a = true) (h2 : b = true) : (a && b) = true := by rw [h1, h2]; rfl
theorem and_l_fnClashing {a b : Bool} (h : (a && b) = true) : a = true := by cases a <;> simp_all
theorem and_r_fnClashing {a b : Bool} (h : (a && b) = true) : b = true := by cases b <;> simp_all
set_option maxRecDepth 100000 in
theorem closed_fnClashing : joinedFacts Tryz.pinned.checked.prog 11 Tryz.f11 (OpenSpec.ofChange Rows.fnClashingSpec).bare Rows.fnClashingRow = true := by
 unfold joinedFacts
 exact and_tt_fnClashing (and_tt_fnClashing (and_tt_fnClashing (and_tt_fnClashing (and_tt_fnClashing (and_tt_fnClashing (and_tt_fnClashing (and_tt_fnClashing (and_tt_fnClashing (and_tt_fnClashing (and_tt_fnClashing (and_tt_fnClashing (and_tt_fnClashing (and_tt_fnClashing (and_tt_fnClashing (and_tt_fnClashing (and_tt_fnClashing (and_tt_fnClashing (and_tt_fnClashing (and_tt_fnClashing (and_tt_fnClashing (and_tt_fnClashing (and_tt_fnClashing (cl0_fnClashing) (and_l_fnClashing (and_l_fnClashing (and_l_fnClashing (and_l_fnClashing (and_l_fnClashing (and_l_fnClashing (and_l_fnClashing cl1_fnClashing)))))))) (and_r_fnClashing (and_l_fnClashing (and_l_fnClashing (and_l_fnClashing (and_l_fnClashing (and_l_fnClashing (and_l_fnClashing cl1_fnClashing)))))))) (and_r_fnClashing (and_l_fnClashing (and_l_fnClashing (and_l_fnClashing (and_l_fnClashing (and_l_fnClashing cl1_fnClashing))))))) (and_r_fnClashing (and_l_fnClashing (and_l_fnClashing (and_l_fnClashing (and_l_fnClashing cl1_fnClashing)))))) (and_r_fnClashing (and_l_fnClashing (and_l_fnClashing (and_l_fnClashing cl1_fnClashing))))) (and_r_fnClashing (and_l_fnClashing (and_l_fnClashing cl1_fnClashing)))) (and_r_fnClashing (and_l_fnClashing cl1_fnClashing))) (and_r_fnClashing cl1_fnClashing)) (and_l_fnClashing (and_l_fnClashing (and_l_fnClashing (and_l_fnClashing (and_l_fnClashing (and_l_fnClashing cl2_fnClashing))))))) (and_r_fnClashing (and_l_fnClashing (and_l_fnClashing (and_l_fnClashing (and_l_fnClashing (and_l_fnClashing cl2_fnClashing))))))) (and_r_fnClashing (and_l_fnClashing (and_l_fnClashing (and_l_fnClashing (and_l_fnClashing cl2_fnClashing)))))) (and_r_fnClashing (and_l_fnClashing (and_l_fnClashing (and_l_fnClashing cl2_fnClashing))))) (and_r_fnClashing (and_l_fnClashing (and_l_fnClashing cl2_fnClashing)))) (and_r_fnClashing (and_l_fnClashing cl2_fnClashing))) (and_r_fnClashing cl2_fnClashing)) (and_l_fnClashing (and_l_fnClashing (and_l_fnClashing (and_l_fnClashing (and_l_fnClashing (and_l_fnClashing (and_l_fnClashing cl3_fnClashing)))))))) (and_r_fnClashing (and_l_fnClashing (and_l_fnClashing (and_l_fnClashing (and_l_fnClashing (and_l_fnClashing (and_l_fnClashing cl3_fnClashing)))))))) (and_r_fnClashing (and_l_fnClashing (and_l_fnClashing (and_l_fnClashing (and_l_fnClashing (and_l_fnClashing cl3_fnClashing))))))) (and_r_fnClashing (and_l_fnClashing (and_l_fnClashing (and_l_fnClashing (and_l_fnClashing cl3_fnClashing)))))) (and_r_fnClashing (and_l_fnClashing (and_l_fnClashing (and_l_fnClashing cl3_fnClashing))))) (and_r_fnClashing (and_l_fnClashing (and_l_fnClashing cl3_fnClashing)))) (and_r_fnClashing (and_l_fnClashing cl3_fnClashing))) (and_r_fnClashing cl3_fnClashing)

theorem said_Clashing : Rows.FnClashingSaid :=
 OpenClaim.holds_of_cond 11 Tryz.f11 rfl rfl rfl rfl rfl rfl rfl ⟨rfl, rfl, rfl, rfl, rfl⟩ rfl rfl rfl rfl rfl (by kernel_rfl) Tryz.func11 closed_fnClashing
   (of_decide_eq_true (by kernel_rfl)) (by unfold Func.isWrapper; first | (rw [if_pos (by decide +kernel)]; kernel_rfl) | (rw [if_neg (by decide +kernel)]; exact ⟨rfl, rfl⟩))
   (fun os started H enc _ F => by rw [OpenClaim.pre_eq_preRow]; exact lifted_Clashing os started H enc F)

theorem w_Clashing : Rows.fnClashingRow.wfByText (OpenSpec.ofChange Rows.fnClashingSpec) = true := by kernel_rfl
theorem m_Clashing : Tryz.pinned.checked.prog.mainIs = some (Rows.fnClashingCard.stood.harness.1, Rows.fnClashingCard.stood.harness.2.toList) := by kernel_rfl
theorem k_Clashing : true = Tryz.pinned.checked.prog.looks [] := by kernel_rfl
theorem plain_Clashing (f : FuncId) (fn : Func) (hf : Tryz.pinned.checked.prog.funcNamed "loop.example/g00974/laws.FnClashing" = some f) (hfn : Tryz.pinned.checked.prog.funcs[f]? = some fn) :
   true = Tryz.pinned.checked.prog.looks [] ∧ ∀ (j : Nat) t, fn.params[j]? = some t → Tryz.pinned.checked.prog.wantsStandIn t = false := by
 obtain rfl : f = 11 := Option.some.inj ((show Tryz.prog.funcNamed "loop.example/g00974/laws.FnClashing" = some 11 by kernel_rfl).symm.trans hf) |>.symm
 obtain rfl : fn = Tryz.f11 := (Option.some.inj (Tryz.func11.symm.trans hfn)).symm
 refine ⟨k_Clashing, fun j t ht => ?_⟩
 rw [Tryz.params11] at ht
 have hm := Array.mem_of_getElem? ht
 have hall : ∀ t ∈ (#[22] : Array TypeId), Tryz.prog.wantsStandIn t = false := by
   intro t ht
   simp only [List.mem_toArray, List.mem_cons, List.not_mem_nil, or_false] at ht
   rcases ht with rfl
   · exact (show Tryz.prog.wantsStandIn 22 = false by kernel_rfl)
 exact hall t hm

/-- The card. -/
theorem card_Clashing : Rows.FnClashingCardSaid :=
 Claim7.holds_tied_plain_at .later [] _ _ _ _ said_Clashing (fun _ h => by cases h) w_Clashing (fun _ h => by cases h) fnClashing_row_tie rfl ⟨rfl, rfl⟩ m_Clashing rfl plain_Clashing g_Clashing
end Go.Proofs.YthlfmbbaomdciaaGreatDoor
