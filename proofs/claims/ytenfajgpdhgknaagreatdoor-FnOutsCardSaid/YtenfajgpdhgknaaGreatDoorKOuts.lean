/-
  laws.FnExactOuts: the statement and its card: for every machine and every other argument the law returns true, and the arguments read as they did. Conditions: the package-level variables that the row lists hold what it lists.
-/
import Derived.Test.YtenfajgpdhgknaaGreatDoorS06HELD
import Derived.Test.YtenfajgpdhgknaaGreatDoorLOuts
import Derived.Test.YtenfajgpdhgknaaGreatDoorOpenB
import Derived.Test.YtenfajgpdhgknaaGreatDoorCards
import Derived.Test.YtenfajgpdhgknaaGreatDoorTie
import Derived.ChangeMaps5
import Derived.Deep.DeepWitnessRowRef
import Derived.Test.YtenfajgpdhgknaaGreatDoorKOutsa
import Derived.Test.YtenfajgpdhgknaaGreatDoorKOutsb
import Derived.Test.YtenfajgpdhgknaaGreatDoorKOutsc
import Derived.Test.YtenfajgpdhgknaaGreatDoorKOutsd
set_option linter.unusedSimpArgs false
set_option linter.unusedVariables false
set_option linter.unnecessarySimpa false
namespace Go.Proofs.YtenfajgpdhgknaaGreatDoor
open Go Go.RowKit Go.ChangeShapes Go.WideShapes Go.ChangeAt

theorem and_tt_fnOuts {a b : Bool} (h1 : a = true) (h2 : b = true) : (a && b) = true := by rw [h1, h2]; rfl
theorem and_l_fnOuts {a b : Bool} (h : (a && b) = true) : a = true := by cases a <;> simp_all
theorem and_r_fnOuts {a b : Bool} (h : (a && b) = true) : b = true := by cases b <;> simp_all
set_option maxRecDepth 100000 in
theorem closed_fnOuts : joinedFacts Tryz.pinned.checked.prog 14 Tryz.f14 (OpenSpec.ofChange Rows.fnOutsSpec).bare Rows.fnOutsRow = true := by
  unfold joinedFacts
  exact and_tt_fnOuts (and_tt_fnOuts (and_tt_fnOuts (and_tt_fnOuts (and_tt_fnOuts (and_tt_fnOuts (and_tt_fnOuts (and_tt_fnOuts (and_tt_fnOuts (and_tt_fnOuts (and_tt_fnOuts (and_tt_fnOuts (and_tt_fnOuts (and_tt_fnOuts (and_tt_fnOuts (and_tt_fnOuts (and_tt_fnOuts (and_tt_fnOuts (and_tt_fnOuts (and_tt_fnOuts (and_tt_fnOuts (and_tt_fnOuts (and_tt_fnOuts (cl0_fnOuts) (and_l_fnOuts (and_l_fnOuts (and_l_fnOuts (and_l_fnOuts (and_l_fnOuts (and_l_fnOuts (and_l_fnOuts cl1_fnOuts)))))))) (and_r_fnOuts (and_l_fnOuts (and_l_fnOuts (and_l_fnOuts (and_l_fnOuts (and_l_fnOuts (and_l_fnOuts cl1_fnOuts)))))))) (and_r_fnOuts (and_l_fnOuts (and_l_fnOuts (and_l_fnOuts (and_l_fnOuts (and_l_fnOuts cl1_fnOuts))))))) (and_r_fnOuts (and_l_fnOuts (and_l_fnOuts (and_l_fnOuts (and_l_fnOuts cl1_fnOuts)))))) (and_r_fnOuts (and_l_fnOuts (and_l_fnOuts (and_l_fnOuts cl1_fnOuts))))) (and_r_fnOuts (and_l_fnOuts (and_l_fnOuts cl1_fnOuts)))) (and_r_fnOuts (and_l_fnOuts cl1_fnOuts))) (and_r_fnOuts cl1_fnOuts)) (and_l_fnOuts (and_l_fnOuts (and_l_fnOuts (and_l_fnOuts (and_l_fnOuts (and_l_fnOuts cl2_fnOuts))))))) (and_r_fnOuts (and_l_fnOuts (and_l_fnOuts (and_l_fnOuts (and_l_fnOuts (and_l_fnOuts cl2_fnOuts))))))) (and_r_fnOuts (and_l_fnOuts (and_l_fnOuts (and_l_fnOuts (and_l_fnOuts cl2_fnOuts)))))) (and_r_fnOuts (and_l_fnOuts (and_l_fnOuts (and_l_fnOuts cl2_fnOuts))))) (and_r_fnOuts (and_l_fnOuts (and_l_fnOuts cl2_fnOuts)))) (and_r_fnOuts (and_l_fnOuts cl2_fnOuts))) (and_r_fnOuts cl2_fnOuts)) (and_l_fnOuts (and_l_fnOuts (and_l_fnOuts (and_l_fnOuts (and_l_fnOuts (and_l_fnOuts (and_l_fnOuts cl3_fnOuts)))))))) (and_r_fnOuts (and_l_fnOuts (and_l_fnOuts (and_l_fnOuts (and_l_fnOuts (and_l_fnOuts (and_l_fnOuts cl3_fnOuts)))))))) (and_r_fnOuts (and_l_fnOuts (and_l_fnOuts (and_l_fnOuts (and_l_fnOuts (and_l_fnOuts cl3_fnOuts))))))) (and_r_fnOuts (and_l_fnOuts (and_l_fnOuts (and_l_fnOuts (and_l_fnOuts cl3_fnOuts)))))) (and_r_fnOuts (and_l_fnOuts (and_l_fnOuts (and_l_fnOuts cl3_fnOuts))))) (and_r_fnOuts (and_l_fnOuts (and_l_fnOuts cl3_fnOuts)))) (and_r_fnOuts (and_l_fnOuts cl3_fnOuts))) (and_r_fnOuts cl3_fnOuts)

theorem said_Outs : Rows.FnOutsSaid :=
  OpenClaim.holds_of_cond 14 Tryz.f14 rfl rfl rfl rfl rfl rfl rfl ⟨rfl, rfl, rfl, rfl, rfl⟩ rfl rfl rfl rfl rfl (by kernel_rfl) Tryz.func14 closed_fnOuts
    (of_decide_eq_true (by kernel_rfl)) (by unfold Func.isWrapper; first | (rw [if_pos (by decide +kernel)]; kernel_rfl) | (rw [if_neg (by decide +kernel)]; exact ⟨rfl, rfl⟩))
    (fun os started H enc _ F => by rw [OpenClaim.pre_eq_preRow]; exact lifted_Outs os started H enc F)

theorem w_Outs : Rows.fnOutsRow.wfByText (OpenSpec.ofChange Rows.fnOutsSpec) = true := by kernel_rfl
theorem m_Outs : Tryz.pinned.checked.prog.mainIs = some (Rows.fnOutsCard.stood.harness.1, Rows.fnOutsCard.stood.harness.2.toList) := by kernel_rfl
theorem k_Outs : true = Tryz.pinned.checked.prog.looks [] := by kernel_rfl
theorem plain_Outs (f : FuncId) (fn : Func) (hf : Tryz.pinned.checked.prog.funcNamed "loop.example/g00974/laws.FnOuts" = some f) (hfn : Tryz.pinned.checked.prog.funcs[f]? = some fn) :
    true = Tryz.pinned.checked.prog.looks [] ∧ ∀ (j : Nat) t, fn.params[j]? = some t → Tryz.pinned.checked.prog.wantsStandIn t = false := by
  obtain rfl : f = 14 := Option.some.inj ((show Tryz.prog.funcNamed "loop.example/g00974/laws.FnOuts" = some 14 by kernel_rfl).symm.trans hf) |>.symm
  obtain rfl : fn = Tryz.f14 := (Option.some.inj (Tryz.func14.symm.trans hfn)).symm
  refine ⟨k_Outs, fun j t ht => ?_⟩
  rw [Tryz.params14] at ht
  have hm := Array.mem_of_getElem? ht
  have hall : ∀ t ∈ (#[44] : Array TypeId), Tryz.prog.wantsStandIn t = false := by
    intro t ht
    simp only [List.mem_toArray, List.mem_cons, List.not_mem_nil, or_false] at ht
    rcases ht with rfl
    · exact (show Tryz.prog.wantsStandIn 44 = false by kernel_rfl)
  exact hall t hm

/-- The card. -/
theorem card_Outs : Rows.FnOutsCardSaid :=
  Claim7.holds_tied_plain_at .later [] _ _ _ _ said_Outs (fun _ h => by cases h) w_Outs (fun _ h => by cases h) fnOuts_row_tie rfl ⟨rfl, rfl⟩ m_Outs rfl plain_Outs g_Outs
end Go.Proofs.YtenfajgpdhgknaaGreatDoor
