/-
  laws.FnExactTakePipe: the statement and its card: for every machine and every other argument the law returns true, and the arguments read as they did. Conditions: the package-level variables that the row lists hold what it lists.
-/
import Derived.Test.YtenfajgpdhgknaaGreatDoorLd
import Derived.Test.YtenfajgpdhgknaaGreatDoorLTakePipe
import Derived.Test.YtenfajgpdhgknaaGreatDoorCards
import Derived.Test.YtenfajgpdhgknaaGreatDoorTie
import Derived.ChangeMaps5
import Derived.Deep.DeepWitnessRowRef
import Derived.Test.YtenfajgpdhgknaaGreatDoorKTakePipea
import Derived.Test.YtenfajgpdhgknaaGreatDoorKTakePipeb
import Derived.Test.YtenfajgpdhgknaaGreatDoorKTakePipec
import Derived.Test.YtenfajgpdhgknaaGreatDoorKTakePiped
set_option linter.unusedSimpArgs false
set_option linter.unusedVariables false
set_option linter.unnecessarySimpa false
namespace Go.Proofs.YtenfajgpdhgknaaGreatDoor
open Go Go.RowKit Go.ChangeShapes Go.WideShapes Go.ChangeAt

theorem and_tt_fnExactTakePipe {a b : Bool} (h1 : a = true) (h2 : b = true) : (a && b) = true := by rw [h1, h2]; rfl
theorem and_l_fnExactTakePipe {a b : Bool} (h : (a && b) = true) : a = true := by cases a <;> simp_all
theorem and_r_fnExactTakePipe {a b : Bool} (h : (a && b) = true) : b = true := by cases b <;> simp_all
set_option maxRecDepth 100000 in
theorem closed_fnExactTakePipe : joinedFacts Tryz.pinned.checked.prog 3 Tryz.f3 (OpenSpec.ofChange Rows.fnExactTakePipeSpec).bare Rows.fnExactTakePipeRow = true := by
  unfold joinedFacts
  exact and_tt_fnExactTakePipe (and_tt_fnExactTakePipe (and_tt_fnExactTakePipe (and_tt_fnExactTakePipe (and_tt_fnExactTakePipe (and_tt_fnExactTakePipe (and_tt_fnExactTakePipe (and_tt_fnExactTakePipe (and_tt_fnExactTakePipe (and_tt_fnExactTakePipe (and_tt_fnExactTakePipe (and_tt_fnExactTakePipe (and_tt_fnExactTakePipe (and_tt_fnExactTakePipe (and_tt_fnExactTakePipe (and_tt_fnExactTakePipe (and_tt_fnExactTakePipe (and_tt_fnExactTakePipe (and_tt_fnExactTakePipe (and_tt_fnExactTakePipe (and_tt_fnExactTakePipe (and_tt_fnExactTakePipe (and_tt_fnExactTakePipe (cl0_fnExactTakePipe) (and_l_fnExactTakePipe (and_l_fnExactTakePipe (and_l_fnExactTakePipe (and_l_fnExactTakePipe (and_l_fnExactTakePipe (and_l_fnExactTakePipe (and_l_fnExactTakePipe cl1_fnExactTakePipe)))))))) (and_r_fnExactTakePipe (and_l_fnExactTakePipe (and_l_fnExactTakePipe (and_l_fnExactTakePipe (and_l_fnExactTakePipe (and_l_fnExactTakePipe (and_l_fnExactTakePipe cl1_fnExactTakePipe)))))))) (and_r_fnExactTakePipe (and_l_fnExactTakePipe (and_l_fnExactTakePipe (and_l_fnExactTakePipe (and_l_fnExactTakePipe (and_l_fnExactTakePipe cl1_fnExactTakePipe))))))) (and_r_fnExactTakePipe (and_l_fnExactTakePipe (and_l_fnExactTakePipe (and_l_fnExactTakePipe (and_l_fnExactTakePipe cl1_fnExactTakePipe)))))) (and_r_fnExactTakePipe (and_l_fnExactTakePipe (and_l_fnExactTakePipe (and_l_fnExactTakePipe cl1_fnExactTakePipe))))) (and_r_fnExactTakePipe (and_l_fnExactTakePipe (and_l_fnExactTakePipe cl1_fnExactTakePipe)))) (and_r_fnExactTakePipe (and_l_fnExactTakePipe cl1_fnExactTakePipe))) (and_r_fnExactTakePipe cl1_fnExactTakePipe)) (and_l_fnExactTakePipe (and_l_fnExactTakePipe (and_l_fnExactTakePipe (and_l_fnExactTakePipe (and_l_fnExactTakePipe (and_l_fnExactTakePipe cl2_fnExactTakePipe))))))) (and_r_fnExactTakePipe (and_l_fnExactTakePipe (and_l_fnExactTakePipe (and_l_fnExactTakePipe (and_l_fnExactTakePipe (and_l_fnExactTakePipe cl2_fnExactTakePipe))))))) (and_r_fnExactTakePipe (and_l_fnExactTakePipe (and_l_fnExactTakePipe (and_l_fnExactTakePipe (and_l_fnExactTakePipe cl2_fnExactTakePipe)))))) (and_r_fnExactTakePipe (and_l_fnExactTakePipe (and_l_fnExactTakePipe (and_l_fnExactTakePipe cl2_fnExactTakePipe))))) (and_r_fnExactTakePipe (and_l_fnExactTakePipe (and_l_fnExactTakePipe cl2_fnExactTakePipe)))) (and_r_fnExactTakePipe (and_l_fnExactTakePipe cl2_fnExactTakePipe))) (and_r_fnExactTakePipe cl2_fnExactTakePipe)) (and_l_fnExactTakePipe (and_l_fnExactTakePipe (and_l_fnExactTakePipe (and_l_fnExactTakePipe (and_l_fnExactTakePipe (and_l_fnExactTakePipe (and_l_fnExactTakePipe cl3_fnExactTakePipe)))))))) (and_r_fnExactTakePipe (and_l_fnExactTakePipe (and_l_fnExactTakePipe (and_l_fnExactTakePipe (and_l_fnExactTakePipe (and_l_fnExactTakePipe (and_l_fnExactTakePipe cl3_fnExactTakePipe)))))))) (and_r_fnExactTakePipe (and_l_fnExactTakePipe (and_l_fnExactTakePipe (and_l_fnExactTakePipe (and_l_fnExactTakePipe (and_l_fnExactTakePipe cl3_fnExactTakePipe))))))) (and_r_fnExactTakePipe (and_l_fnExactTakePipe (and_l_fnExactTakePipe (and_l_fnExactTakePipe (and_l_fnExactTakePipe cl3_fnExactTakePipe)))))) (and_r_fnExactTakePipe (and_l_fnExactTakePipe (and_l_fnExactTakePipe (and_l_fnExactTakePipe cl3_fnExactTakePipe))))) (and_r_fnExactTakePipe (and_l_fnExactTakePipe (and_l_fnExactTakePipe cl3_fnExactTakePipe)))) (and_r_fnExactTakePipe (and_l_fnExactTakePipe cl3_fnExactTakePipe))) (and_r_fnExactTakePipe cl3_fnExactTakePipe)

theorem said_TakePipe : Rows.FnExactTakePipeSaid :=
  OpenClaim.holds_of_cond 3 Tryz.f3 rfl rfl rfl rfl rfl rfl rfl ⟨rfl, rfl, rfl, rfl, rfl⟩ rfl rfl rfl rfl rfl (by kernel_rfl) Tryz.func3 closed_fnExactTakePipe
    (of_decide_eq_true (by kernel_rfl)) (by unfold Func.isWrapper; first | (rw [if_pos (by decide +kernel)]; kernel_rfl) | (rw [if_neg (by decide +kernel)]; exact ⟨rfl, rfl⟩))
    (fun os started H enc _ F => by rw [OpenClaim.pre_eq_preRow]; exact lifted_TakePipe os started H enc F)

theorem w_TakePipe : Rows.fnExactTakePipeRow.wfByText (OpenSpec.ofChange Rows.fnExactTakePipeSpec) = true := by kernel_rfl
theorem m_TakePipe : Tryz.pinned.checked.prog.mainIs = some (Rows.fnExactTakePipeCard.stood.harness.1, Rows.fnExactTakePipeCard.stood.harness.2.toList) := by kernel_rfl
theorem k_TakePipe : true = Tryz.pinned.checked.prog.looks [] := by kernel_rfl
theorem plain_TakePipe (f : FuncId) (fn : Func) (hf : Tryz.pinned.checked.prog.funcNamed "loop.example/g00974/laws.FnExactTakePipe" = some f) (hfn : Tryz.pinned.checked.prog.funcs[f]? = some fn) :
    true = Tryz.pinned.checked.prog.looks [] ∧ ∀ (j : Nat) t, fn.params[j]? = some t → Tryz.pinned.checked.prog.wantsStandIn t = false := by
  obtain rfl : f = 3 := Option.some.inj ((show Tryz.prog.funcNamed "loop.example/g00974/laws.FnExactTakePipe" = some 3 by kernel_rfl).symm.trans hf) |>.symm
  obtain rfl : fn = Tryz.f3 := (Option.some.inj (Tryz.func3.symm.trans hfn)).symm
  refine ⟨k_TakePipe, fun j t ht => ?_⟩
  rw [Tryz.params3] at ht
  have hm := Array.mem_of_getElem? ht
  have hall : ∀ t ∈ (#[27, 3] : Array TypeId), Tryz.prog.wantsStandIn t = false := by
    intro t ht
    simp only [List.mem_toArray, List.mem_cons, List.not_mem_nil, or_false] at ht
    rcases ht with rfl | rfl
    · exact (show Tryz.prog.wantsStandIn 27 = false by kernel_rfl)
    · exact (show Tryz.prog.wantsStandIn 3 = false by kernel_rfl)
  exact hall t hm

/-- The card. -/
theorem card_TakePipe : Rows.FnExactTakePipeCardSaid :=
  Claim7.holds_tied_plain_at .later [] _ _ _ _ said_TakePipe (fun _ h => by cases h) w_TakePipe (fun _ h => by cases h) fnExactTakePipe_row_tie rfl ⟨rfl, rfl⟩ m_TakePipe rfl plain_TakePipe g_TakePipe
end Go.Proofs.YtenfajgpdhgknaaGreatDoor
