/-
  laws.FnExactPipes: the statement and its card: for every machine and every other argument the law returns true, and the arguments read as they did. Conditions: the package-level variables that the row lists hold what it lists.
-/
import Derived.Test.YtenfajgpdhgknaaGreatDoorS06HELD
import Derived.Test.YtenfajgpdhgknaaGreatDoorLPipes
import Derived.Test.YtenfajgpdhgknaaGreatDoorOpenB
import Derived.Test.YtenfajgpdhgknaaGreatDoorCards
import Derived.Test.YtenfajgpdhgknaaGreatDoorTie
import Derived.ChangeMaps5
import Derived.Deep.DeepWitnessRowRef
import Derived.Test.YtenfajgpdhgknaaGreatDoorKPipesa
import Derived.Test.YtenfajgpdhgknaaGreatDoorKPipesb
import Derived.Test.YtenfajgpdhgknaaGreatDoorKPipesc
import Derived.Test.YtenfajgpdhgknaaGreatDoorKPipesd
set_option linter.unusedSimpArgs false
set_option linter.unusedVariables false
set_option linter.unnecessarySimpa false
namespace Go.Proofs.YtenfajgpdhgknaaGreatDoor
open Go Go.RowKit Go.ChangeShapes Go.WideShapes Go.ChangeAt

theorem and_tt_fnPipes {a b : Bool} (h1 : a = true) (h2 : b = true) : (a && b) = true := by rw [h1, h2]; rfl
theorem and_l_fnPipes {a b : Bool} (h : (a && b) = true) : a = true := by cases a <;> simp_all
theorem and_r_fnPipes {a b : Bool} (h : (a && b) = true) : b = true := by cases b <;> simp_all
set_option maxRecDepth 100000 in
theorem closed_fnPipes : joinedFacts Tryz.pinned.checked.prog 9 Tryz.f9 (OpenSpec.ofChange Rows.fnPipesSpec).bare Rows.fnPipesRow = true := by
  unfold joinedFacts
  exact and_tt_fnPipes (and_tt_fnPipes (and_tt_fnPipes (and_tt_fnPipes (and_tt_fnPipes (and_tt_fnPipes (and_tt_fnPipes (and_tt_fnPipes (and_tt_fnPipes (and_tt_fnPipes (and_tt_fnPipes (and_tt_fnPipes (and_tt_fnPipes (and_tt_fnPipes (and_tt_fnPipes (and_tt_fnPipes (and_tt_fnPipes (and_tt_fnPipes (and_tt_fnPipes (and_tt_fnPipes (and_tt_fnPipes (and_tt_fnPipes (and_tt_fnPipes (cl0_fnPipes) (and_l_fnPipes (and_l_fnPipes (and_l_fnPipes (and_l_fnPipes (and_l_fnPipes (and_l_fnPipes (and_l_fnPipes cl1_fnPipes)))))))) (and_r_fnPipes (and_l_fnPipes (and_l_fnPipes (and_l_fnPipes (and_l_fnPipes (and_l_fnPipes (and_l_fnPipes cl1_fnPipes)))))))) (and_r_fnPipes (and_l_fnPipes (and_l_fnPipes (and_l_fnPipes (and_l_fnPipes (and_l_fnPipes cl1_fnPipes))))))) (and_r_fnPipes (and_l_fnPipes (and_l_fnPipes (and_l_fnPipes (and_l_fnPipes cl1_fnPipes)))))) (and_r_fnPipes (and_l_fnPipes (and_l_fnPipes (and_l_fnPipes cl1_fnPipes))))) (and_r_fnPipes (and_l_fnPipes (and_l_fnPipes cl1_fnPipes)))) (and_r_fnPipes (and_l_fnPipes cl1_fnPipes))) (and_r_fnPipes cl1_fnPipes)) (and_l_fnPipes (and_l_fnPipes (and_l_fnPipes (and_l_fnPipes (and_l_fnPipes (and_l_fnPipes cl2_fnPipes))))))) (and_r_fnPipes (and_l_fnPipes (and_l_fnPipes (and_l_fnPipes (and_l_fnPipes (and_l_fnPipes cl2_fnPipes))))))) (and_r_fnPipes (and_l_fnPipes (and_l_fnPipes (and_l_fnPipes (and_l_fnPipes cl2_fnPipes)))))) (and_r_fnPipes (and_l_fnPipes (and_l_fnPipes (and_l_fnPipes cl2_fnPipes))))) (and_r_fnPipes (and_l_fnPipes (and_l_fnPipes cl2_fnPipes)))) (and_r_fnPipes (and_l_fnPipes cl2_fnPipes))) (and_r_fnPipes cl2_fnPipes)) (and_l_fnPipes (and_l_fnPipes (and_l_fnPipes (and_l_fnPipes (and_l_fnPipes (and_l_fnPipes (and_l_fnPipes cl3_fnPipes)))))))) (and_r_fnPipes (and_l_fnPipes (and_l_fnPipes (and_l_fnPipes (and_l_fnPipes (and_l_fnPipes (and_l_fnPipes cl3_fnPipes)))))))) (and_r_fnPipes (and_l_fnPipes (and_l_fnPipes (and_l_fnPipes (and_l_fnPipes (and_l_fnPipes cl3_fnPipes))))))) (and_r_fnPipes (and_l_fnPipes (and_l_fnPipes (and_l_fnPipes (and_l_fnPipes cl3_fnPipes)))))) (and_r_fnPipes (and_l_fnPipes (and_l_fnPipes (and_l_fnPipes cl3_fnPipes))))) (and_r_fnPipes (and_l_fnPipes (and_l_fnPipes cl3_fnPipes)))) (and_r_fnPipes (and_l_fnPipes cl3_fnPipes))) (and_r_fnPipes cl3_fnPipes)

theorem said_Pipes : Rows.FnPipesSaid :=
  OpenClaim.holds_of_cond 9 Tryz.f9 rfl rfl rfl rfl rfl rfl rfl ⟨rfl, rfl, rfl, rfl, rfl⟩ rfl rfl rfl rfl rfl (by kernel_rfl) Tryz.func9 closed_fnPipes
    (of_decide_eq_true (by kernel_rfl)) (by unfold Func.isWrapper; first | (rw [if_pos (by decide +kernel)]; kernel_rfl) | (rw [if_neg (by decide +kernel)]; exact ⟨rfl, rfl⟩))
    (fun os started H enc _ F => by rw [OpenClaim.pre_eq_preRow]; exact lifted_Pipes os started H enc F)

theorem w_Pipes : Rows.fnPipesRow.wfByText (OpenSpec.ofChange Rows.fnPipesSpec) = true := by kernel_rfl
theorem m_Pipes : Tryz.pinned.checked.prog.mainIs = some (Rows.fnPipesCard.stood.harness.1, Rows.fnPipesCard.stood.harness.2.toList) := by kernel_rfl
theorem k_Pipes : true = Tryz.pinned.checked.prog.looks [] := by kernel_rfl
theorem plain_Pipes (f : FuncId) (fn : Func) (hf : Tryz.pinned.checked.prog.funcNamed "loop.example/g00974/laws.FnPipes" = some f) (hfn : Tryz.pinned.checked.prog.funcs[f]? = some fn) :
    true = Tryz.pinned.checked.prog.looks [] ∧ ∀ (j : Nat) t, fn.params[j]? = some t → Tryz.pinned.checked.prog.wantsStandIn t = false := by
  obtain rfl : f = 9 := Option.some.inj ((show Tryz.prog.funcNamed "loop.example/g00974/laws.FnPipes" = some 9 by kernel_rfl).symm.trans hf) |>.symm
  obtain rfl : fn = Tryz.f9 := (Option.some.inj (Tryz.func9.symm.trans hfn)).symm
  refine ⟨k_Pipes, fun j t ht => ?_⟩
  rw [Tryz.params9] at ht
  have hm := Array.mem_of_getElem? ht
  have hall : ∀ t ∈ (#[44] : Array TypeId), Tryz.prog.wantsStandIn t = false := by
    intro t ht
    simp only [List.mem_toArray, List.mem_cons, List.not_mem_nil, or_false] at ht
    rcases ht with rfl
    · exact (show Tryz.prog.wantsStandIn 44 = false by kernel_rfl)
  exact hall t hm

/-- The card. -/
theorem card_Pipes : Rows.FnPipesCardSaid :=
  Claim7.holds_tied_plain_at .later [] _ _ _ _ said_Pipes (fun _ h => by cases h) w_Pipes (fun _ h => by cases h) fnPipes_row_tie rfl ⟨rfl, rfl⟩ m_Pipes rfl plain_Pipes g_Pipes
end Go.Proofs.YtenfajgpdhgknaaGreatDoor
