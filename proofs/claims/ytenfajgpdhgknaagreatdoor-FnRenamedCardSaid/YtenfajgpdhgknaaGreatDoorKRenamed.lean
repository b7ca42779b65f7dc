/-
  laws.FnExactRenamed: the statement and its card: for every machine and every other argument the law returns true, and the arguments read as they did. Conditions: the package-level variables that the row lists hold what it lists.
-/
import Derived.Test.YtenfajgpdhgknaaGreatDoorLd
import Derived.Test.YtenfajgpdhgknaaGreatDoorLRenamed
import Derived.Test.YtenfajgpdhgknaaGreatDoorOpenB
import Derived.Test.YtenfajgpdhgknaaGreatDoorCards
import Derived.Test.YtenfajgpdhgknaaGreatDoorTie
import Derived.ChangeMaps5
import Derived.Deep.DeepWitnessRowRef
import Derived.Test.YtenfajgpdhgknaaGreatDoorKRenameda
import Derived.Test.YtenfajgpdhgknaaGreatDoorKRenamedb
import Derived.Test.YtenfajgpdhgknaaGreatDoorKRenamedc
import Derived.Test.YtenfajgpdhgknaaGreatDoorKRenamedd
set_option linter.unusedSimpArgs false
set_option linter.unusedVariables false
set_option linter.unnecessarySimpa false
namespace Go.Proofs.YtenfajgpdhgknaaGreatDoor
open Go Go.RowKit Go.ChangeShapes Go.WideShapes Go.ChangeAt

theorem and_tt_fnRenamed {a b : Bool} (h1 : a = true) (h2 : b = true) : (a && b) = true := by rw [h1, h2]; rfl
theorem and_l_fnRenamed {a b : Bool} (h : (a && b) = true) : a = true := by cases a <;> simp_all
theorem and_r_fnRenamed {a b : Bool} (h : (a && b) = true) : b = true := by cases b <;> simp_all
set_option maxRecDepth 100000 in
theorem closed_fnRenamed : joinedFacts Tryz.pinned.checked.prog 8 Tryz.f8 (OpenSpec.ofChange Rows.fnRenamedSpec).bare Rows.fnRenamedRow = true := by
  unfold joinedFacts
  exact and_tt_fnRenamed (and_tt_fnRenamed (and_tt_fnRenamed (and_tt_fnRenamed (and_tt_fnRenamed (and_tt_fnRenamed (and_tt_fnRenamed (and_tt_fnRenamed (and_tt_fnRenamed (and_tt_fnRenamed (and_tt_fnRenamed (and_tt_fnRenamed (and_tt_fnRenamed (and_tt_fnRenamed (and_tt_fnRenamed (and_tt_fnRenamed (and_tt_fnRenamed (and_tt_fnRenamed (and_tt_fnRenamed (and_tt_fnRenamed (and_tt_fnRenamed (and_tt_fnRenamed (and_tt_fnRenamed (cl0_fnRenamed) (and_l_fnRenamed (and_l_fnRenamed (and_l_fnRenamed (and_l_fnRenamed (and_l_fnRenamed (and_l_fnRenamed (and_l_fnRenamed cl1_fnRenamed)))))))) (and_r_fnRenamed (and_l_fnRenamed (and_l_fnRenamed (and_l_fnRenamed (and_l_fnRenamed (and_l_fnRenamed (and_l_fnRenamed cl1_fnRenamed)))))))) (and_r_fnRenamed (and_l_fnRenamed (and_l_fnRenamed (and_l_fnRenamed (and_l_fnRenamed (and_l_fnRenamed cl1_fnRenamed))))))) (and_r_fnRenamed (and_l_fnRenamed (and_l_fnRenamed (and_l_fnRenamed (and_l_fnRenamed cl1_fnRenamed)))))) (and_r_fnRenamed (and_l_fnRenamed (and_l_fnRenamed (and_l_fnRenamed cl1_fnRenamed))))) (and_r_fnRenamed (and_l_fnRenamed (and_l_fnRenamed cl1_fnRenamed)))) (and_r_fnRenamed (and_l_fnRenamed cl1_fnRenamed))) (and_r_fnRenamed cl1_fnRenamed)) (and_l_fnRenamed (and_l_fnRenamed (and_l_fnRenamed (and_l_fnRenamed (and_l_fnRenamed (and_l_fnRenamed cl2_fnRenamed))))))) (and_r_fnRenamed (and_l_fnRenamed (and_l_fnRenamed (and_l_fnRenamed (and_l_fnRenamed (and_l_fnRenamed cl2_fnRenamed))))))) (and_r_fnRenamed (and_l_fnRenamed (and_l_fnRenamed (and_l_fnRenamed (and_l_fnRenamed cl2_fnRenamed)))))) (and_r_fnRenamed (and_l_fnRenamed (and_l_fnRenamed (and_l_fnRenamed cl2_fnRenamed))))) (and_r_fnRenamed (and_l_fnRenamed (and_l_fnRenamed cl2_fnRenamed)))) (and_r_fnRenamed (and_l_fnRenamed cl2_fnRenamed))) (and_r_fnRenamed cl2_fnRenamed)) (and_l_fnRenamed (and_l_fnRenamed (and_l_fnRenamed (and_l_fnRenamed (and_l_fnRenamed (and_l_fnRenamed (and_l_fnRenamed cl3_fnRenamed)))))))) (and_r_fnRenamed (and_l_fnRenamed (and_l_fnRenamed (and_l_fnRenamed (and_l_fnRenamed (and_l_fnRenamed (and_l_fnRenamed cl3_fnRenamed)))))))) (and_r_fnRenamed (and_l_fnRenamed (and_l_fnRenamed (and_l_fnRenamed (and_l_fnRenamed (and_l_fnRenamed cl3_fnRenamed))))))) (and_r_fnRenamed (and_l_fnRenamed (and_l_fnRenamed (and_l_fnRenamed (and_l_fnRenamed cl3_fnRenamed)))))) (and_r_fnRenamed (and_l_fnRenamed (and_l_fnRenamed (and_l_fnRenamed cl3_fnRenamed))))) (and_r_fnRenamed (and_l_fnRenamed (and_l_fnRenamed cl3_fnRenamed)))) (and_r_fnRenamed (and_l_fnRenamed cl3_fnRenamed))) (and_r_fnRenamed cl3_fnRenamed)

theorem said_Renamed : Rows.FnRenamedSaid :=
  OpenClaim.holds_of_cond 8 Tryz.f8 rfl rfl rfl rfl rfl rfl rfl ⟨rfl, rfl, rfl, rfl, rfl⟩ rfl rfl rfl rfl rfl (by kernel_rfl) Tryz.func8 closed_fnRenamed
    (of_decide_eq_true (by kernel_rfl)) (by unfold Func.isWrapper; first | (rw [if_pos (by decide +kernel)]; kernel_rfl) | (rw [if_neg (by decide +kernel)]; exact ⟨rfl, rfl⟩))
    (fun os started H enc _ F => by rw [OpenClaim.pre_eq_preRow]; exact lifted_Renamed os started H enc F)

theorem w_Renamed : Rows.fnRenamedRow.wfByText (OpenSpec.ofChange Rows.fnRenamedSpec) = true := by kernel_rfl
theorem m_Renamed : Tryz.pinned.checked.prog.mainIs = some (Rows.fnRenamedCard.stood.harness.1, Rows.fnRenamedCard.stood.harness.2.toList) := by kernel_rfl
theorem k_Renamed : true = Tryz.pinned.checked.prog.looks [] := by kernel_rfl
theorem plain_Renamed (f : FuncId) (fn : Func) (hf : Tryz.pinned.checked.prog.funcNamed "loop.example/g00974/laws.FnRenamed" = some f) (hfn : Tryz.pinned.checked.prog.funcs[f]? = some fn) :
    true = Tryz.pinned.checked.prog.looks [] ∧ ∀ (j : Nat) t, fn.params[j]? = some t → Tryz.pinned.checked.prog.wantsStandIn t = false := by
  obtain rfl : f = 8 := Option.some.inj ((show Tryz.prog.funcNamed "loop.example/g00974/laws.FnRenamed" = some 8 by kernel_rfl).symm.trans hf) |>.symm
  obtain rfl : fn = Tryz.f8 := (Option.some.inj (Tryz.func8.symm.trans hfn)).symm
  refine ⟨k_Renamed, fun j t ht => ?_⟩
  rw [Tryz.params8] at ht
  have hm := Array.mem_of_getElem? ht
  have hall : ∀ t ∈ (#[44] : Array TypeId), Tryz.prog.wantsStandIn t = false := by
    intro t ht
    simp only [List.mem_toArray, List.mem_cons, List.not_mem_nil, or_false] at ht
    rcases ht with rfl
    · exact (show Tryz.prog.wantsStandIn 44 = false by kernel_rfl)
  exact hall t hm

/-- The card. -/
theorem card_Renamed : Rows.FnRenamedCardSaid :=
  Claim7.holds_tied_plain_at .later [] _ _ _ _ said_Renamed (fun _ h => by cases h) w_Renamed (fun _ h => by cases h) fnRenamed_row_tie rfl ⟨rfl, rfl⟩ m_Renamed rfl plain_Renamed g_Renamed
end Go.Proofs.YtenfajgpdhgknaaGreatDoor
