/-
  laws.FnExactProcs: the statement and its card: for every machine and every other argument the law returns true, and the arguments read as they did. Conditions: the package-level variables that the row lists hold what it lists.
-/
import Derived.Test.YtenfajgpdhgknaaGreatDoorS06HELD
import Derived.Test.YtenfajgpdhgknaaGreatDoorLProcs
import Derived.Test.YtenfajgpdhgknaaGreatDoorOpenB
import Derived.Test.YtenfajgpdhgknaaGreatDoorCards
import Derived.Test.YtenfajgpdhgknaaGreatDoorTie
import Derived.ChangeMaps5
import Derived.Deep.DeepWitnessRowRef
import Derived.Test.YtenfajgpdhgknaaGreatDoorKProcsa
import Derived.Test.YtenfajgpdhgknaaGreatDoorKProcsb
import Derived.Test.YtenfajgpdhgknaaGreatDoorKProcsc
import Derived.Test.YtenfajgpdhgknaaGreatDoorKProcsd
set_option linter.unusedSimpArgs false
set_option linter.unusedVariables false
set_option linter.unnecessarySimpa false
namespace Go.Proofs.YtenfajgpdhgknaaGreatDoor
open Go Go.RowKit Go.ChangeShapes Go.WideShapes Go.ChangeAt

theorem and_tt_fnProcs {a b : Bool} (h1 : a = true) (h2 : b = true) : (a && b) = true := by rw [h1, h2]; rfl
theorem and_l_fnProcs {a b : Bool} (h : (a && b) = true) : a = true := by cases a <;> simp_all
theorem and_r_fnProcs {a b : Bool} (h : (a && b) = true) : b = true := by cases b <;> simp_all
set_option maxRecDepth 100000 in
theorem closed_fnProcs : joinedFacts Tryz.pinned.checked.prog 10 Tryz.f10 (OpenSpec.ofChange Rows.fnProcsSpec).bare Rows.fnProcsRow = true := by
  unfold joinedFacts
  exact and_tt_fnProcs (and_tt_fnProcs (and_tt_fnProcs (and_tt_fnProcs (and_tt_fnProcs (and_tt_fnProcs (and_tt_fnProcs (and_tt_fnProcs (and_tt_fnProcs (and_tt_fnProcs (and_tt_fnProcs (and_tt_fnProcs (and_tt_fnProcs (and_tt_fnProcs (and_tt_fnProcs (and_tt_fnProcs (and_tt_fnProcs (and_tt_fnProcs (and_tt_fnProcs (and_tt_fnProcs (and_tt_fnProcs (and_tt_fnProcs (and_tt_fnProcs (cl0_fnProcs) (and_l_fnProcs (and_l_fnProcs (and_l_fnProcs (and_l_fnProcs (and_l_fnProcs (and_l_fnProcs (and_l_fnProcs cl1_fnProcs)))))))) (and_r_fnProcs (and_l_fnProcs (and_l_fnProcs (and_l_fnProcs (and_l_fnProcs (and_l_fnProcs (and_l_fnProcs cl1_fnProcs)))))))) (and_r_fnProcs (and_l_fnProcs (and_l_fnProcs (and_l_fnProcs (and_l_fnProcs (and_l_fnProcs cl1_fnProcs))))))) (and_r_fnProcs (and_l_fnProcs (and_l_fnProcs (and_l_fnProcs (and_l_fnProcs cl1_fnProcs)))))) (and_r_fnProcs (and_l_fnProcs (and_l_fnProcs (and_l_fnProcs cl1_fnProcs))))) (and_r_fnProcs (and_l_fnProcs (and_l_fnProcs cl1_fnProcs)))) (and_r_fnProcs (and_l_fnProcs cl1_fnProcs))) (and_r_fnProcs cl1_fnProcs)) (and_l_fnProcs (and_l_fnProcs (and_l_fnProcs (and_l_fnProcs (and_l_fnProcs (and_l_fnProcs cl2_fnProcs))))))) (and_r_fnProcs (and_l_fnProcs (and_l_fnProcs (and_l_fnProcs (and_l_fnProcs (and_l_fnProcs cl2_fnProcs))))))) (and_r_fnProcs (and_l_fnProcs (and_l_fnProcs (and_l_fnProcs (and_l_fnProcs cl2_fnProcs)))))) (and_r_fnProcs (and_l_fnProcs (and_l_fnProcs (and_l_fnProcs cl2_fnProcs))))) (and_r_fnProcs (and_l_fnProcs (and_l_fnProcs cl2_fnProcs)))) (and_r_fnProcs (and_l_fnProcs cl2_fnProcs))) (and_r_fnProcs cl2_fnProcs)) (and_l_fnProcs (and_l_fnProcs (and_l_fnProcs (and_l_fnProcs (and_l_fnProcs (and_l_fnProcs (and_l_fnProcs cl3_fnProcs)))))))) (and_r_fnProcs (and_l_fnProcs (and_l_fnProcs (and_l_fnProcs (and_l_fnProcs (and_l_fnProcs (and_l_fnProcs cl3_fnProcs)))))))) (and_r_fnProcs (and_l_fnProcs (and_l_fnProcs (and_l_fnProcs (and_l_fnProcs (and_l_fnProcs cl3_fnProcs))))))) (and_r_fnProcs (and_l_fnProcs (and_l_fnProcs (and_l_fnProcs (and_l_fnProcs cl3_fnProcs)))))) (and_r_fnProcs (and_l_fnProcs (and_l_fnProcs (and_l_fnProcs cl3_fnProcs))))) (and_r_fnProcs (and_l_fnProcs (and_l_fnProcs cl3_fnProcs)))) (and_r_fnProcs (and_l_fnProcs cl3_fnProcs))) (and_r_fnProcs cl3_fnProcs)

theorem said_Procs : Rows.FnProcsSaid :=
  OpenClaim.holds_of_cond 10 Tryz.f10 rfl rfl rfl rfl rfl rfl rfl ⟨rfl, rfl, rfl, rfl, rfl⟩ rfl rfl rfl rfl rfl (by kernel_rfl) Tryz.func10 closed_fnProcs
    (of_decide_eq_true (by kernel_rfl)) (by unfold Func.isWrapper; first | (rw [if_pos (by decide +kernel)]; kernel_rfl) | (rw [if_neg (by decide +kernel)]; exact ⟨rfl, rfl⟩))
    (fun os started H enc _ F => by rw [OpenClaim.pre_eq_preRow]; exact lifted_Procs os started H enc F)

theorem w_Procs : Rows.fnProcsRow.wfByText (OpenSpec.ofChange Rows.fnProcsSpec) = true := by kernel_rfl
theorem m_Procs : Tryz.pinned.checked.prog.mainIs = some (Rows.fnProcsCard.stood.harness.1, Rows.fnProcsCard.stood.harness.2.toList) := by kernel_rfl
theorem k_Procs : true = Tryz.pinned.checked.prog.looks [] := by kernel_rfl
theorem plain_Procs (f : FuncId) (fn : Func) (hf : Tryz.pinned.checked.prog.funcNamed "loop.example/g00974/laws.FnProcs" = some f) (hfn : Tryz.pinned.checked.prog.funcs[f]? = some fn) :
    true = Tryz.pinned.checked.prog.looks [] ∧ ∀ (j : Nat) t, fn.params[j]? = some t → Tryz.pinned.checked.prog.wantsStandIn t = false := by
  obtain rfl : f = 10 := Option.some.inj ((show Tryz.prog.funcNamed "loop.example/g00974/laws.FnProcs" = some 10 by kernel_rfl).symm.trans hf) |>.symm
  obtain rfl : fn = Tryz.f10 := (Option.some.inj (Tryz.func10.symm.trans hfn)).symm
  refine ⟨k_Procs, fun j t ht => ?_⟩
  rw [Tryz.params10] at ht
  have hm := Array.mem_of_getElem? ht
  have hall : ∀ t ∈ (#[44] : Array TypeId), Tryz.prog.wantsStandIn t = false := by
    intro t ht
    simp only [List.mem_toArray, List.mem_cons, List.not_mem_nil, or_false] at ht
    rcases ht with rfl
    · exact (show Tryz.prog.wantsStandIn 44 = false by kernel_rfl)
  exact hall t hm

/-- The card. -/
theorem card_Procs : Rows.FnProcsCardSaid :=
  Claim7.holds_tied_plain_at .later [] _ _ _ _ said_Procs (fun _ h => by cases h) w_Procs (fun _ h => by cases h) fnProcs_row_tie rfl ⟨rfl, rfl⟩ m_Procs rfl plain_Procs g_Procs
end Go.Proofs.YtenfajgpdhgknaaGreatDoor
