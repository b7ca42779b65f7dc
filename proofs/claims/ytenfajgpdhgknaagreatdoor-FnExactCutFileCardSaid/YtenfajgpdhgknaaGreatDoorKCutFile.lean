/-
  laws.FnExactCutFile: the statement and its card: for every machine and every other argument the law returns true, and the arguments read as they did. Conditions: the package-level variables that the row lists hold what it lists.
-/
import Derived.Test.YtenfajgpdhgknaaGreatDoorLd
import Derived.Test.YtenfajgpdhgknaaGreatDoorLCutFile
import Derived.Test.YtenfajgpdhgknaaGreatDoorCards
import Derived.Test.YtenfajgpdhgknaaGreatDoorTie
import Derived.ChangeMaps5
import Derived.Deep.DeepWitnessRowRef
import Derived.Test.YtenfajgpdhgknaaGreatDoorKCutFilea
import Derived.Test.YtenfajgpdhgknaaGreatDoorKCutFileb
import Derived.Test.YtenfajgpdhgknaaGreatDoorKCutFilec
import Derived.Test.YtenfajgpdhgknaaGreatDoorKCutFiled
set_option linter.unusedSimpArgs false
set_option linter.unusedVariables false
set_option linter.unnecessarySimpa false
namespace Go.Proofs.YtenfajgpdhgknaaGreatDoor
open Go Go.RowKit Go.ChangeShapes Go.WideShapes Go.ChangeAt

theorem and_tt_fnExactCutFile {a b : Bool} (h1 : a = true) (h2 : b = true) : (a && b) = true := by rw [h1, h2]; rfl
theorem and_l_fnExactCutFile {a b : Bool} (h : (a && b) = true) : a = true := by cases a <;> simp_all
theorem and_r_fnExactCutFile {a b : Bool} (h : (a && b) = true) : b = true := by cases b <;> simp_all
set_option maxRecDepth 100000 in
theorem closed_fnExactCutFile : joinedFacts Tryz.pinned.checked.prog 4 Tryz.f4 (OpenSpec.ofChange Rows.fnExactCutFileSpec).bare Rows.fnExactCutFileRow = true := by
  unfold joinedFacts
  exact and_tt_fnExactCutFile (and_tt_fnExactCutFile (and_tt_fnExactCutFile (and_tt_fnExactCutFile (and_tt_fnExactCutFile (and_tt_fnExactCutFile (and_tt_fnExactCutFile (and_tt_fnExactCutFile (and_tt_fnExactCutFile (and_tt_fnExactCutFile (and_tt_fnExactCutFile (and_tt_fnExactCutFile (and_tt_fnExactCutFile (and_tt_fnExactCutFile (and_tt_fnExactCutFile (and_tt_fnExactCutFile (and_tt_fnExactCutFile (and_tt_fnExactCutFile (and_tt_fnExactCutFile (and_tt_fnExactCutFile (and_tt_fnExactCutFile (and_tt_fnExactCutFile (and_tt_fnExactCutFile (cl0_fnExactCutFile) (and_l_fnExactCutFile (and_l_fnExactCutFile (and_l_fnExactCutFile (and_l_fnExactCutFile (and_l_fnExactCutFile (and_l_fnExactCutFile (and_l_fnExactCutFile cl1_fnExactCutFile)))))))) (and_r_fnExactCutFile (and_l_fnExactCutFile (and_l_fnExactCutFile (and_l_fnExactCutFile (and_l_fnExactCutFile (and_l_fnExactCutFile (and_l_fnExactCutFile cl1_fnExactCutFile)))))))) (and_r_fnExactCutFile (and_l_fnExactCutFile (and_l_fnExactCutFile (and_l_fnExactCutFile (and_l_fnExactCutFile (and_l_fnExactCutFile cl1_fnExactCutFile))))))) (and_r_fnExactCutFile (and_l_fnExactCutFile (and_l_fnExactCutFile (and_l_fnExactCutFile (and_l_fnExactCutFile cl1_fnExactCutFile)))))) (and_r_fnExactCutFile (and_l_fnExactCutFile (and_l_fnExactCutFile (and_l_fnExactCutFile cl1_fnExactCutFile))))) (and_r_fnExactCutFile (and_l_fnExactCutFile (and_l_fnExactCutFile cl1_fnExactCutFile)))) (and_r_fnExactCutFile (and_l_fnExactCutFile cl1_fnExactCutFile))) (and_r_fnExactCutFile cl1_fnExactCutFile)) (and_l_fnExactCutFile (and_l_fnExactCutFile (and_l_fnExactCutFile (and_l_fnExactCutFile (and_l_fnExactCutFile (and_l_fnExactCutFile cl2_fnExactCutFile))))))) (and_r_fnExactCutFile (and_l_fnExactCutFile (and_l_fnExactCutFile (and_l_fnExactCutFile (and_l_fnExactCutFile (and_l_fnExactCutFile cl2_fnExactCutFile))))))) (and_r_fnExactCutFile (and_l_fnExactCutFile (and_l_fnExactCutFile (and_l_fnExactCutFile (and_l_fnExactCutFile cl2_fnExactCutFile)))))) (and_r_fnExactCutFile (and_l_fnExactCutFile (and_l_fnExactCutFile (and_l_fnExactCutFile cl2_fnExactCutFile))))) (and_r_fnExactCutFile (and_l_fnExactCutFile (and_l_fnExactCutFile cl2_fnExactCutFile)))) (and_r_fnExactCutFile (and_l_fnExactCutFile cl2_fnExactCutFile))) (and_r_fnExactCutFile cl2_fnExactCutFile)) (and_l_fnExactCutFile (and_l_fnExactCutFile (and_l_fnExactCutFile (and_l_fnExactCutFile (and_l_fnExactCutFile (and_l_fnExactCutFile (and_l_fnExactCutFile cl3_fnExactCutFile)))))))) (and_r_fnExactCutFile (and_l_fnExactCutFile (and_l_fnExactCutFile (and_l_fnExactCutFile (and_l_fnExactCutFile (and_l_fnExactCutFile (and_l_fnExactCutFile cl3_fnExactCutFile)))))))) (and_r_fnExactCutFile (and_l_fnExactCutFile (and_l_fnExactCutFile (and_l_fnExactCutFile (and_l_fnExactCutFile (and_l_fnExactCutFile cl3_fnExactCutFile))))))) (and_r_fnExactCutFile (and_l_fnExactCutFile (and_l_fnExactCutFile (and_l_fnExactCutFile (and_l_fnExactCutFile cl3_fnExactCutFile)))))) (and_r_fnExactCutFile (and_l_fnExactCutFile (and_l_fnExactCutFile (and_l_fnExactCutFile cl3_fnExactCutFile))))) (and_r_fnExactCutFile (and_l_fnExactCutFile (and_l_fnExactCutFile cl3_fnExactCutFile)))) (and_r_fnExactCutFile (and_l_fnExactCutFile cl3_fnExactCutFile))) (and_r_fnExactCutFile cl3_fnExactCutFile)

theorem said_CutFile : Rows.FnExactCutFileSaid :=
  OpenClaim.holds_of_cond 4 Tryz.f4 rfl rfl rfl rfl rfl rfl rfl ⟨rfl, rfl, rfl, rfl, rfl⟩ rfl rfl rfl rfl rfl (by kernel_rfl) Tryz.func4 closed_fnExactCutFile
    (of_decide_eq_true (by kernel_rfl)) (by unfold Func.isWrapper; first | (rw [if_pos (by decide +kernel)]; kernel_rfl) | (rw [if_neg (by decide +kernel)]; exact ⟨rfl, rfl⟩))
    (fun os started H enc _ F => by rw [OpenClaim.pre_eq_preRow]; exact lifted_CutFile os started H enc F)

theorem w_CutFile : Rows.fnExactCutFileRow.wfByText (OpenSpec.ofChange Rows.fnExactCutFileSpec) = true := by kernel_rfl
theorem m_CutFile : Tryz.pinned.checked.prog.mainIs = some (Rows.fnExactCutFileCard.stood.harness.1, Rows.fnExactCutFileCard.stood.harness.2.toList) := by kernel_rfl
theorem k_CutFile : true = Tryz.pinned.checked.prog.looks [] := by kernel_rfl
theorem plain_CutFile (f : FuncId) (fn : Func) (hf : Tryz.pinned.checked.prog.funcNamed "loop.example/g00974/laws.FnExactCutFile" = some f) (hfn : Tryz.pinned.checked.prog.funcs[f]? = some fn) :
    true = Tryz.pinned.checked.prog.looks [] ∧ ∀ (j : Nat) t, fn.params[j]? = some t → Tryz.pinned.checked.prog.wantsStandIn t = false := by
  obtain rfl : f = 4 := Option.some.inj ((show Tryz.prog.funcNamed "loop.example/g00974/laws.FnExactCutFile" = some 4 by kernel_rfl).symm.trans hf) |>.symm
  obtain rfl : fn = Tryz.f4 := (Option.some.inj (Tryz.func4.symm.trans hfn)).symm
  refine ⟨k_CutFile, fun j t ht => ?_⟩
  rw [Tryz.params4] at ht
  have hm := Array.mem_of_getElem? ht
  have hall : ∀ t ∈ (#[27, 3, 3] : Array TypeId), Tryz.prog.wantsStandIn t = false := by
    intro t ht
    simp only [List.mem_toArray, List.mem_cons, List.not_mem_nil, or_false] at ht
    rcases ht with rfl | rfl | rfl
    · exact (show Tryz.prog.wantsStandIn 27 = false by kernel_rfl)
    · exact (show Tryz.prog.wantsStandIn 3 = false by kernel_rfl)
    · exact (show Tryz.prog.wantsStandIn 3 = false by kernel_rfl)
  exact hall t hm

/-- The card. -/
theorem card_CutFile : Rows.FnExactCutFileCardSaid :=
  Claim7.holds_tied_plain_at .later [] _ _ _ _ said_CutFile (fun _ h => by cases h) w_CutFile (fun _ h => by cases h) fnExactCutFile_row_tie rfl ⟨rfl, rfl⟩ m_CutFile rfl plain_CutFile g_CutFile
end Go.Proofs.YtenfajgpdhgknaaGreatDoor
