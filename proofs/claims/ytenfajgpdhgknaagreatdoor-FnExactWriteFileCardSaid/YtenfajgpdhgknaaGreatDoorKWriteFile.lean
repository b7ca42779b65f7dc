/-
  laws.FnExactWriteFile: the statement and its card: for every machine and every other argument the law returns true, and the arguments read as they did. Conditions: the package-level variables that the row lists hold what it lists.
-/
import Derived.Test.YtenfajgpdhgknaaGreatDoorLd
import Derived.Test.YtenfajgpdhgknaaGreatDoorLWriteFile
import Derived.Test.YtenfajgpdhgknaaGreatDoorCards
import Derived.Test.YtenfajgpdhgknaaGreatDoorTie
import Derived.ChangeMaps5
import Derived.Deep.DeepWitnessRowRef
import Derived.Test.YtenfajgpdhgknaaGreatDoorKWriteFilea
import Derived.Test.YtenfajgpdhgknaaGreatDoorKWriteFileb
import Derived.Test.YtenfajgpdhgknaaGreatDoorKWriteFilec
import Derived.Test.YtenfajgpdhgknaaGreatDoorKWriteFiled
set_option linter.unusedSimpArgs false
set_option linter.unusedVariables false
set_option linter.unnecessarySimpa false
namespace Go.Proofs.YtenfajgpdhgknaaGreatDoor
open Go Go.RowKit Go.ChangeShapes Go.WideShapes Go.ChangeAt

theorem and_tt_fnExactWriteFile {a b : Bool} (h1 : a = true) (h2 : b = true) : (a && b) = true := by rw [h1, h2]; rfl
theorem and_l_fnExactWriteFile {a b : Bool} (h : (a && b) = true) : a = true := by cases a <;> simp_all
theorem and_r_fnExactWriteFile {a b : Bool} (h : (a && b) = true) : b = true := by cases b <;> simp_all
set_option maxRecDepth 100000 in
theorem closed_fnExactWriteFile : joinedFacts Tryz.pinned.checked.prog 5 Tryz.f5 (OpenSpec.ofChange Rows.fnExactWriteFileSpec).bare Rows.fnExactWriteFileRow = true := by
  unfold joinedFacts
  exact and_tt_fnExactWriteFile (and_tt_fnExactWriteFile (and_tt_fnExactWriteFile (and_tt_fnExactWriteFile (and_tt_fnExactWriteFile (and_tt_fnExactWriteFile (and_tt_fnExactWriteFile (and_tt_fnExactWriteFile (and_tt_fnExactWriteFile (and_tt_fnExactWriteFile (and_tt_fnExactWriteFile (and_tt_fnExactWriteFile (and_tt_fnExactWriteFile (and_tt_fnExactWriteFile (and_tt_fnExactWriteFile (and_tt_fnExactWriteFile (and_tt_fnExactWriteFile (and_tt_fnExactWriteFile (and_tt_fnExactWriteFile (and_tt_fnExactWriteFile (and_tt_fnExactWriteFile (and_tt_fnExactWriteFile (and_tt_fnExactWriteFile (cl0_fnExactWriteFile) (and_l_fnExactWriteFile (and_l_fnExactWriteFile (and_l_fnExactWriteFile (and_l_fnExactWriteFile (and_l_fnExactWriteFile (and_l_fnExactWriteFile (and_l_fnExactWriteFile cl1_fnExactWriteFile)))))))) (and_r_fnExactWriteFile (and_l_fnExactWriteFile (and_l_fnExactWriteFile (and_l_fnExactWriteFile (and_l_fnExactWriteFile (and_l_fnExactWriteFile (and_l_fnExactWriteFile cl1_fnExactWriteFile)))))))) (and_r_fnExactWriteFile (and_l_fnExactWriteFile (and_l_fnExactWriteFile (and_l_fnExactWriteFile (and_l_fnExactWriteFile (and_l_fnExactWriteFile cl1_fnExactWriteFile))))))) (and_r_fnExactWriteFile (and_l_fnExactWriteFile (and_l_fnExactWriteFile (and_l_fnExactWriteFile (and_l_fnExactWriteFile cl1_fnExactWriteFile)))))) (and_r_fnExactWriteFile (and_l_fnExactWriteFile (and_l_fnExactWriteFile (and_l_fnExactWriteFile cl1_fnExactWriteFile))))) (and_r_fnExactWriteFile (and_l_fnExactWriteFile (and_l_fnExactWriteFile cl1_fnExactWriteFile)))) (and_r_fnExactWriteFile (and_l_fnExactWriteFile cl1_fnExactWriteFile))) (and_r_fnExactWriteFile cl1_fnExactWriteFile)) (and_l_fnExactWriteFile (and_l_fnExactWriteFile (and_l_fnExactWriteFile (and_l_fnExactWriteFile (and_l_fnExactWriteFile (and_l_fnExactWriteFile cl2_fnExactWriteFile))))))) (and_r_fnExactWriteFile (and_l_fnExactWriteFile (and_l_fnExactWriteFile (and_l_fnExactWriteFile (and_l_fnExactWriteFile (and_l_fnExactWriteFile cl2_fnExactWriteFile))))))) (and_r_fnExactWriteFile (and_l_fnExactWriteFile (and_l_fnExactWriteFile (and_l_fnExactWriteFile (and_l_fnExactWriteFile cl2_fnExactWriteFile)))))) (and_r_fnExactWriteFile (and_l_fnExactWriteFile (and_l_fnExactWriteFile (and_l_fnExactWriteFile cl2_fnExactWriteFile))))) (and_r_fnExactWriteFile (and_l_fnExactWriteFile (and_l_fnExactWriteFile cl2_fnExactWriteFile)))) (and_r_fnExactWriteFile (and_l_fnExactWriteFile cl2_fnExactWriteFile))) (and_r_fnExactWriteFile cl2_fnExactWriteFile)) (and_l_fnExactWriteFile (and_l_fnExactWriteFile (and_l_fnExactWriteFile (and_l_fnExactWriteFile (and_l_fnExactWriteFile (and_l_fnExactWriteFile (and_l_fnExactWriteFile cl3_fnExactWriteFile)))))))) (and_r_fnExactWriteFile (and_l_fnExactWriteFile (and_l_fnExactWriteFile (and_l_fnExactWriteFile (and_l_fnExactWriteFile (and_l_fnExactWriteFile (and_l_fnExactWriteFile cl3_fnExactWriteFile)))))))) (and_r_fnExactWriteFile (and_l_fnExactWriteFile (and_l_fnExactWriteFile (and_l_fnExactWriteFile (and_l_fnExactWriteFile (and_l_fnExactWriteFile cl3_fnExactWriteFile))))))) (and_r_fnExactWriteFile (and_l_fnExactWriteFile (and_l_fnExactWriteFile (and_l_fnExactWriteFile (and_l_fnExactWriteFile cl3_fnExactWriteFile)))))) (and_r_fnExactWriteFile (and_l_fnExactWriteFile (and_l_fnExactWriteFile (and_l_fnExactWriteFile cl3_fnExactWriteFile))))) (and_r_fnExactWriteFile (and_l_fnExactWriteFile (and_l_fnExactWriteFile cl3_fnExactWriteFile)))) (and_r_fnExactWriteFile (and_l_fnExactWriteFile cl3_fnExactWriteFile))) (and_r_fnExactWriteFile cl3_fnExactWriteFile)

theorem said_WriteFile : Rows.FnExactWriteFileSaid :=
  OpenClaim.holds_of_cond 5 Tryz.f5 rfl rfl rfl rfl rfl rfl rfl ⟨rfl, rfl, rfl, rfl, rfl⟩ rfl rfl rfl rfl rfl (by kernel_rfl) Tryz.func5 closed_fnExactWriteFile
    (of_decide_eq_true (by kernel_rfl)) (by unfold Func.isWrapper; first | (rw [if_pos (by decide +kernel)]; kernel_rfl) | (rw [if_neg (by decide +kernel)]; exact ⟨rfl, rfl⟩))
    (fun os started H enc _ F => by rw [OpenClaim.pre_eq_preRow]; exact lifted_WriteFile os started H enc F)

theorem w_WriteFile : Rows.fnExactWriteFileRow.wfByText (OpenSpec.ofChange Rows.fnExactWriteFileSpec) = true := by kernel_rfl
theorem m_WriteFile : Tryz.pinned.checked.prog.mainIs = some (Rows.fnExactWriteFileCard.stood.harness.1, Rows.fnExactWriteFileCard.stood.harness.2.toList) := by kernel_rfl
theorem k_WriteFile : true = Tryz.pinned.checked.prog.looks [] := by kernel_rfl
theorem plain_WriteFile (f : FuncId) (fn : Func) (hf : Tryz.pinned.checked.prog.funcNamed "loop.example/g00974/laws.FnExactWriteFile" = some f) (hfn : Tryz.pinned.checked.prog.funcs[f]? = some fn) :
    true = Tryz.pinned.checked.prog.looks [] ∧ ∀ (j : Nat) t, fn.params[j]? = some t → Tryz.pinned.checked.prog.wantsStandIn t = false := by
  obtain rfl : f = 5 := Option.some.inj ((show Tryz.prog.funcNamed "loop.example/g00974/laws.FnExactWriteFile" = some 5 by kernel_rfl).symm.trans hf) |>.symm
  obtain rfl : fn = Tryz.f5 := (Option.some.inj (Tryz.func5.symm.trans hfn)).symm
  refine ⟨k_WriteFile, fun j t ht => ?_⟩
  rw [Tryz.params5] at ht
  have hm := Array.mem_of_getElem? ht
  have hall : ∀ t ∈ (#[27, 3, 3, 9] : Array TypeId), Tryz.prog.wantsStandIn t = false := by
    intro t ht
    simp only [List.mem_toArray, List.mem_cons, List.not_mem_nil, or_false] at ht
    rcases ht with rfl | rfl | rfl | rfl
    · exact (show Tryz.prog.wantsStandIn 27 = false by kernel_rfl)
    · exact (show Tryz.prog.wantsStandIn 3 = false by kernel_rfl)
    · exact (show Tryz.prog.wantsStandIn 3 = false by kernel_rfl)
    · exact (show Tryz.prog.wantsStandIn 9 = false by kernel_rfl)
  exact hall t hm

/-- The card. -/
theorem card_WriteFile : Rows.FnExactWriteFileCardSaid :=
  Claim7.holds_tied_plain_at .later [] _ _ _ _ said_WriteFile (fun _ h => by cases h) w_WriteFile (fun _ h => by cases h) fnExactWriteFile_row_tie rfl ⟨rfl, rfl⟩ m_WriteFile rfl plain_WriteFile g_WriteFile
end Go.Proofs.YtenfajgpdhgknaaGreatDoor
