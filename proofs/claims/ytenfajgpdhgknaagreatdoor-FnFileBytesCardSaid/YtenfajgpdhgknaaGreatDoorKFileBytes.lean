/-
  laws.FnExactFileBytes: the statement and its card: for every machine and every other argument the law returns true, and the arguments read as they did. Conditions: the package-level variables that the row lists hold what it lists.
-/
import Derived.Test.YtenfajgpdhgknaaGreatDoorLd
import Derived.Test.YtenfajgpdhgknaaGreatDoorLFileBytes
import Derived.Test.YtenfajgpdhgknaaGreatDoorOpenB
import Derived.Test.YtenfajgpdhgknaaGreatDoorCards
import Derived.Test.YtenfajgpdhgknaaGreatDoorTie
import Derived.ChangeMaps5
import Derived.Deep.DeepWitnessRowRef
import Derived.Test.YtenfajgpdhgknaaGreatDoorKFileBytesa
import Derived.Test.YtenfajgpdhgknaaGreatDoorKFileBytesb
import Derived.Test.YtenfajgpdhgknaaGreatDoorKFileBytesc
import Derived.Test.YtenfajgpdhgknaaGreatDoorKFileBytesd
set_option linter.unusedSimpArgs false
set_option linter.unusedVariables false
set_option linter.unnecessarySimpa false
namespace Go.Proofs.YtenfajgpdhgknaaGreatDoor
open Go Go.RowKit Go.ChangeShapes Go.WideShapes Go.ChangeAt

theorem and_tt_fnFileBytes {a b : Bool} (h1 : a = true) (h2 : b = true) : (a && b) = true := by rw [h1, h2]; rfl
theorem and_l_fnFileBytes {a b : Bool} (h : (a && b) = true) : a = true := by cases a <;> simp_all
theorem and_r_fnFileBytes {a b : Bool} (h : (a && b) = true) : b = true := by cases b <;> simp_all
set_option maxRecDepth 100000 in
theorem closed_fnFileBytes : joinedFacts Tryz.pinned.checked.prog 12 Tryz.f12 (OpenSpec.ofChange Rows.fnFileBytesSpec).bare Rows.fnFileBytesRow = true := by
  unfold joinedFacts
  exact and_tt_fnFileBytes (and_tt_fnFileBytes (and_tt_fnFileBytes (and_tt_fnFileBytes (and_tt_fnFileBytes (and_tt_fnFileBytes (and_tt_fnFileBytes (and_tt_fnFileBytes (and_tt_fnFileBytes (and_tt_fnFileBytes (and_tt_fnFileBytes (and_tt_fnFileBytes (and_tt_fnFileBytes (and_tt_fnFileBytes (and_tt_fnFileBytes (and_tt_fnFileBytes (and_tt_fnFileBytes (and_tt_fnFileBytes (and_tt_fnFileBytes (and_tt_fnFileBytes (and_tt_fnFileBytes (and_tt_fnFileBytes (and_tt_fnFileBytes (cl0_fnFileBytes) (and_l_fnFileBytes (and_l_fnFileBytes (and_l_fnFileBytes (and_l_fnFileBytes (and_l_fnFileBytes (and_l_fnFileBytes (and_l_fnFileBytes cl1_fnFileBytes)))))))) (and_r_fnFileBytes (and_l_fnFileBytes (and_l_fnFileBytes (and_l_fnFileBytes (and_l_fnFileBytes (and_l_fnFileBytes (and_l_fnFileBytes cl1_fnFileBytes)))))))) (and_r_fnFileBytes (and_l_fnFileBytes (and_l_fnFileBytes (and_l_fnFileBytes (and_l_fnFileBytes (and_l_fnFileBytes cl1_fnFileBytes))))))) (and_r_fnFileBytes (and_l_fnFileBytes (and_l_fnFileBytes (and_l_fnFileBytes (and_l_fnFileBytes cl1_fnFileBytes)))))) (and_r_fnFileBytes (and_l_fnFileBytes (and_l_fnFileBytes (and_l_fnFileBytes cl1_fnFileBytes))))) (and_r_fnFileBytes (and_l_fnFileBytes (and_l_fnFileBytes cl1_fnFileBytes)))) (and_r_fnFileBytes (and_l_fnFileBytes cl1_fnFileBytes))) (and_r_fnFileBytes cl1_fnFileBytes)) (and_l_fnFileBytes (and_l_fnFileBytes (and_l_fnFileBytes (and_l_fnFileBytes (and_l_fnFileBytes (and_l_fnFileBytes cl2_fnFileBytes))))))) (and_r_fnFileBytes (and_l_fnFileBytes (and_l_fnFileBytes (and_l_fnFileBytes (and_l_fnFileBytes (and_l_fnFileBytes cl2_fnFileBytes))))))) (and_r_fnFileBytes (and_l_fnFileBytes (and_l_fnFileBytes (and_l_fnFileBytes (and_l_fnFileBytes cl2_fnFileBytes)))))) (and_r_fnFileBytes (and_l_fnFileBytes (and_l_fnFileBytes (and_l_fnFileBytes cl2_fnFileBytes))))) (and_r_fnFileBytes (and_l_fnFileBytes (and_l_fnFileBytes cl2_fnFileBytes)))) (and_r_fnFileBytes (and_l_fnFileBytes cl2_fnFileBytes))) (and_r_fnFileBytes cl2_fnFileBytes)) (and_l_fnFileBytes (and_l_fnFileBytes (and_l_fnFileBytes (and_l_fnFileBytes (and_l_fnFileBytes (and_l_fnFileBytes (and_l_fnFileBytes cl3_fnFileBytes)))))))) (and_r_fnFileBytes (and_l_fnFileBytes (and_l_fnFileBytes (and_l_fnFileBytes (and_l_fnFileBytes (and_l_fnFileBytes (and_l_fnFileBytes cl3_fnFileBytes)))))))) (and_r_fnFileBytes (and_l_fnFileBytes (and_l_fnFileBytes (and_l_fnFileBytes (and_l_fnFileBytes (and_l_fnFileBytes cl3_fnFileBytes))))))) (and_r_fnFileBytes (and_l_fnFileBytes (and_l_fnFileBytes (and_l_fnFileBytes (and_l_fnFileBytes cl3_fnFileBytes)))))) (and_r_fnFileBytes (and_l_fnFileBytes (and_l_fnFileBytes (and_l_fnFileBytes cl3_fnFileBytes))))) (and_r_fnFileBytes (and_l_fnFileBytes (and_l_fnFileBytes cl3_fnFileBytes)))) (and_r_fnFileBytes (and_l_fnFileBytes cl3_fnFileBytes))) (and_r_fnFileBytes cl3_fnFileBytes)

theorem said_FileBytes : Rows.FnFileBytesSaid :=
  OpenClaim.holds_of_cond 12 Tryz.f12 rfl rfl rfl rfl rfl rfl rfl ⟨rfl, rfl, rfl, rfl, rfl⟩ rfl rfl rfl rfl rfl (by kernel_rfl) Tryz.func12 closed_fnFileBytes
    (of_decide_eq_true (by kernel_rfl)) (by unfold Func.isWrapper; first | (rw [if_pos (by decide +kernel)]; kernel_rfl) | (rw [if_neg (by decide +kernel)]; exact ⟨rfl, rfl⟩))
    (fun os started H enc _ F => by rw [OpenClaim.pre_eq_preRow]; exact lifted_FileBytes os started H enc F)

theorem w_FileBytes : Rows.fnFileBytesRow.wfByText (OpenSpec.ofChange Rows.fnFileBytesSpec) = true := by kernel_rfl
theorem m_FileBytes : Tryz.pinned.checked.prog.mainIs = some (Rows.fnFileBytesCard.stood.harness.1, Rows.fnFileBytesCard.stood.harness.2.toList) := by kernel_rfl
theorem k_FileBytes : true = Tryz.pinned.checked.prog.looks [] := by kernel_rfl
theorem plain_FileBytes (f : FuncId) (fn : Func) (hf : Tryz.pinned.checked.prog.funcNamed "loop.example/g00974/laws.FnFileBytes" = some f) (hfn : Tryz.pinned.checked.prog.funcs[f]? = some fn) :
    true = Tryz.pinned.checked.prog.looks [] ∧ ∀ (j : Nat) t, fn.params[j]? = some t → Tryz.pinned.checked.prog.wantsStandIn t = false := by
  obtain rfl : f = 12 := Option.some.inj ((show Tryz.prog.funcNamed "loop.example/g00974/laws.FnFileBytes" = some 12 by kernel_rfl).symm.trans hf) |>.symm
  obtain rfl : fn = Tryz.f12 := (Option.some.inj (Tryz.func12.symm.trans hfn)).symm
  refine ⟨k_FileBytes, fun j t ht => ?_⟩
  rw [Tryz.params12] at ht
  have hm := Array.mem_of_getElem? ht
  have hall : ∀ t ∈ (#[44] : Array TypeId), Tryz.prog.wantsStandIn t = false := by
    intro t ht
    simp only [List.mem_toArray, List.mem_cons, List.not_mem_nil, or_false] at ht
    rcases ht with rfl
    · exact (show Tryz.prog.wantsStandIn 44 = false by kernel_rfl)
  exact hall t hm

/-- The card. -/
theorem card_FileBytes : Rows.FnFileBytesCardSaid :=
  Claim7.holds_tied_plain_at .later [] _ _ _ _ said_FileBytes (fun _ h => by cases h) w_FileBytes (fun _ h => by cases h) fnFileBytes_row_tie rfl ⟨rfl, rfl⟩ m_FileBytes rfl plain_FileBytes g_FileBytes
end Go.Proofs.YtenfajgpdhgknaaGreatDoor
