/-
  laws.FnExactDisks: the statement and its card: for every machine and every other argument the law returns true, and the arguments read as they did. Conditions: the package-level variables that the row lists hold what it lists.
-/
import Derived.Test.YtjncpgcccgdeiaaGreatDoorS46OK
import Derived.Test.YtjncpgcccgdeiaaGreatDoorLDisks
import Derived.Test.YtjncpgcccgdeiaaGreatDoorOpenB
import Derived.Test.YtjncpgcccgdeiaaGreatDoorCards
import Derived.Test.YtjncpgcccgdeiaaGreatDoorTie
import Derived.ChangeMaps5
import Derived.Deep.DeepWitnessRowRef
import Derived.Test.YtjncpgcccgdeiaaGreatDoorKDisksa
import Derived.Test.YtjncpgcccgdeiaaGreatDoorKDisksb
import Derived.Test.YtjncpgcccgdeiaaGreatDoorKDisksc
import Derived.Test.YtjncpgcccgdeiaaGreatDoorKDisksd
set_option linter.unusedSimpArgs false
set_option linter.unusedVariables false
set_option linter.unnecessarySimpa false
namespace Go.Proofs.YtjncpgcccgdeiaaGreatDoor
open Go Go.RowKit Go.ChangeShapes Go.WideShapes Go.ChangeAt

theorem and_tt_fnDisks {a b : Bool} (h1 : a = true) (h2 : b = true) : (a && b) = true := by rw [h1, h2]; rfl
theorem and_l_fnDisks {a b : Bool} (h : (a && b) = true) : a = true := by cases a <;> simp_all
theorem and_r_fnDisks {a b : Bool} (h : (a && b) = true) : b = true := by cases b <;> simp_all
set_option maxRecDepth 100000 in
theorem closed_fnDisks : joinedFacts Tryz.pinned.checked.prog 10 Tryz.f10 (OpenSpec.ofChange Rows.fnDisksSpec).bare Rows.fnDisksRow = true := by
  unfold joinedFacts
  exact and_tt_fnDisks (and_tt_fnDisks (and_tt_fnDisks (and_tt_fnDisks (and_tt_fnDisks (and_tt_fnDisks (and_tt_fnDisks (and_tt_fnDisks (and_tt_fnDisks (and_tt_fnDisks (and_tt_fnDisks (and_tt_fnDisks (and_tt_fnDisks (and_tt_fnDisks (and_tt_fnDisks (and_tt_fnDisks (and_tt_fnDisks (and_tt_fnDisks (and_tt_fnDisks (and_tt_fnDisks (and_tt_fnDisks (and_tt_fnDisks (and_tt_fnDisks (cl0_fnDisks) (and_l_fnDisks (and_l_fnDisks (and_l_fnDisks (and_l_fnDisks (and_l_fnDisks (and_l_fnDisks (and_l_fnDisks cl1_fnDisks)))))))) (and_r_fnDisks (and_l_fnDisks (and_l_fnDisks (and_l_fnDisks (and_l_fnDisks (and_l_fnDisks (and_l_fnDisks cl1_fnDisks)))))))) (and_r_fnDisks (and_l_fnDisks (and_l_fnDisks (and_l_fnDisks (and_l_fnDisks (and_l_fnDisks cl1_fnDisks))))))) (and_r_fnDisks (and_l_fnDisks (and_l_fnDisks (and_l_fnDisks (and_l_fnDisks cl1_fnDisks)))))) (and_r_fnDisks (and_l_fnDisks (and_l_fnDisks (and_l_fnDisks cl1_fnDisks))))) (and_r_fnDisks (and_l_fnDisks (and_l_fnDisks cl1_fnDisks)))) (and_r_fnDisks (and_l_fnDisks cl1_fnDisks))) (and_r_fnDisks cl1_fnDisks)) (and_l_fnDisks (and_l_fnDisks (and_l_fnDisks (and_l_fnDisks (and_l_fnDisks (and_l_fnDisks cl2_fnDisks))))))) (and_r_fnDisks (and_l_fnDisks (and_l_fnDisks (and_l_fnDisks (and_l_fnDisks (and_l_fnDisks cl2_fnDisks))))))) (and_r_fnDisks (and_l_fnDisks (and_l_fnDisks (and_l_fnDisks (and_l_fnDisks cl2_fnDisks)))))) (and_r_fnDisks (and_l_fnDisks (and_l_fnDisks (and_l_fnDisks cl2_fnDisks))))) (and_r_fnDisks (and_l_fnDisks (and_l_fnDisks cl2_fnDisks)))) (and_r_fnDisks (and_l_fnDisks cl2_fnDisks))) (and_r_fnDisks cl2_fnDisks)) (and_l_fnDisks (and_l_fnDisks (and_l_fnDisks (and_l_fnDisks (and_l_fnDisks (and_l_fnDisks (and_l_fnDisks cl3_fnDisks)))))))) (and_r_fnDisks (and_l_fnDisks (and_l_fnDisks (and_l_fnDisks (and_l_fnDisks (and_l_fnDisks (and_l_fnDisks cl3_fnDisks)))))))) (and_r_fnDisks (and_l_fnDisks (and_l_fnDisks (and_l_fnDisks (and_l_fnDisks (and_l_fnDisks cl3_fnDisks))))))) (and_r_fnDisks (and_l_fnDisks (and_l_fnDisks (and_l_fnDisks (and_l_fnDisks cl3_fnDisks)))))) (and_r_fnDisks (and_l_fnDisks (and_l_fnDisks (and_l_fnDisks cl3_fnDisks))))) (and_r_fnDisks (and_l_fnDisks (and_l_fnDisks cl3_fnDisks)))) (and_r_fnDisks (and_l_fnDisks cl3_fnDisks))) (and_r_fnDisks cl3_fnDisks)

theorem said_Disks : Rows.FnDisksSaid :=
  OpenClaim.holds_of_cond 10 Tryz.f10 rfl rfl rfl rfl rfl rfl rfl ⟨rfl, rfl, rfl, rfl, rfl⟩ rfl rfl rfl rfl rfl (by kernel_rfl) Tryz.func10 closed_fnDisks
    (of_decide_eq_true (by kernel_rfl)) (by unfold Func.isWrapper; first | (rw [if_pos (by decide +kernel)]; kernel_rfl) | (rw [if_neg (by decide +kernel)]; exact ⟨rfl, rfl⟩))
    (fun os started H enc _ F => by rw [OpenClaim.pre_eq_preRow]; exact lifted_Disks os started H enc F)

theorem w_Disks : Rows.fnDisksRow.wfByText (OpenSpec.ofChange Rows.fnDisksSpec) = true := by kernel_rfl
theorem m_Disks : Tryz.pinned.checked.prog.mainIs = some (Rows.fnDisksCard.stood.harness.1, Rows.fnDisksCard.stood.harness.2.toList) := by kernel_rfl
theorem k_Disks : true = Tryz.pinned.checked.prog.looks [] := by kernel_rfl
theorem plain_Disks (f : FuncId) (fn : Func) (hf : Tryz.pinned.checked.prog.funcNamed "loop.example/g00974/laws.FnDisks" = some f) (hfn : Tryz.pinned.checked.prog.funcs[f]? = some fn) :
    true = Tryz.pinned.checked.prog.looks [] ∧ ∀ (j : Nat) t, fn.params[j]? = some t → Tryz.pinned.checked.prog.wantsStandIn t = false := by
  obtain rfl : f = 10 := Option.some.inj ((show Tryz.prog.funcNamed "loop.example/g00974/laws.FnDisks" = some 10 by kernel_rfl).symm.trans hf) |>.symm
  obtain rfl : fn = Tryz.f10 := (Option.some.inj (Tryz.func10.symm.trans hfn)).symm
  refine ⟨k_Disks, fun j t ht => ?_⟩
  rw [Tryz.params10] at ht
  have hm := Array.mem_of_getElem? ht
  have hall : ∀ t ∈ (#[39] : Array TypeId), Tryz.prog.wantsStandIn t = false := by
    intro t ht
    simp only [List.mem_toArray, List.mem_cons, List.not_mem_nil, or_false] at ht
    rcases ht with rfl
    · exact (show Tryz.prog.wantsStandIn 39 = false by kernel_rfl)
  exact hall t hm

/-- The card. -/
theorem card_Disks : Rows.FnDisksCardSaid :=
  Claim7.holds_tied_plain_at .later [] _ _ _ _ said_Disks (fun _ h => by cases h) w_Disks (fun _ h => by cases h) fnDisks_row_tie rfl ⟨rfl, rfl⟩ m_Disks rfl plain_Disks g_Disks
end Go.Proofs.YtjncpgcccgdeiaaGreatDoor
