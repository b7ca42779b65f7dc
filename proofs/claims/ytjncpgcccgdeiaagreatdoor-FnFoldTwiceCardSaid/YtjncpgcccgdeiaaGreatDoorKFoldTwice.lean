/-
  laws.FnExactFoldTwice: the statement and its card: for every machine and every other argument the law returns true, and the arguments read as they did. Conditions: the package-level variables that the row lists hold what it lists.
-/
import Derived.Test.YtjncpgcccgdeiaaGreatDoorDatH
import Derived.Test.YtjncpgcccgdeiaaGreatDoorLFoldTwice
import Derived.Test.YtjncpgcccgdeiaaGreatDoorOpenB
import Derived.Test.YtjncpgcccgdeiaaGreatDoorCards
import Derived.Test.YtjncpgcccgdeiaaGreatDoorTie
import Derived.ChangeMaps5
import Derived.Deep.DeepWitnessRowRef
import Derived.Test.YtjncpgcccgdeiaaGreatDoorKFoldTwicea
import Derived.Test.YtjncpgcccgdeiaaGreatDoorKFoldTwiceb
import Derived.Test.YtjncpgcccgdeiaaGreatDoorKFoldTwicec
import Derived.Test.YtjncpgcccgdeiaaGreatDoorKFoldTwiced
set_option linter.unusedSimpArgs false
set_option linter.unusedVariables false
set_option linter.unnecessarySimpa false
namespace Go.Proofs.YtjncpgcccgdeiaaGreatDoor
open Go Go.RowKit Go.ChangeShapes Go.WideShapes Go.ChangeAt

theorem and_tt_fnFoldTwice {a b : Bool} (h1 : a = true) (h2 : b = true) : (a && b) = true := by rw [h1, h2]; rfl
theorem and_l_fnFoldTwice {a b : Bool} (h : (a && b) = true) : a = true := by cases a <;> simp_all
theorem and_r_fnFoldTwice {a b : Bool} (h : (a && b) = true) : b = true := by cases b <;> simp_all
set_option maxRecDepth 100000 in
theorem closed_fnFoldTwice : joinedFacts Tryz.pinned.checked.prog 9 Tryz.f9 (OpenSpec.ofChange Rows.fnFoldTwiceSpec).bare Rows.fnFoldTwiceRow = true := by
  unfold joinedFacts
  exact and_tt_fnFoldTwice (and_tt_fnFoldTwice (and_tt_fnFoldTwice (and_tt_fnFoldTwice (and_tt_fnFoldTwice (and_tt_fnFoldTwice (and_tt_fnFoldTwice (and_tt_fnFoldTwice (and_tt_fnFoldTwice (and_tt_fnFoldTwice (and_tt_fnFoldTwice (and_tt_fnFoldTwice (and_tt_fnFoldTwice (and_tt_fnFoldTwice (and_tt_fnFoldTwice (and_tt_fnFoldTwice (and_tt_fnFoldTwice (and_tt_fnFoldTwice (and_tt_fnFoldTwice (and_tt_fnFoldTwice (and_tt_fnFoldTwice (and_tt_fnFoldTwice (and_tt_fnFoldTwice (cl0_fnFoldTwice) (and_l_fnFoldTwice (and_l_fnFoldTwice (and_l_fnFoldTwice (and_l_fnFoldTwice (and_l_fnFoldTwice (and_l_fnFoldTwice (and_l_fnFoldTwice cl1_fnFoldTwice)))))))) (and_r_fnFoldTwice (and_l_fnFoldTwice (and_l_fnFoldTwice (and_l_fnFoldTwice (and_l_fnFoldTwice (and_l_fnFoldTwice (and_l_fnFoldTwice cl1_fnFoldTwice)))))))) (and_r_fnFoldTwice (and_l_fnFoldTwice (and_l_fnFoldTwice (and_l_fnFoldTwice (and_l_fnFoldTwice (and_l_fnFoldTwice cl1_fnFoldTwice))))))) (and_r_fnFoldTwice (and_l_fnFoldTwice (and_l_fnFoldTwice (and_l_fnFoldTwice (and_l_fnFoldTwice cl1_fnFoldTwice)))))) (and_r_fnFoldTwice (and_l_fnFoldTwice (and_l_fnFoldTwice (and_l_fnFoldTwice cl1_fnFoldTwice))))) (and_r_fnFoldTwice (and_l_fnFoldTwice (and_l_fnFoldTwice cl1_fnFoldTwice)))) (and_r_fnFoldTwice (and_l_fnFoldTwice cl1_fnFoldTwice))) (and_r_fnFoldTwice cl1_fnFoldTwice)) (and_l_fnFoldTwice (and_l_fnFoldTwice (and_l_fnFoldTwice (and_l_fnFoldTwice (and_l_fnFoldTwice (and_l_fnFoldTwice cl2_fnFoldTwice))))))) (and_r_fnFoldTwice (and_l_fnFoldTwice (and_l_fnFoldTwice (and_l_fnFoldTwice (and_l_fnFoldTwice (and_l_fnFoldTwice cl2_fnFoldTwice))))))) (and_r_fnFoldTwice (and_l_fnFoldTwice (and_l_fnFoldTwice (and_l_fnFoldTwice (and_l_fnFoldTwice cl2_fnFoldTwice)))))) (and_r_fnFoldTwice (and_l_fnFoldTwice (and_l_fnFoldTwice (and_l_fnFoldTwice cl2_fnFoldTwice))))) (and_r_fnFoldTwice (and_l_fnFoldTwice (and_l_fnFoldTwice cl2_fnFoldTwice)))) (and_r_fnFoldTwice (and_l_fnFoldTwice cl2_fnFoldTwice))) (and_r_fnFoldTwice cl2_fnFoldTwice)) (and_l_fnFoldTwice (and_l_fnFoldTwice (and_l_fnFoldTwice (and_l_fnFoldTwice (and_l_fnFoldTwice (and_l_fnFoldTwice (and_l_fnFoldTwice cl3_fnFoldTwice)))))))) (and_r_fnFoldTwice (and_l_fnFoldTwice (and_l_fnFoldTwice (and_l_fnFoldTwice (and_l_fnFoldTwice (and_l_fnFoldTwice (and_l_fnFoldTwice cl3_fnFoldTwice)))))))) (and_r_fnFoldTwice (and_l_fnFoldTwice (and_l_fnFoldTwice (and_l_fnFoldTwice (and_l_fnFoldTwice (and_l_fnFoldTwice cl3_fnFoldTwice))))))) (and_r_fnFoldTwice (and_l_fnFoldTwice (and_l_fnFoldTwice (and_l_fnFoldTwice (and_l_fnFoldTwice cl3_fnFoldTwice)))))) (and_r_fnFoldTwice (and_l_fnFoldTwice (and_l_fnFoldTwice (and_l_fnFoldTwice cl3_fnFoldTwice))))) (and_r_fnFoldTwice (and_l_fnFoldTwice (and_l_fnFoldTwice cl3_fnFoldTwice)))) (and_r_fnFoldTwice (and_l_fnFoldTwice cl3_fnFoldTwice))) (and_r_fnFoldTwice cl3_fnFoldTwice)

theorem said_FoldTwice : Rows.FnFoldTwiceSaid :=
  OpenClaim.holds_of_cond 9 Tryz.f9 rfl rfl rfl rfl rfl rfl rfl ⟨rfl, rfl, rfl, rfl, rfl⟩ rfl rfl rfl rfl rfl (by kernel_rfl) Tryz.func9 closed_fnFoldTwice
    (of_decide_eq_true (by kernel_rfl)) (by unfold Func.isWrapper; first | (rw [if_pos (by decide +kernel)]; kernel_rfl) | (rw [if_neg (by decide +kernel)]; exact ⟨rfl, rfl⟩))
    (fun os started H enc _ F => by rw [OpenClaim.pre_eq_preRow]; exact lifted_FoldTwice os started H enc F)

theorem w_FoldTwice : Rows.fnFoldTwiceRow.wfByText (OpenSpec.ofChange Rows.fnFoldTwiceSpec) = true := by kernel_rfl
theorem m_FoldTwice : Tryz.pinned.checked.prog.mainIs = some (Rows.fnFoldTwiceCard.stood.harness.1, Rows.fnFoldTwiceCard.stood.harness.2.toList) := by kernel_rfl
theorem k_FoldTwice : true = Tryz.pinned.checked.prog.looks [] := by kernel_rfl
theorem plain_FoldTwice (f : FuncId) (fn : Func) (hf : Tryz.pinned.checked.prog.funcNamed "loop.example/g00974/laws.FnFoldTwice" = some f) (hfn : Tryz.pinned.checked.prog.funcs[f]? = some fn) :
    true = Tryz.pinned.checked.prog.looks [] ∧ ∀ (j : Nat) t, fn.params[j]? = some t → Tryz.pinned.checked.prog.wantsStandIn t = false := by
  obtain rfl : f = 9 := Option.some.inj ((show Tryz.prog.funcNamed "loop.example/g00974/laws.FnFoldTwice" = some 9 by kernel_rfl).symm.trans hf) |>.symm
  obtain rfl : fn = Tryz.f9 := (Option.some.inj (Tryz.func9.symm.trans hfn)).symm
  refine ⟨k_FoldTwice, fun j t ht => ?_⟩
  rw [Tryz.params9] at ht
  have hm := Array.mem_of_getElem? ht
  have hall : ∀ t ∈ (#[39] : Array TypeId), Tryz.prog.wantsStandIn t = false := by
    intro t ht
    simp only [List.mem_toArray, List.mem_cons, List.not_mem_nil, or_false] at ht
    rcases ht with rfl
    · exact (show Tryz.prog.wantsStandIn 39 = false by kernel_rfl)
  exact hall t hm

/-- The card. -/
theorem card_FoldTwice : Rows.FnFoldTwiceCardSaid :=
  Claim7.holds_tied_plain_at .later [] _ _ _ _ said_FoldTwice (fun _ h => by cases h) w_FoldTwice (fun _ h => by cases h) fnFoldTwice_row_tie rfl ⟨rfl, rfl⟩ m_FoldTwice rfl plain_FoldTwice g_FoldTwice
end Go.Proofs.YtjncpgcccgdeiaaGreatDoor
