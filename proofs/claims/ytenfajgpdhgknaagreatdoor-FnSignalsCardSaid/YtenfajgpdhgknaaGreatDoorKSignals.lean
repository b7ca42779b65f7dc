/-
  laws.FnExactSignals: the statement and its card: for every machine and every other argument the law returns true, and the arguments read as they did. Conditions: the package-level variables that the row lists hold what it lists.
-/
import Derived.Test.YtenfajgpdhgknaaGreatDoorS06HELD
import Derived.Test.YtenfajgpdhgknaaGreatDoorLSignals
import Derived.Test.YtenfajgpdhgknaaGreatDoorOpenB
import Derived.Test.YtenfajgpdhgknaaGreatDoorCards
import Derived.Test.YtenfajgpdhgknaaGreatDoorTie
import Derived.ChangeMaps5
import Derived.Deep.DeepWitnessRowRef
import Derived.Test.YtenfajgpdhgknaaGreatDoorKSignalsa
import Derived.Test.YtenfajgpdhgknaaGreatDoorKSignalsb
import Derived.Test.YtenfajgpdhgknaaGreatDoorKSignalsc
import Derived.Test.YtenfajgpdhgknaaGreatDoorKSignalsd
set_option linter.unusedSimpArgs false
set_option linter.unusedVariables false
set_option linter.unnecessarySimpa false
namespace Go.Proofs.YtenfajgpdhgknaaGreatDoor
open Go Go.RowKit Go.ChangeShapes Go.WideShapes Go.ChangeAt

theorem and_tt_fnSignals {a b : Bool} (h1 : a = true) (h2 : b = true) : (a && b) = true := by rw [h1, h2]; rfl
theorem and_l_fnSignals {a b : Bool} (h : (a && b) = true) : a = true := by cases a <;> simp_all
theorem and_r_fnSignals {a b : Bool} (h : (a && b) = true) : b = true := by cases b <;> simp_all
set_option maxRecDepth 100000 in
theorem closed_fnSignals : joinedFacts Tryz.pinned.checked.prog 11 Tryz.f11 (OpenSpec.ofChange Rows.fnSignalsSpec).bare Rows.fnSignalsRow = true := by
  unfold joinedFacts
  exact and_tt_fnSignals (and_tt_fnSignals (and_tt_fnSignals (and_tt_fnSignals (and_tt_fnSignals (and_tt_fnSignals (and_tt_fnSignals (and_tt_fnSignals (and_tt_fnSignals (and_tt_fnSignals (and_tt_fnSignals (and_tt_fnSignals (and_tt_fnSignals (and_tt_fnSignals (and_tt_fnSignals (and_tt_fnSignals (and_tt_fnSignals (and_tt_fnSignals (and_tt_fnSignals (and_tt_fnSignals (and_tt_fnSignals (and_tt_fnSignals (and_tt_fnSignals (cl0_fnSignals) (and_l_fnSignals (and_l_fnSignals (and_l_fnSignals (and_l_fnSignals (and_l_fnSignals (and_l_fnSignals (and_l_fnSignals cl1_fnSignals)))))))) (and_r_fnSignals (and_l_fnSignals (and_l_fnSignals (and_l_fnSignals (and_l_fnSignals (and_l_fnSignals (and_l_fnSignals cl1_fnSignals)))))))) (and_r_fnSignals (and_l_fnSignals (and_l_fnSignals (and_l_fnSignals (and_l_fnSignals (and_l_fnSignals cl1_fnSignals))))))) (and_r_fnSignals (and_l_fnSignals (and_l_fnSignals (and_l_fnSignals (and_l_fnSignals cl1_fnSignals)))))) (and_r_fnSignals (and_l_fnSignals (and_l_fnSignals (and_l_fnSignals cl1_fnSignals))))) (and_r_fnSignals (and_l_fnSignals (and_l_fnSignals cl1_fnSignals)))) (and_r_fnSignals (and_l_fnSignals cl1_fnSignals))) (and_r_fnSignals cl1_fnSignals)) (and_l_fnSignals (and_l_fnSignals (and_l_fnSignals (and_l_fnSignals (and_l_fnSignals (and_l_fnSignals cl2_fnSignals))))))) (and_r_fnSignals (and_l_fnSignals (and_l_fnSignals (and_l_fnSignals (and_l_fnSignals (and_l_fnSignals cl2_fnSignals))))))) (and_r_fnSignals (and_l_fnSignals (and_l_fnSignals (and_l_fnSignals (and_l_fnSignals cl2_fnSignals)))))) (and_r_fnSignals (and_l_fnSignals (and_l_fnSignals (and_l_fnSignals cl2_fnSignals))))) (and_r_fnSignals (and_l_fnSignals (and_l_fnSignals cl2_fnSignals)))) (and_r_fnSignals (and_l_fnSignals cl2_fnSignals))) (and_r_fnSignals cl2_fnSignals)) (and_l_fnSignals (and_l_fnSignals (and_l_fnSignals (and_l_fnSignals (and_l_fnSignals (and_l_fnSignals (and_l_fnSignals cl3_fnSignals)))))))) (and_r_fnSignals (and_l_fnSignals (and_l_fnSignals (and_l_fnSignals (and_l_fnSignals (and_l_fnSignals (and_l_fnSignals cl3_fnSignals)))))))) (and_r_fnSignals (and_l_fnSignals (and_l_fnSignals (and_l_fnSignals (and_l_fnSignals (and_l_fnSignals cl3_fnSignals))))))) (and_r_fnSignals (and_l_fnSignals (and_l_fnSignals (and_l_fnSignals (and_l_fnSignals cl3_fnSignals)))))) (and_r_fnSignals (and_l_fnSignals (and_l_fnSignals (and_l_fnSignals cl3_fnSignals))))) (and_r_fnSignals (and_l_fnSignals (and_l_fnSignals cl3_fnSignals)))) (and_r_fnSignals (and_l_fnSignals cl3_fnSignals))) (and_r_fnSignals cl3_fnSignals)

theorem said_Signals : Rows.FnSignalsSaid :=
  OpenClaim.holds_of_cond 11 Tryz.f11 rfl rfl rfl rfl rfl rfl rfl ⟨rfl, rfl, rfl, rfl, rfl⟩ rfl rfl rfl rfl rfl (by kernel_rfl) Tryz.func11 closed_fnSignals
    (of_decide_eq_true (by kernel_rfl)) (by unfold Func.isWrapper; first | (rw [if_pos (by decide +kernel)]; kernel_rfl) | (rw [if_neg (by decide +kernel)]; exact ⟨rfl, rfl⟩))
    (fun os started H enc _ F => by rw [OpenClaim.pre_eq_preRow]; exact lifted_Signals os started H enc F)

theorem w_Signals : Rows.fnSignalsRow.wfByText (OpenSpec.ofChange Rows.fnSignalsSpec) = true := by kernel_rfl
theorem m_Signals : Tryz.pinned.checked.prog.mainIs = some (Rows.fnSignalsCard.stood.harness.1, Rows.fnSignalsCard.stood.harness.2.toList) := by kernel_rfl
theorem k_Signals : true = Tryz.pinned.checked.prog.looks [] := by kernel_rfl
theorem plain_Signals (f : FuncId) (fn : Func) (hf : Tryz.pinned.checked.prog.funcNamed "loop.example/g00974/laws.FnSignals" = some f) (hfn : Tryz.pinned.checked.prog.funcs[f]? = some fn) :
    true = Tryz.pinned.checked.prog.looks [] ∧ ∀ (j : Nat) t, fn.params[j]? = some t → Tryz.pinned.checked.prog.wantsStandIn t = false := by
  obtain rfl : f = 11 := Option.some.inj ((show Tryz.prog.funcNamed "loop.example/g00974/laws.FnSignals" = some 11 by kernel_rfl).symm.trans hf) |>.symm
  obtain rfl : fn = Tryz.f11 := (Option.some.inj (Tryz.func11.symm.trans hfn)).symm
  refine ⟨k_Signals, fun j t ht => ?_⟩
  rw [Tryz.params11] at ht
  have hm := Array.mem_of_getElem? ht
  have hall : ∀ t ∈ (#[44] : Array TypeId), Tryz.prog.wantsStandIn t = false := by
    intro t ht
    simp only [List.mem_toArray, List.mem_cons, List.not_mem_nil, or_false] at ht
    rcases ht with rfl
    · exact (show Tryz.prog.wantsStandIn 44 = false by kernel_rfl)
  exact hall t hm

/-- The card. -/
theorem card_Signals : Rows.FnSignalsCardSaid :=
  Claim7.holds_tied_plain_at .later [] _ _ _ _ said_Signals (fun _ h => by cases h) w_Signals (fun _ h => by cases h) fnSignals_row_tie rfl ⟨rfl, rfl⟩ m_Signals rfl plain_Signals g_Signals
end Go.Proofs.YtenfajgpdhgknaaGreatDoor
