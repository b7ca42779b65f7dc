/-
  laws.FnExactLinks: the statement and its card: for every machine and every other argument the law returns true, and the arguments read as they did. Conditions: the package-level variables that the row lists hold what it lists.
-/
import Derived.Test.YtenfajgpdhgknaaGreatDoorLd
import Derived.Test.YtenfajgpdhgknaaGreatDoorLLinks
import Derived.Test.YtenfajgpdhgknaaGreatDoorOpenB
import Derived.Test.YtenfajgpdhgknaaGreatDoorCards
import Derived.Test.YtenfajgpdhgknaaGreatDoorTie
import Derived.ChangeMaps5
import Derived.Deep.DeepWitnessRowRef
import Derived.Test.YtenfajgpdhgknaaGreatDoorKLinksa
import Derived.Test.YtenfajgpdhgknaaGreatDoorKLinksb
import Derived.Test.YtenfajgpdhgknaaGreatDoorKLinksc
import Derived.Test.YtenfajgpdhgknaaGreatDoorKLinksd
set_option linter.unusedSimpArgs false
set_option linter.unusedVariables false
set_option linter.unnecessarySimpa false
namespace Go.Proofs.YtenfajgpdhgknaaGreatDoor
open Go Go.RowKit Go.ChangeShapes Go.WideShapes Go.ChangeAt

theorem and_tt_fnLinks {a b : Bool} (h1 : a = true) (h2 : b = true) : (a && b) = true := by rw [h1, h2]; rfl
theorem and_l_fnLinks {a b : Bool} (h : (a && b) = true) : a = true := by cases a <;> simp_all
theorem and_r_fnLinks {a b : Bool} (h : (a && b) = true) : b = true := by cases b <;> simp_all
set_option maxRecDepth 100000 in
theorem closed_fnLinks : joinedFacts Tryz.pinned.checked.prog 7 Tryz.f7 (OpenSpec.ofChange Rows.fnLinksSpec).bare Rows.fnLinksRow = true := by
  unfold joinedFacts
  exact and_tt_fnLinks (and_tt_fnLinks (and_tt_fnLinks (and_tt_fnLinks (and_tt_fnLinks (and_tt_fnLinks (and_tt_fnLinks (and_tt_fnLinks (and_tt_fnLinks (and_tt_fnLinks (and_tt_fnLinks (and_tt_fnLinks (and_tt_fnLinks (and_tt_fnLinks (and_tt_fnLinks (and_tt_fnLinks (and_tt_fnLinks (and_tt_fnLinks (and_tt_fnLinks (and_tt_fnLinks (and_tt_fnLinks (and_tt_fnLinks (and_tt_fnLinks (cl0_fnLinks) (and_l_fnLinks (and_l_fnLinks (and_l_fnLinks (and_l_fnLinks (and_l_fnLinks (and_l_fnLinks (and_l_fnLinks cl1_fnLinks)))))))) (and_r_fnLinks (and_l_fnLinks (and_l_fnLinks (and_l_fnLinks (and_l_fnLinks (and_l_fnLinks (and_l_fnLinks cl1_fnLinks)))))))) (and_r_fnLinks (and_l_fnLinks (and_l_fnLinks (and_l_fnLinks (and_l_fnLinks (and_l_fnLinks cl1_fnLinks))))))) (and_r_fnLinks (and_l_fnLinks (and_l_fnLinks (and_l_fnLinks (and_l_fnLinks cl1_fnLinks)))))) (and_r_fnLinks (and_l_fnLinks (and_l_fnLinks (and_l_fnLinks cl1_fnLinks))))) (and_r_fnLinks (and_l_fnLinks (and_l_fnLinks cl1_fnLinks)))) (and_r_fnLinks (and_l_fnLinks cl1_fnLinks))) (and_r_fnLinks cl1_fnLinks)) (and_l_fnLinks (and_l_fnLinks (and_l_fnLinks (and_l_fnLinks (and_l_fnLinks (and_l_fnLinks cl2_fnLinks))))))) (and_r_fnLinks (and_l_fnLinks (and_l_fnLinks (and_l_fnLinks (and_l_fnLinks (and_l_fnLinks cl2_fnLinks))))))) (and_r_fnLinks (and_l_fnLinks (and_l_fnLinks (and_l_fnLinks (and_l_fnLinks cl2_fnLinks)))))) (and_r_fnLinks (and_l_fnLinks (and_l_fnLinks (and_l_fnLinks cl2_fnLinks))))) (and_r_fnLinks (and_l_fnLinks (and_l_fnLinks cl2_fnLinks)))) (and_r_fnLinks (and_l_fnLinks cl2_fnLinks))) (and_r_fnLinks cl2_fnLinks)) (and_l_fnLinks (and_l_fnLinks (and_l_fnLinks (and_l_fnLinks (and_l_fnLinks (and_l_fnLinks (and_l_fnLinks cl3_fnLinks)))))))) (and_r_fnLinks (and_l_fnLinks (and_l_fnLinks (and_l_fnLinks (and_l_fnLinks (and_l_fnLinks (and_l_fnLinks cl3_fnLinks)))))))) (and_r_fnLinks (and_l_fnLinks (and_l_fnLinks (and_l_fnLinks (and_l_fnLinks (and_l_fnLinks cl3_fnLinks))))))) (and_r_fnLinks (and_l_fnLinks (and_l_fnLinks (and_l_fnLinks (and_l_fnLinks cl3_fnLinks)))))) (and_r_fnLinks (and_l_fnLinks (and_l_fnLinks (and_l_fnLinks cl3_fnLinks))))) (and_r_fnLinks (and_l_fnLinks (and_l_fnLinks cl3_fnLinks)))) (and_r_fnLinks (and_l_fnLinks cl3_fnLinks))) (and_r_fnLinks cl3_fnLinks)

theorem said_Links : Rows.FnLinksSaid :=
  OpenClaim.holds_of_cond 7 Tryz.f7 rfl rfl rfl rfl rfl rfl rfl ⟨rfl, rfl, rfl, rfl, rfl⟩ rfl rfl rfl rfl rfl (by kernel_rfl) Tryz.func7 closed_fnLinks
    (of_decide_eq_true (by kernel_rfl)) (by unfold Func.isWrapper; first | (rw [if_pos (by decide +kernel)]; kernel_rfl) | (rw [if_neg (by decide +kernel)]; exact ⟨rfl, rfl⟩))
    (fun os started H enc _ F => by rw [OpenClaim.pre_eq_preRow]; exact lifted_Links os started H enc F)

theorem w_Links : Rows.fnLinksRow.wfByText (OpenSpec.ofChange Rows.fnLinksSpec) = true := by kernel_rfl
theorem m_Links : Tryz.pinned.checked.prog.mainIs = some (Rows.fnLinksCard.stood.harness.1, Rows.fnLinksCard.stood.harness.2.toList) := by kernel_rfl
theorem k_Links : true = Tryz.pinned.checked.prog.looks [] := by kernel_rfl
theorem plain_Links (f : FuncId) (fn : Func) (hf : Tryz.pinned.checked.prog.funcNamed "loop.example/g00974/laws.FnLinks" = some f) (hfn : Tryz.pinned.checked.prog.funcs[f]? = some fn) :
    true = Tryz.pinned.checked.prog.looks [] ∧ ∀ (j : Nat) t, fn.params[j]? = some t → Tryz.pinned.checked.prog.wantsStandIn t = false := by
  obtain rfl : f = 7 := Option.some.inj ((show Tryz.prog.funcNamed "loop.example/g00974/laws.FnLinks" = some 7 by kernel_rfl).symm.trans hf) |>.symm
  obtain rfl : fn = Tryz.f7 := (Option.some.inj (Tryz.func7.symm.trans hfn)).symm
  refine ⟨k_Links, fun j t ht => ?_⟩
  rw [Tryz.params7] at ht
  have hm := Array.mem_of_getElem? ht
  have hall : ∀ t ∈ (#[44] : Array TypeId), Tryz.prog.wantsStandIn t = false := by
    intro t ht
    simp only [List.mem_toArray, List.mem_cons, List.not_mem_nil, or_false] at ht
    rcases ht with rfl
    · exact (show Tryz.prog.wantsStandIn 44 = false by kernel_rfl)
  exact hall t hm

/-- The card. -/
theorem card_Links : Rows.FnLinksCardSaid :=
  Claim7.holds_tied_plain_at .later [] _ _ _ _ said_Links (fun _ h => by cases h) w_Links (fun _ h => by cases h) fnLinks_row_tie rfl ⟨rfl, rfl⟩ m_Links rfl plain_Links g_Links
end Go.Proofs.YtenfajgpdhgknaaGreatDoor
