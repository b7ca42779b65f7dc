/-
  What the loops on a machine compute, step by step. No program in sight.
-/
import Derived.Test.YtenfajgpdhgknaaGreatDoorSd
set_option linter.unusedSimpArgs false
set_option linter.unusedVariables false
set_option linter.unnecessarySimpa false
namespace Go.Proofs.YtenfajgpdhgknaaGreatDoor
open Go Go.RowKit

def underL (p : Str) : List Cell → List Str → List Str
  | [], out => out
  | c :: s, out => if prefixB c.1 p = true then underL p s (out ++ [c.1]) else underL p s out
theorem underL_app (p : Str) : ∀ (s : List Cell) (out : List Str), underL p s out = out ++ keysUnder s p
  | [], out => by simp [underL, keysUnder]
  | c :: s, out => by
    unfold underL
    cases h : prefixB c.1 p with
    | true => rw [if_pos rfl, underL_app p s]; simp [keysUnder, h]
    | false => rw [if_neg (by simp), underL_app p s]; simp [keysUnder, h]
theorem underL_nil (p : Str) (s : List Cell) : underL p s [] = keysUnder s p := by rw [underL_app]; rfl
theorem keysUnder_len (s : List Cell) (p : Str) : (keysUnder s p).length ≤ s.length := by
  unfold keysUnder
  rw [List.length_map]
  exact List.length_filter_le _ _
theorem begins_eq (s p : Str) : prefixB s p = (decide ((p.length : Int) ≤ s.length) && decide (s.take p.length = p)) := by
  unfold prefixB
  congr 1
  exact decide_eq_decide.2 (by omega)
theorem isKid_short {k : Str} (h : ¬ (5 : Int) ≤ (k.length : Int)) : MS.isKid k = false := by
  unfold MS.isKid
  rw [decide_eq_false (by omega)]; rfl
theorem isKid_short' {k : Str} (h : (k.length : Int) < 5) : MS.isKid k = false := isKid_short (by omega)
theorem isKid_yes {k : Str} (h : (5 : Int) ≤ (k.length : Int)) (h2 : k.drop (k.length - 2) = [47, 112]) : MS.isKid k = true := by
  unfold MS.isKid
  rw [decide_eq_true (by omega), decide_eq_true h2]; rfl
theorem isKid_no {k : Str} (h2 : ¬ k.drop (k.length - 2) = [47, 112]) : MS.isKid k = false := by
  unfold MS.isKid
  rw [decide_eq_false h2, Bool.and_false]
theorem cutSuf_kid {k u : Str} {b : Bool} (h : cutSuf k [47, 112] = (u, b)) (h5 : (5 : Int) ≤ (k.length : Int)) : MS.isKid k = b := by
  unfold cutSuf suffixB at h
  simp only [List.length_cons, List.length_nil] at h
  rw [decide_eq_true (by omega), Bool.true_and] at h
  by_cases h2 : k.drop (k.length - (0 + 1 + 1)) = [47, 112]
  · rw [isKid_yes h5 h2]
    simp [h2] at h
    exact h.2.symm
  · rw [isKid_no h2]
    simp [h2] at h
    exact h.2.symm
theorem cutSuf_kidT {k u : Str} (h : cutSuf k [47, 112] = (u, true)) (h5 : (5 : Int) ≤ (k.length : Int)) : k.take (k.length - 2) = u ∧ 3 ≤ u.length := by
  unfold cutSuf at h
  split at h
  · simp only [Prod.mk.injEq, and_true] at h
    refine ⟨h, ?_⟩
    rw [← h, List.length_take]
    simp only [List.length_cons, List.length_nil]
    omega
  · simp at h
theorem drop_take2 (k : Str) (n : Nat) : (k.take n).drop 2 = (k.drop 2).take (n - 2) := by rw [List.drop_take]
end Go.Proofs.YtenfajgpdhgknaaGreatDoor
