/-
  Laws on machines, in plain words. No program in sight.
-/
import Derived.Test.YtenfajgpdhgknaaGreatDoorDatD
set_option linter.unusedSimpArgs false
set_option linter.unusedVariables false
set_option linter.unnecessarySimpa false
namespace Go.Proofs.YtenfajgpdhgknaaGreatDoor
open Go Go.RowKit

def MS.empty : MS := ⟨[], [], []⟩
theorem getKey_app {key : Str} : ∀ (a b : List Cell), (∀ c ∈ a, ¬ c.1 = key) → getKey (a ++ b) key = getKey b key
  | [], b, _ => rfl
  | c :: a, b, h => by
    rw [List.cons_append, getKey, if_neg (h c (List.mem_cons_self ..)), getKey_app a b (fun d hd => h d (List.mem_cons_of_mem _ hd))]
theorem getKey_ins {key val : Str} {f : List Cell} (h : ∀ c ∈ f, ¬ c.1 = key) (i : Nat) : getKey (insertAt i (key, val) f) key = val := by
  unfold insertAt
  first
  | (rw [List.append_assoc, getKey_app _ _ (fun c hc => h c (List.mem_of_mem_take hc)), List.cons_append, getKey, if_pos rfl])
  | (rw [getKey_app _ _ (fun c hc => h c (List.mem_of_mem_take hc)), getKey, if_pos rfl])
theorem getKey_put {s : List Cell} {key val : Str} (hk : keyOk key = true) (hv : ¬ val = []) (hl : val.length ≤ 60) : getKey (putKey s key val) key = val := by
  unfold putKey
  rw [hk, decide_eq_false (by omega)]
  simp only [Bool.not_true, Bool.false_or, Bool.or_false, Bool.false_eq_true, if_false, if_neg hv]
  exact getKey_ins (fun c hc => by simpa using (List.mem_filter.1 hc).2) _
theorem numOf_decF : ∀ k : Fin 1000, numOf (dec ((k.val : Nat) : Int)) = ((k.val : Nat) : Int) ∧ (k.val = 0 ∨ ¬ dec ((k.val : Nat) : Int) = []) := by decide +kernel
theorem numOf_dec {n : Int} (h0 : 1 ≤ n) (h1 : n ≤ 999) : numOf (dec n) = n ∧ ¬ dec n = [] := by
  have := numOf_decF ⟨n.toNat, by omega⟩
  simp only at this
  rw [Int.toNat_of_nonneg (by omega)] at this
  exact ⟨this.1, this.2.resolve_left (by omega)⟩
theorem num_setNum {m m1 m2 : MS} {key : Str} {n n2 : Int} (hk : keyOk key = true) (h0 : 1 ≤ n) (h1 : n ≤ 999) (e1 : m.setNum key n = m1) (e2 : m1.num key = (m2, n2)) : n2 = n := by
  subst e1
  obtain ⟨hn, hne⟩ := numOf_dec h0 h1
  have hl := dec_len21 (n := n) (by omega) (by omega)
  have h3 : numOf (getKey (putKey m.s key (dec n)) key) = n2 := by
    have h4 := congrArg Prod.snd e2
    unfold MS.setNum at h4
    rw [if_pos ⟨h0, h1⟩] at h4
    exact h4
  rw [getKey_put hk hne (by omega), hn] at h3
  exact h3.symm
end Go.Proofs.YtenfajgpdhgknaaGreatDoor
