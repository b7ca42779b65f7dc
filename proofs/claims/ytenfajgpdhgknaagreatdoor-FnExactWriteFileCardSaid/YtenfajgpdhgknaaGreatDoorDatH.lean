/-
  Hexadecimal texts: what the library says and what the reference says are the same. No program in sight.
-/
import Derived.Test.YtenfajgpdhgknaaGreatDoorDatC
import Derived.Test.YtenfajgpdhgknaaGreatDoorSd
import Derived.Lib.HexFns2
set_option linter.unusedSimpArgs false
set_option linter.unusedVariables false
set_option linter.unnecessarySimpa false
namespace Go.Proofs.YtenfajgpdhgknaaGreatDoor
open Go Go.RowKit

theorem digit_fin : ∀ d : Fin 16, Lib.Hx.digit d.val = hexFig d.val := by decide +kernel
theorem hexVal_fin : ∀ n : Fin 16, hexVal (hexFig n.val) = some n.val := by decide +kernel
theorem byte_fin : ∀ c : Fin 256, (match hexVal (UInt8.ofNat c.val) with | some n => decide (n < 16) && decide (Lib.Hx.v (UInt8.ofNat c.val) = n) && decide (hexFig n = UInt8.ofNat c.val) | none => true) = true := by decide +kernel
theorem hexVal_some {c : UInt8} {n : Nat} (h : hexVal c = some n) : n < 16 ∧ Lib.Hx.v c = n ∧ hexFig n = c := by
  have := byte_fin ⟨c.toNat, UInt8.toNat_lt c⟩
  rw [show UInt8.ofNat (⟨c.toNat, UInt8.toNat_lt c⟩ : Fin 256).val = c from UInt8.ofNat_toNat] at this
  rw [h] at this
  simp only [Bool.and_eq_true, decide_eq_true_eq] at this
  exact ⟨this.1.1, this.1.2, this.2⟩
theorem encode_hexB : ∀ l : Str, Lib.Hx.encode l = hexB l
  | [] => rfl
  | c :: l => by
    have hc := UInt8.toNat_lt c
    rw [Lib.Hx.encode_cons, hexB, encode_hexB l, digit_fin ⟨c.toNat / 16, by omega⟩, digit_fin ⟨c.toNat % 16, by omega⟩]
theorem unhexL_hexB : ∀ r : Str, unhexL (hexB r) = some r
  | [] => rfl
  | c :: r => by
    have hc := UInt8.toNat_lt c
    rw [hexB, unhexL, hexVal_fin ⟨c.toNat / 16, by omega⟩, hexVal_fin ⟨c.toNat % 16, by omega⟩, unhexL_hexB r]
    simp only
    rw [show 16 * (c.toNat / 16) + c.toNat % 16 = c.toNat by omega, UInt8.ofNat_toNat]
theorem unhexL_dec : ∀ (t r : Str), unhexL t = some r → hexB r = t ∧ Lib.Hx.decode t = (r, .ok)
  | [], r, h => by
    simp only [unhexL, Option.some.injEq] at h
    subst h
    exact ⟨rfl, Lib.Hx.decode_nil⟩
  | [_], r, h => by simp [unhexL] at h
  | a :: b :: t, r, h => by
    unfold unhexL at h
    split at h
    · rename_i hh ll rr h1 h2 h3
      simp only [Option.some.injEq] at h
      subst h
      obtain ⟨i1, i2⟩ := unhexL_dec t rr h3
      obtain ⟨a1, a2, a3⟩ := hexVal_some h1
      obtain ⟨b1, b2, b3⟩ := hexVal_some h2
      have hn : (UInt8.ofNat (16 * hh + ll)).toNat = 16 * hh + ll := UInt8.toNat_ofNat_of_lt' (by show _ < 256; omega)
      refine ⟨?_, ?_⟩
      · rw [hexB, hn, i1, show (16 * hh + ll) / 16 = hh by omega, show (16 * hh + ll) % 16 = ll by omega, a3, b3]
      · rw [Lib.Hx.decode_two, a2, b2, if_neg (by omega), if_neg (by omega), i2, Nat.mul_comm]
    · cases h
theorem unhex_yes {t r : Str} (hd : Lib.Hx.decode t = (r, .ok)) (h1 : ¬ (20000 : Int) < (r.length : Int)) (h2 : hexB r = t) : unhex t = (r, true) := by
  have hl := hexB_len r
  unfold unhex
  rw [if_neg (by rw [← h2, hl]; omega), ← h2, unhexL_hexB]
theorem unhex_err {t : Str} (hd : ∀ r, Lib.Hx.decode t ≠ (r, .ok)) : unhex t = ([], false) := by
  unfold unhex
  split
  · rfl
  · cases h : unhexL t with
    | none => rfl
    | some r => exact absurd (unhexL_dec t r h).2 (hd r)
theorem unhex_long {t r : Str} (hd : Lib.Hx.decode t = (r, .ok)) (h1 : (20000 : Int) < (r.length : Int)) : unhex t = ([], false) := by
  unfold unhex
  split
  · rfl
  · rename_i hl
    cases h : unhexL t with
    | none => rfl
    | some r' =>
      have := unhexL_dec t r' h
      rw [hd] at this
      have e : r = r' := (Prod.mk.inj this.2).1
      subst e
      have := unhexL_len t r h
      omega
theorem unhex_ne {t r : Str} (hd : Lib.Hx.decode t = (r, .ok)) (h1 : ¬ hexB r = t) : unhex t = ([], false) := by
  unfold unhex
  split
  · rfl
  · cases h : unhexL t with
    | none => rfl
    | some r' =>
      have := unhexL_dec t r' h
      rw [hd] at this
      have e : r = r' := (Prod.mk.inj this.2).1
      subst e
      exact absurd this.1 h1
/-- What Hex hands back. -/
def hexP (s : Str) : Str × Bool := if 20000 < (s.length : Int) then ([], false) else (hexB s, true)
theorem hexP_len (s : Str) : (hexP s).1.length ≤ 40000 := by
  unfold hexP
  split
  · simp
  · simp only; rw [hexB_len]; omega
theorem hexS_P (s : Str) : hexS s = (hexP s).1 := by
  unfold hexS hexP
  by_cases h : 20000 < s.length
  · rw [if_pos h, if_pos (by omega)]
  · rw [if_neg h, if_neg (by omega)]
def hexAcc : Str → Str → Str
  | [], out => out
  | c :: s, out => hexAcc s (out ++ [hexFig (c.toNat / 16), hexFig (c.toNat % 16)])
theorem hexAcc_app : ∀ (s out : Str), hexAcc s out = out ++ hexB s
  | [], out => by simp [hexAcc, hexB]
  | c :: s, out => by rw [hexAcc, hexAcc_app s, hexB]; simp
def hexV (c : UInt8) : Int := match hexVal c with | some n => (n : Int) | none => -1
theorem hexV_le (c : UInt8) : -1 ≤ hexV c ∧ hexV c ≤ 15 := by
  unfold hexV
  cases h : hexVal c with
  | none => simp
  | some n => have := (hexVal_some h).1; simp only; omega
theorem unhexL_step {t out : Str} {j : Nat} (h : j + 1 < t.length) : (unhexL (t.drop j)).map (out ++ ·) = if hexV (t.getD j 0) < 0 ∨ hexV (t.getD (j + 1) 0) < 0 then none else
    (unhexL (t.drop (j + 2))).map ((out ++ [UInt8.ofNat (16 * hexV (t.getD j 0) + hexV (t.getD (j + 1) 0)).toNat]) ++ ·) := by
  rw [drop_at (getD_some (d := (0 : UInt8)) (by omega : j < t.length)), drop_at (getD_some (d := (0 : UInt8)) h), unhexL]
  unfold hexV
  cases h1 : hexVal (t.getD j 0) with
  | none => simp
  | some a =>
    cases h2 : hexVal (t.getD (j + 1) 0) with
    | none => simp
    | some b =>
      rw [if_neg (by simp only; omega)]
      have e : (16 * (a : Int) + (b : Int)).toNat = 16 * a + b := by omega
      simp only [e]
      cases unhexL (t.drop (j + 2)) with
      | none => rfl
      | some r => simp
theorem unhex_some {t r : Str} (h : unhexL t = some r) (h1 : ¬ (40000 : Int) < (t.length : Int)) : unhex t = (r, true) := by
  unfold unhex
  rw [if_neg (by omega), h]
theorem unhex_none {t : Str} (h : unhexL t = none) : unhex t = ([], false) := by
  unfold unhex
  rw [h]
  split <;> rfl
theorem unhexL_odd : ∀ (t : Str), t.length % 2 = 1 → unhexL t = none
  | [], h => by simp at h
  | [_], _ => rfl
  | a :: b :: t, h => by
    unfold unhexL
    rw [unhexL_odd t (by simp only [List.length_cons] at h; omega)]
    cases hexVal a <;> cases hexVal b <;> rfl
theorem unhex_bad {t : Str} (h : (40000 : Int) < (t.length : Int) ∨ ¬ ((t.length % 2 : Nat) : Int) = 0) : unhex t = ([], false) := by
  rcases h with h | h
  · unfold unhex
    rw [if_pos (by omega)]
  · exact unhex_none (unhexL_odd t (by omega))
theorem unhex_fst {t : Str} {u : Str} (h : unhex t = (u, false)) : u = [] := by
  unfold unhex at h
  split at h
  · simp at h; exact h
  · split at h <;> simp at h
    exact h
theorem messageOf_nil {v : Str} (h : v = []) : messageOf v = [] := by subst h; rfl
theorem messageOf_one {v : Str} (h : ¬ v = []) (h2 : ((v.getD 0 0).toNat : Int) = 45) : messageOf v = (unhex (v.drop 1)).1 := by
  cases v with
  | nil => exact absurd rfl h
  | cons c t =>
    have hc : c = 45 := by
      simp only [List.getD_cons_zero] at h2
      apply UInt8.toNat.inj
      show c.toNat = 45
      omega
    unfold messageOf
    simp [hc]
theorem messageOf_no {v : Str} (h2 : ¬ ((v.getD 0 0).toNat : Int) = 45) : messageOf v = [] := by
  cases v with
  | nil => rfl
  | cons c t =>
    have hc : ¬ c = 45 := by
      intro e
      subst e
      simp at h2
    unfold messageOf
    simp [hc]
theorem prefix45 {v : Str} : prefixB v [45] = true ↔ ∃ t, v = 45 :: t := by
  unfold prefixB
  simp only [List.length_cons, List.length_nil, Bool.and_eq_true, decide_eq_true_eq]
  cases v with
  | nil => simp
  | cons c t => simp
theorem hexAcc_nil (s : Str) : hexAcc s [] = hexB s := by rw [hexAcc_app]; rfl
theorem hexP_no {s : Str} (h : ¬ (20000 : Int) < (s.length : Int)) : hexP s = (hexB s, true) := by unfold hexP; rw [if_neg h]
theorem hexP_yes {s : Str} (h : (20000 : Int) < (s.length : Int)) : hexP s = ([], false) := by unfold hexP; rw [if_pos h]
theorem hexFig_lo {k : Nat} (h : k < 10) : (hexFig k).toNat = 48 + k := by
  unfold hexFig
  rw [if_pos h, UInt8.toNat_ofNat_of_lt' (by show _ < 256; omega)]
theorem hexFig_hi {k : Nat} (h : ¬ k < 10) (h2 : k < 16) : (hexFig k).toNat = 87 + k := by
  unfold hexFig
  rw [if_neg h, UInt8.toNat_ofNat_of_lt' (by show _ < 256; omega)]
theorem hexV_a {c : UInt8} (h1 : 48 ≤ c.toNat) (h2 : c.toNat ≤ 57) : hexV c = (c.toNat : Int) - 48 := by
  unfold hexV hexVal
  rw [if_pos ⟨h1, h2⟩]
  simp only
  omega
theorem hexV_b {c : UInt8} (h1 : 97 ≤ c.toNat) (h2 : c.toNat ≤ 102) : hexV c = (c.toNat : Int) - 97 + 10 := by
  unfold hexV hexVal
  rw [if_neg (by omega), if_pos ⟨h1, h2⟩]
  simp only
  omega
theorem hexV_c {c : UInt8} (h1 : c.toNat < 48 ∨ 57 < c.toNat) (h2 : c.toNat < 97 ∨ 102 < c.toNat) : hexV c = -1 := by
  unfold hexV hexVal
  rw [if_neg (by omega), if_neg (by omega)]
theorem messageOf_cutT {v u : Str} (h : cutPre v [45] = (u, true)) : messageOf v = (unhex u).1 := by
  unfold cutPre at h
  split at h
  · rename_i hp
    obtain ⟨t, rfl⟩ := prefix45.1 hp
    simp only [Prod.mk.injEq, and_true] at h
    subst h
    rfl
  · simp at h
theorem messageOf_cutF {v u : Str} (h : cutPre v [45] = (u, false)) : messageOf v = [] := by
  unfold cutPre at h
  split at h
  · simp at h
  · rename_i hp
    cases v with
    | nil => rfl
    | cons c t =>
      unfold messageOf
      simp only
      rw [if_neg]
      intro hc
      subst hc
      exact hp (prefix45.2 ⟨t, rfl⟩)
end Go.Proofs.YtenfajgpdhgknaaGreatDoor
