/-
  What the reference computes, in the words of the lists. No program in sight.
-/
import Derived.Test.YtkmpmjficoohkaaGreatDatA
set_option linter.unusedSimpArgs false
set_option linter.unusedVariables false
set_option linter.unnecessarySimpa false
namespace Go.Proofs.YtkmpmjficoohkaaGreat
open Go Go.RowKit

theorem sees_nil {w : World} (k : Nat) : Sees w (.slice none 0 0) k 0 [] := ⟨by simp, .inl ⟨rfl, rfl⟩⟩
/-- What the reference's PutKey lays behind what it has. -/
def putL (key val : Str) : Bool → List Cell → List Cell
  | d, [] => if d then [] else [(key, val)]
  | d, c :: s => (if !d && gtrB c.1 key then [(key, val)] else []) ++ ((if c.1 = key then [] else [c]) ++ putL key val (d || gtrB c.1 key) s)
theorem putL_step {s : List Cell} {key val : Str} {d : Bool} {j : Nat} (h : j < s.length) : putL key val d (s.drop j) = (if !d && gtrB (s.getD j c0).1 key then [(key, val)] else []) ++ ((if (s.getD j c0).1 = key then [] else [s.getD j c0]) ++ putL key val (d || gtrB (s.getD j c0).1 key) (s.drop (j + 1))) := by
  rw [drop_at (getD_some (d := c0) h), putL]
theorem putL_true (key val : Str) : ∀ s : List Cell, putL key val true s = s.filter (fun c => !decide (c.1 = key))
  | [] => rfl
  | c :: s => by
    have ih := putL_true key val s
    by_cases hc : c.1 = key
    · simp [putL, hc, ih]
    · simp [putL, hc, ih]
theorem gtr_ne {a b : Str} (h : gtrB a b = true) : ¬ a = b := by
  intro e
  subst e
  simp [gtrB] at h
theorem putL_false (key val : Str) : ∀ s : List Cell, putL key val false s = insertAt (findAt (fun c => gtrB c.1 key) (s.filter (fun c => !decide (c.1 = key)))) (key, val) (s.filter (fun c => !decide (c.1 = key)))
  | [] => rfl
  | c :: s => by
    have ih := putL_false key val s
    cases hg : gtrB c.1 key with
    | true =>
      have hc := gtr_ne hg
      rw [List.filter_cons_of_pos (by simp [hc])]
      simp only [putL, hg, Bool.not_false, Bool.true_and, if_true, hc, if_false, Bool.false_or, putL_true, findAt]
      rfl
    | false =>
      by_cases hc : c.1 = key
      · rw [List.filter_cons_of_neg (by simp [hc]), ← ih]
        have hg' : gtrB key key = false := hc ▸ hg
        simp only [putL, hg', Bool.not_false, Bool.true_and, Bool.false_eq_true, if_false, hc, if_true, List.nil_append, Bool.or_false]
      · rw [List.filter_cons_of_pos (by simp [hc])]
        simp only [putL, hg, Bool.not_false, Bool.true_and, Bool.false_eq_true, if_false, hc, List.nil_append, Bool.or_false, findAt, ih]
        rfl
theorem putL_put {s : List Cell} {key val : Str} (h : keyOk key = true) (h2 : ¬ 60 < val.length) : putL key val (decide (val = [])) s = putKey s key val := by
  by_cases hv : val = []
  · rw [putKey_nil h h2 hv, decide_eq_true hv, putL_true]
  · rw [putKey_ins h h2 hv, decide_eq_false hv, putL_false]

theorem addSpan_at {l : List Str} {x : Str} {j : Nat} (hlt : j < l.length) (hN : ∀ i, i < j → geqB (l.getD i []) x = false) (hge : geqB (l.getD j []) x = true) : findAt (fun y => geqB y x) l = j := findAt_eq _ [] l j hlt hN hge
theorem addSpan_put_same {l : List Str} {x : Str} {j : Nat} (hlt : j < l.length) (hN : ∀ i, i < j → geqB (l.getD i []) x = false) (hge : geqB (l.getD j []) x = true) (he : l.getD j [] = x) : addSpan l x = l := by
  have h := addSpan_at hlt hN hge
  exact addSpan_same (by rw [h]; exact hlt) (by rw [h]; exact he)
theorem addSpan_put_ins {l : List Str} {x : Str} {j : Nat} (hlt : j < l.length) (hN : ∀ i, i < j → geqB (l.getD i []) x = false) (hge : geqB (l.getD j []) x = true) (he : ¬ l.getD j [] = x) : l.take j ++ [x] ++ (l.drop j).take (l.length - j) = addSpan l x := by
  have h := addSpan_at hlt hN hge
  have e : (l.drop j).take (l.length - j) = l.drop j := List.take_of_length_le (by simp)
  rw [addSpan_ins (by rw [h]; exact hlt) (by rw [h]; exact he), h, e]
  simp [insertAt]
theorem addSpan_put_end {l : List Str} {x : Str} {j : Nat} (hle : l.length ≤ j) (hj : j ≤ l.length) (hN : ∀ i, i < j → geqB (l.getD i []) x = false) : l.take j ++ [x] ++ (l.drop j).take (l.length - j) = addSpan l x := by
  have h := findAt_none (fun y => geqB y x) [] l (fun i hi => hN i (by omega))
  rw [addSpan_end h, List.take_of_length_le hle, List.drop_of_length_le hle]
  simp

/-- The digits, the last one first in hand. -/
theorem mtAcc_app : ∀ (n k : Nat) (out : Str), k ≤ n → mtAcc k out = mtAcc k [] ++ out := by
  intro n
  induction n with
  | zero => intro k out h; rw [mtAcc_zero (by omega), mtAcc_zero (by omega)]; rfl
  | succ n ih =>
    intro k out h
    rcases Nat.eq_zero_or_pos k with h0 | h0
    · rw [mtAcc_zero h0, mtAcc_zero h0]; rfl
    · rw [← mtAcc_step h0, ← mtAcc_step h0 (out := []), ih _ _ (by omega), ih (k / 10) ([UInt8.ofNat (48 + k % 10)] ++ []) (by omega)]
      simp [List.append_assoc]
theorem mtAcc_dec : ∀ (n k : Nat), 0 < k → k ≤ n → mtAcc k [] = Lib.decDigits k := by
  intro n
  induction n with
  | zero => intro k h0 h; omega
  | succ n ih =>
    intro k h0 h
    rw [← mtAcc_step h0, mtAcc_app (k / 10) (k / 10) _ (Nat.le_refl _), Lib.decDigits]
    split
    · rename_i hk
      rw [mtAcc_zero (by omega), Nat.mod_eq_of_lt hk]; rfl
    · rw [ih (k / 10) (by omega) (by omega)]; simp
theorem dec_nat {k : Nat} (h : 0 < k) : dec ((k : Nat) : Int) = mtAcc k [] := by
  unfold dec Lib.itoa
  rw [if_neg (by omega), Int.toNat_natCast, mtAcc_dec k k h (Nat.le_refl _)]
theorem dec_zero : dec 0 = [48] := by
  unfold dec Lib.itoa
  rw [if_neg (by omega), show (0 : Int).toNat = 0 from rfl, Lib.decDigits, dif_pos (by omega)]; rfl
theorem decDigits_len : ∀ (n k : Nat), k ≤ n → (Lib.decDigits k).length = Lib.nDigits k := by
  intro n
  induction n with
  | zero => intro k h; rw [Lib.decDigits, Lib.nDigits, dif_pos (by omega), dif_pos (by omega)]; rfl
  | succ n ih =>
    intro k h
    rw [Lib.decDigits, Lib.nDigits]
    split
    · rfl
    · rw [List.length_append, ih (k / 10) (by omega)]; rfl
theorem dec_len {n : Int} (h0 : 0 ≤ n) (h1 : n ≤ 1000000000) : (dec n).length ≤ 10 := by
  obtain ⟨k, rfl⟩ := Int.eq_ofNat_of_zero_le h0
  unfold dec Lib.itoa
  rw [if_neg (by omega), Int.toNat_natCast, decDigits_len k k (Nat.le_refl _)]
  have : ∀ (d k : Nat), k < 10 ^ (d + 1) → Lib.nDigits k ≤ d + 1 := by
    intro d
    induction d with
    | zero => intro k hk; rw [Lib.nDigits_small (by simpa using hk)]; omega
    | succ d ih =>
      intro k hk
      by_cases hs : k < 10
      · rw [Lib.nDigits_small hs]; omega
      · rw [Lib.nDigits_big hs]
        have := ih (k / 10) (by rw [Nat.pow_succ] at hk; omega)
        omega
  exact this 9 k (by omega)
/-- The number that figures spell, as the reference adds it up; none where a byte is no figure. -/
def figs : Int → Str → Option Int
  | n, [] => some n
  | n, c :: t => if 48 ≤ c.toNat ∧ c.toNat ≤ 57 then figs (10 * n + (c.toNat : Int) - 48) t else none
theorem figs_step {t : Str} {n : Int} {j : Nat} (h : j < t.length) : figs n (t.drop j) = if 48 ≤ (t.getD j 0).toNat ∧ (t.getD j 0).toNat ≤ 57 then figs (10 * n + ((t.getD j 0).toNat : Int) - 48) (t.drop (j + 1)) else none := by
  rw [drop_at (getD_some (d := 0) h), figs]
theorem figs_parse : ∀ (t : Str) (acc : Nat), acc * 10 ^ t.length + 10 ^ t.length ≤ 1000000000000000000 → Lib.parseUint10 acc t = match figs acc t with | some n => .ok n.toNat | none => Lib.NumEnd.syntax
  | [], acc, _ => by simp [Lib.parseUint10, figs]
  | c :: t, acc, h => by
    have hp : 0 < 10 ^ t.length := Nat.pow_pos (by omega)
    rw [List.length_cons, Nat.pow_succ] at h
    by_cases hc : 48 ≤ c.toNat ∧ c.toNat ≤ 57
    · have hb : acc * 10 + 10 ≤ 1000000000000000000 := by
        have h1 : (acc * 10 + 10) * 1 ≤ (acc * 10 + 10) * 10 ^ t.length := Nat.mul_le_mul_left _ hp
        have h2 : (acc * 10 + 10) * 10 ^ t.length = acc * (10 ^ t.length * 10) + 10 ^ t.length * 10 := by rw [Nat.add_mul, Nat.mul_assoc, Nat.mul_comm 10 (10 ^ t.length)]
        omega
      have hs : ((acc * 10 + (c.toNat - 48) : Nat) : Int) = 10 * (acc : Int) + (c.toNat : Int) - 48 := by omega
      have ih := figs_parse t (acc * 10 + (c.toNat - 48)) (by
        have h1 : (acc * 10 + (c.toNat - 48)) * 10 ^ t.length ≤ (acc * 10 + 9) * 10 ^ t.length := Nat.mul_le_mul_right _ (by omega)
        have h2 : (acc * 10 + 9) * 10 ^ t.length + 10 ^ t.length = acc * (10 ^ t.length * 10) + 10 ^ t.length * 10 := by
          rw [← Nat.succ_mul, show (acc * 10 + 9).succ = acc * 10 + 10 from rfl, Nat.add_mul, Nat.mul_assoc, Nat.mul_comm 10 (10 ^ t.length)]
        omega)
      rw [Lib.parseUint10, if_pos hc, if_neg (by omega), if_neg (by omega), ih, hs, figs, if_pos hc]
    · rw [Lib.parseUint10, if_neg hc, figs, if_neg hc]
theorem figs_nonneg : ∀ (t : Str) (n m : Int), 0 ≤ n → figs n t = some m → 0 ≤ m
  | [], n, m, h, e => by simp only [figs, Option.some.injEq] at e; omega
  | c :: t, n, m, h, e => by
    unfold figs at e
    split at e
    · exact figs_nonneg t _ m (by omega) e
    · simp at e
theorem dec_head {n : Int} (h : 0 ≤ n) : ∃ c r, dec n = c :: r ∧ 48 ≤ c.toNat ∧ c.toNat ≤ 57 := by
  obtain ⟨k, rfl⟩ := Int.eq_ofNat_of_zero_le h
  unfold dec Lib.itoa
  rw [if_neg (by omega), Int.toNat_natCast]
  have : ∀ (n k : Nat), k ≤ n → ∃ c r, Lib.decDigits k = c :: r ∧ 48 ≤ c.toNat ∧ c.toNat ≤ 57 := by
    intro n
    induction n with
    | zero => intro k hk; rw [Lib.decDigits, dif_pos (by omega)]; exact ⟨_, _, rfl, by rw [UInt8.toNat_ofNat_of_lt' (by show _ < 256; omega)]; omega, by rw [UInt8.toNat_ofNat_of_lt' (by show _ < 256; omega)]; omega⟩
    | succ n ih =>
      intro k hk
      rw [Lib.decDigits]
      split
      · exact ⟨_, _, rfl, by rw [UInt8.toNat_ofNat_of_lt' (by show _ < 256; omega)]; omega, by rw [UInt8.toNat_ofNat_of_lt' (by show _ < 256; omega)]; omega⟩
      · obtain ⟨c, r, h1, h2, h3⟩ := ih (k / 10) (by omega)
        exact ⟨c, r ++ [UInt8.ofNat (48 + k % 10)], by rw [h1]; rfl, h2, h3⟩
  exact this k k (Nat.le_refl _)
/-- A text of at most ten bytes: what Atoi says of it, where it begins with a figure. -/
theorem atoi_figs {t : Str} {c : UInt8} {r : Str} (hc : t = c :: r) (h1 : 48 ≤ c.toNat) (h2 : c.toNat ≤ 57) (hl : t.length ≤ 10) : Lib.atoiAll t = match figs 0 t with | some n => .ok n | none => Lib.NumEnd.syntax := by
  have hlen : t.length ≤ 10 := hl
  have hpow : 10 ^ t.length ≤ 10 ^ 10 := Nat.pow_le_pow_right (by omega) hl
  have hp := figs_parse t 0 (by omega)
  subst hc
  unfold Lib.atoiAll
  simp only
  rw [if_neg (by omega)]
  unfold Lib.parseMag
  rw [if_neg (by simp), hp]
  cases hf : figs ((0 : Nat) : Int) (c :: r) with
  | none =>
    rfl
  | some n =>
    have hn := figs_nonneg _ _ _ (by omega) hf
    have hlt : Lib.parseUint10 0 (c :: r) = .ok n.toNat := by rw [hp, hf]
    have hb : n.toNat < 9223372036854775808 := by
      have key : ∀ (t : Str) (a : Nat) (u : Int), figs (a : Int) t = some u → u < ((a * 10 ^ t.length + 10 ^ t.length : Nat) : Int) := by
        intro t
        induction t with
        | nil => intro a u e; simp only [figs, Option.some.injEq] at e; subst e; simp; omega
        | cons d t ih =>
          intro a u e
          unfold figs at e
          split at e
          · rename_i hd
            have hs : ((a * 10 + (d.toNat - 48) : Nat) : Int) = 10 * (a : Int) + (d.toNat : Int) - 48 := by omega
            rw [← hs] at e
            have := ih _ _ e
            have h1 : (a * 10 + (d.toNat - 48)) * 10 ^ t.length ≤ (a * 10 + 9) * 10 ^ t.length := Nat.mul_le_mul_right _ (by omega)
            have h2 : (a * 10 + 9) * 10 ^ t.length + 10 ^ t.length = a * 10 ^ (t.length + 1) + 10 ^ (t.length + 1) := by
              rw [← Nat.succ_mul, show (a * 10 + 9).succ = a * 10 + 10 from rfl, Nat.add_mul, Nat.mul_assoc, Nat.mul_comm 10 (10 ^ t.length), Nat.pow_succ]
            rw [List.length_cons]
            omega
          · simp at e
      have := key _ _ _ hf
      omega
    simp only
    rw [if_neg (by omega), if_neg (by omega), if_neg (by omega), Int.toNat_of_nonneg hn]
theorem readDec_long {t : Str} (h : 10 < t.length) : readDec t = (0, false) := by
  unfold readDec
  split
  · rename_i n hn
    split
    · rename_i hc
      have := dec_len hc.1 hc.2.1
      rw [hc.2.2] at this
      omega
    · rfl
  · rfl
theorem readDec_figs {t : Str} (hl : t.length ≤ 10) : readDec t = match figs 0 t with | some n => if n ≤ 1000000000 ∧ dec n = t then (n, true) else (0, false) | none => (0, false) := by
  cases t with
  | nil =>
    have h0 : ¬ dec 0 = [] := by rw [dec_zero]; simp
    simp [readDec, Lib.atoiAll, figs, h0]
  | cons c r =>
    by_cases hc : 48 ≤ c.toNat ∧ c.toNat ≤ 57
    · have ha := atoi_figs (t := c :: r) rfl hc.1 hc.2 hl
      unfold readDec
      rw [ha]
      cases hf : figs 0 (c :: r) with
      | none => rfl
      | some n =>
        have hn := figs_nonneg _ _ _ (by omega) hf
        simp only [hn, true_and]
    · have hf : figs 0 (c :: r) = none := by rw [figs, if_neg hc]
      rw [hf]
      unfold readDec
      split
      · split
        · rename_i n hn hq
          obtain ⟨c', r', h1, h2, h3⟩ := dec_head hq.1
          rw [hq.2.2] at h1
          simp only [List.cons.injEq] at h1
          obtain ⟨rfl, _⟩ := h1
          exact absurd ⟨h2, h3⟩ hc
        · rfl
      · rfl
theorem readDec_no {t : Str} (h : (readDec t).2 = false) : (readDec t).1 = 0 := by
  unfold readDec at h ⊢
  split
  · rename_i n hn
    rw [hn] at h
    simp only at h
    split
    · rename_i hc; rw [if_pos hc] at h; simp at h
    · rfl
  · rfl
theorem foldl_len (l : List Str) : ∀ (d : List Str), (l.foldl addSpan d).length ≤ d.length + l.length := by
  induction l with
  | nil => intro d; simp
  | cons x l ih =>
    intro d
    have h1 := ih (addSpan d x)
    have h2 := (addSpan_len d x).2
    simp only [List.foldl_cons, List.length_cons]
    omega
end Go.Proofs.YtkmpmjficoohkaaGreat
