/-
Texts of the walk, joined: what each one proves stands at its theorems.
-/
import Derived.Test.YthlfmbbaomdciaaGreatDoorB0SlDel
import Derived.WideLaws
import Derived.Deep.SlicePairs
import Derived.ProofKit
import Derived.Deep.Slices
import Derived.Deep.DeepHandedRow
import Derived.Test.YthlfmbbaomdciaaGreatDoorRows
import Derived.OpenShut
set_option linter.unusedSimpArgs false
set_option linter.unusedVariables false
set_option linter.unnecessarySimpa false
namespace Go.Proofs.YthlfmbbaomdciaaGreatDoor
open Go Go.RowKit
theorem getKey_found {key : Str} : ∀ {s : List Cell}, findAt (fun c => decide (c.1 = key)) s < s.length → (s.getD (findAt (fun c => decide (c.1 = key)) s) c0).2 = getKey s key
 | [], h => by simp at h
 | c :: s, h => by
   unfold findAt at h ⊢
   unfold getKey
   by_cases hc : c.1 = key
   · simp [hc]
   · simp only [hc, decide_false, Bool.false_eq_true, if_false, List.length_cons] at h ⊢
     rw [List.getD_cons_succ]
     exact getKey_found (by omega)
theorem getKey_none {key : Str} : ∀ {s : List Cell}, findAt (fun c => decide (c.1 = key)) s = s.length → getKey s key = []
 | [], _ => rfl
 | c :: s, h => by
   unfold findAt at h
   unfold getKey
   by_cases hc : c.1 = key
   · simp [hc] at h
   · simp only [hc, decide_false, Bool.false_eq_true, if_false, List.length_cons, Nat.add_right_cancel_iff] at h ⊢
     exact getKey_none h
theorem keyOk_bad {key : Str} {j : Nat} (h : j < key.length) (hb : keyByte (key.getD j 0) = false) : keyOk key = false := by
 have : key.all keyByte = false := by
   rw [List.all_eq_false]
   refine ⟨key.getD j 0, ?_, by rw [hb]; simp⟩
   rw [List.getD_eq_getElem?_getD, List.getElem?_eq_getElem h]
   exact List.getElem_mem h
 simp [keyOk, this]
theorem keyOk_good {key : Str} {j : Nat} (h : key.length ≤ j) (hb : ∀ i, i < j → i < key.length → keyByte (key.getD i 0) = true) : keyOk key = (decide (1 ≤ key.length) && decide (key.length ≤ 40)) := by
 have : key.all keyByte = true := by
   rw [List.all_eq_true]
   intro x hx
   obtain ⟨i, hi, rfl⟩ := List.getElem_of_mem hx
   have := hb i (by omega) hi
   rwa [List.getD_eq_getElem?_getD, List.getElem?_eq_getElem hi] at this
 simp [keyOk, this]
theorem addSpan_end {l : List Str} {x : Str} (h : findAt (fun y => geqB y x) l = l.length) : addSpan l x = l ++ [x] := by
 simp [addSpan, h]
theorem addSpan_same {l : List Str} {x : Str} (h : findAt (fun y => geqB y x) l < l.length) (he : l.getD (findAt (fun y => geqB y x) l) [] = x) : addSpan l x = l := by
 unfold addSpan
 simp only [h, if_true, he]
theorem addSpan_ins {l : List Str} {x : Str} (h : findAt (fun y => geqB y x) l < l.length) (he : ¬ l.getD (findAt (fun y => geqB y x) l) [] = x) : addSpan l x = insertAt (findAt (fun y => geqB y x) l) x l := by
 unfold addSpan
 simp only [h, if_true, he, if_false]
theorem addSpan_len (l : List Str) (x : Str) : l.length ≤ (addSpan l x).length ∧ (addSpan l x).length ≤ l.length + 1 := by
 unfold addSpan
 have h := findAt_le (fun y => geqB y x) l
 simp only
 split
 · split
   · omega
   · rw [insertAt_length _ _ _ h]; omega
 · simp
theorem putKey_bad1 {s : List Cell} {key val : Str} (h : keyOk key = false) : putKey s key val = s := by simp [putKey, h]
theorem putKey_bad2 {s : List Cell} {key val : Str} (h : 60 < val.length) : putKey s key val = s := by simp [putKey, h]
theorem putKey_nil {s : List Cell} {key val : Str} (h : keyOk key = true) (h2 : ¬ 60 < val.length) (hv : val = []) : putKey s key val = s.filter (fun c => !decide (c.1 = key)) := by
 unfold putKey
 rw [if_neg (by simp [h]; omega)]
 simp only [hv, if_true]
theorem putKey_ins {s : List Cell} {key val : Str} (h : keyOk key = true) (h2 : ¬ 60 < val.length) (hv : ¬ val = []) : putKey s key val = insertAt (findAt (fun c => gtrB c.1 key) (s.filter (fun c => !decide (c.1 = key)))) (key, val) (s.filter (fun c => !decide (c.1 = key))) := by
 unfold putKey
 rw [if_neg (by simp [h]; omega)]
 simp only [hv, if_false]
theorem putKey_len (s : List Cell) (key val : Str) : (putKey s key val).length ≤ s.length + 1 := by
 have h1 : (s.filter (fun c => !decide (c.1 = key))).length ≤ s.length := List.length_filter_le _ _
 unfold putKey
 simp only
 split
 · omega
 · split
   · omega
   · rw [insertAt_length _ _ _ (findAt_le _ _)]; omega
theorem look_len (m : MS) (key : Str) : (m.look key).1.s.length = m.s.length ∧ (m.look key).1.r.length ≤ m.r.length + 1 ∧ (m.look key).1.w.length = m.w.length := ⟨rfl, (addSpan_len _ _).2, rfl⟩
theorem lay_len (m : MS) (key val : Str) : (m.lay key val).s.length ≤ m.s.length + 1 ∧ (m.lay key val).r.length = m.r.length ∧ (m.lay key val).w.length ≤ m.w.length + 1 := ⟨putKey_len _ _ _, rfl, (addSpan_len _ _).2⟩
theorem num_len (m : MS) (key : Str) : (m.num key).1.s.length = m.s.length ∧ (m.num key).1.r.length ≤ m.r.length + 1 ∧ (m.num key).1.w.length = m.w.length := look_len m key
theorem setNum_len (m : MS) (key : Str) (n : Int) : (m.setNum key n).s.length ≤ m.s.length + 1 ∧ (m.setNum key n).r.length = m.r.length ∧ (m.setNum key n).w.length ≤ m.w.length + 1 := lay_len m key _
theorem readDec_lo (t : Str) : 0 ≤ (readDec t).1 ∧ (readDec t).1 ≤ 1000000000 := by
 unfold readDec
 split
 · split <;> simp_all
 · simp
theorem numOf_lo (t : Str) : 0 ≤ numOf t ∧ numOf t ≤ 999 := by
 have := readDec_lo t
 unfold numOf
 split <;> omega
theorem readDec_err {t : Str} (h : ∀ n, Lib.atoiAll t ≠ .ok n) : readDec t = (0, false) := by
 unfold readDec
 split
 · rename_i n hn
   exact absurd hn (h n)
 · rfl
theorem readDec_ok {t : Str} {n : Int} (h : Lib.atoiAll t = .ok n) : readDec t = if 0 ≤ n ∧ n ≤ 1000000000 ∧ dec n = t then (n, true) else (0, false) := by
 unfold readDec
 rw [h]

section
variable {P : Program} {n : Nat} {e : Env} {d : Option Tmp} {ty : TypeId} {pos : String} {aft : Array Edge} {gd : Option (Nat × Bool)} {x : Operand} {t u : TypeId} {ms : Array (String × TypeId)} {te : TypeId} {pe : Value}
theorem meth_of (ht : P.underlying t = some (.interface ms)) : P.underlying t = some (.interface (P.methodsAt t)) := by
 have : P.methodsAt t = ms := by simp [Program.methodsAt, ht]
 rw [this]; exact ht
theorem PO.neqIfN (ht : P.underlying t = some (.interface ms)) (hx : rd n e x = .nilIface) (_ : rd n e (.const .nilIface) = .nilIface) : PO P n e ⟨d, .binOp .neq t x (.const .nilIface) u, ty, pos, aft, gd⟩ (.bool false) := fun w => by
 have h := run_neq_nil_nil (P := P) w t (meth_of ht)
 have hy : rd n e (.const .nilIface) = .nilIface := rfl
 simp only [execOp, hx, hy, eqGuard_nil_constR, Sem.run_bind, Sem.run_pure, Result.andThen_ok, h]
theorem PO.neqIfS (ht : P.underlying t = some (.interface ms)) (hx : rd n e x = .iface te pe) (_ : rd n e (.const .nilIface) = .nilIface) : PO P n e ⟨d, .binOp .neq t x (.const .nilIface) u, ty, pos, aft, gd⟩ (.bool true) := fun w => by
 have h := run_neq_held_nil (P := P) w t te pe (meth_of ht)
 have hy : rd n e (.const .nilIface) = .nilIface := rfl
 simp only [execOp, hx, hy, eqGuard_at_iface, Sem.run_bind, Sem.run_pure, Result.andThen_ok, h]
end
/-- What the reference's PutKey lays behind what it has. -/
def putL (key val : Str) : Bool → List Cell → List Cell
 | d, [] => if d then [] else [(key, val)]
 | d, c :: s => (if !d && gtrB c.1 key then [(key, val)] else []) ++ ((if c.1 = key then [] else [c]) ++ putL key val (d || gtrB c.1 key) s)
theorem putL_step {s : List Cell} {key val : Str} {d : Bool} {j : Nat} (h : j < s.length) : putL key val d (s.drop j) = (if !d && gtrB (s.getD j c0).1 key then [(key, val)] else []) ++ ((if (s.getD j c0).1 = key then [] else [s.getD j c0]) ++ putL key val (d || gtrB (s.getD j c0).1 key) (s.drop (j + 1))) := by
 rw [drop_at (getD_some (d := c0) h), putL]
theorem putL_true (key val : Str) : ∀ s : List Cell, putL key val true s = s.filter (fun c => !decide (c.1 = key))
 | [] => rfl
 | c :: s => by
   have ih := putL_true key val s
   by_cases hc : c.1 = key
   · simp [putL, hc, ih]
   · simp [putL, hc, ih]
theorem gtr_ne {a b : Str} (h : gtrB a b = true) : ¬ a = b := by
 intro e
 subst e
 simp [gtrB] at h
theorem putL_false (key val : Str) : ∀ s : List Cell, putL key val false s = insertAt (findAt (fun c => gtrB c.1 key) (s.filter (fun c => !decide (c.1 = key)))) (key, val) (s.filter (fun c => !decide (c.1 = key)))
 | [] => rfl
 | c :: s => by
   have ih := putL_false key val s
   cases hg : gtrB c.1 key with
   | true =>
     have hc := gtr_ne hg
     rw [List.filter_cons_of_pos (by simp [hc])]
     simp only [putL, hg, Bool.not_false, Bool.true_and, if_true, hc, if_false, Bool.false_or, putL_true, findAt]
     rfl
   | false =>
     by_cases hc : c.1 = key
     · rw [List.filter_cons_of_neg (by simp [hc]), ← ih]
       have hg' : gtrB key key = false := hc ▸ hg
       simp only [putL, hg', Bool.not_false, Bool.true_and, Bool.false_eq_true, if_false, hc, if_true, List.nil_append, Bool.or_false]
     · rw [List.filter_cons_of_pos (by simp [hc])]
       simp only [putL, hg, Bool.not_false, Bool.true_and, Bool.false_eq_true, if_false, hc, List.nil_append, Bool.or_false, findAt, ih]
       rfl
theorem putL_put {s : List Cell} {key val : Str} (h : keyOk key = true) (h2 : ¬ 60 < val.length) : putL key val (decide (val = [])) s = putKey s key val := by
 by_cases hv : val = []
 · rw [putKey_nil h h2 hv, decide_eq_true hv, putL_true]
 · rw [putKey_ins h h2 hv, decide_eq_false hv, putL_false]

theorem addSpan_at {l : List Str} {x : Str} {j : Nat} (hlt : j < l.length) (hN : ∀ i, i < j → geqB (l.getD i []) x = false) (hge : geqB (l.getD j []) x = true) : findAt (fun y => geqB y x) l = j := findAt_eq _ [] l j hlt hN hge
theorem addSpan_put_same {l : List Str} {x : Str} {j : Nat} (hlt : j < l.length) (hN : ∀ i, i < j → geqB (l.getD i []) x = false) (hge : geqB (l.getD j []) x = true) (he : l.getD j [] = x) : addSpan l x = l := by
 have h := addSpan_at hlt hN hge
 exact addSpan_same (by rw [h]; exact hlt) (by rw [h]; exact he)
theorem addSpan_put_ins {l : List Str} {x : Str} {j : Nat} (hlt : j < l.length) (hN : ∀ i, i < j → geqB (l.getD i []) x = false) (hge : geqB (l.getD j []) x = true) (he : ¬ l.getD j [] = x) : l.take j ++ [x] ++ (l.drop j).take (l.length - j) = addSpan l x := by
 have h := addSpan_at hlt hN hge
 have e : (l.drop j).take (l.length - j) = l.drop j := List.take_of_length_le (by simp)
 rw [addSpan_ins (by rw [h]; exact hlt) (by rw [h]; exact he), h, e]
 simp [insertAt]
theorem addSpan_put_end {l : List Str} {x : Str} {j : Nat} (hle : l.length ≤ j) (hj : j ≤ l.length) (hN : ∀ i, i < j → geqB (l.getD i []) x = false) : l.take j ++ [x] ++ (l.drop j).take (l.length - j) = addSpan l x := by
 have h := findAt_none (fun y => geqB y x) [] l (fun i hi => hN i (by omega))
 rw [addSpan_end h, List.take_of_length_le hle, List.drop_of_length_le hle]
 simp

/-- The digits, the last one first in hand. -/
theorem mtAcc_app : ∀ (n k : Nat) (out : Str), k ≤ n → mtAcc k out = mtAcc k [] ++ out := by
 intro n
 induction n with
 | zero => intro k out h; rw [mtAcc_zero (by omega), mtAcc_zero (by omega)]; rfl
 | succ n ih =>
   intro k out h
   rcases Nat.eq_zero_or_pos k with h0 | h0
   · rw [mtAcc_zero h0, mtAcc_zero h0]; rfl
   · rw [← mtAcc_step h0, ← mtAcc_step h0 (out := []), ih _ _ (by omega), ih (k / 10) ([UInt8.ofNat (48 + k % 10)] ++ []) (by omega)]
     simp [List.append_assoc]
theorem mtAcc_dec : ∀ (n k : Nat), 0 < k → k ≤ n → mtAcc k [] = Lib.decDigits k := by
 intro n
 induction n with
 | zero => intro k h0 h; omega
 | succ n ih =>
   intro k h0 h
   rw [← mtAcc_step h0, mtAcc_app (k / 10) (k / 10) _ (Nat.le_refl _), Lib.decDigits]
   split
   · rename_i hk
     rw [mtAcc_zero (by omega), Nat.mod_eq_of_lt hk]; rfl
   · rw [ih (k / 10) (by omega) (by omega)]; simp
theorem dec_nat {k : Nat} (h : 0 < k) : dec ((k : Nat) : Int) = mtAcc k [] := by
 unfold dec Lib.itoa
 rw [if_neg (by omega), Int.toNat_natCast, mtAcc_dec k k h (Nat.le_refl _)]
theorem dec_zero : dec 0 = [48] := by
 unfold dec Lib.itoa
 rw [if_neg (by omega), show (0 : Int).toNat = 0 from rfl, Lib.decDigits, dif_pos (by omega)]; rfl
theorem decDigits_len : ∀ (n k : Nat), k ≤ n → (Lib.decDigits k).length = Lib.nDigits k := by
 intro n
 induction n with
 | zero => intro k h; rw [Lib.decDigits, Lib.nDigits, dif_pos (by omega), dif_pos (by omega)]; rfl
 | succ n ih =>
   intro k h
   rw [Lib.decDigits, Lib.nDigits]
   split
   · rfl
   · rw [List.length_append, ih (k / 10) (by omega)]; rfl
theorem dec_len {n : Int} (h0 : 0 ≤ n) (h1 : n ≤ 1000000000) : (dec n).length ≤ 10 := by
 obtain ⟨k, rfl⟩ := Int.eq_ofNat_of_zero_le h0
 unfold dec Lib.itoa
 rw [if_neg (by omega), Int.toNat_natCast, decDigits_len k k (Nat.le_refl _)]
 have : ∀ (d k : Nat), k < 10 ^ (d + 1) → Lib.nDigits k ≤ d + 1 := by
   intro d
   induction d with
   | zero => intro k hk; rw [Lib.nDigits_small (by simpa using hk)]; omega
   | succ d ih =>
     intro k hk
     by_cases hs : k < 10
     · rw [Lib.nDigits_small hs]; omega
     · rw [Lib.nDigits_big hs]
       have := ih (k / 10) (by rw [Nat.pow_succ] at hk; omega)
       omega
 exact this 9 k (by omega)
/-- The number that figures spell, as the reference adds it up; none where a byte is no figure. -/
def figs : Int → Str → Option Int
 | n, [] => some n
 | n, c :: t => if 48 ≤ c.toNat ∧ c.toNat ≤ 57 then figs (10 * n + (c.toNat : Int) - 48) t else none
theorem figs_step {t : Str} {n : Int} {j : Nat} (h : j < t.length) : figs n (t.drop j) = if 48 ≤ (t.getD j 0).toNat ∧ (t.getD j 0).toNat ≤ 57 then figs (10 * n + ((t.getD j 0).toNat : Int) - 48) (t.drop (j + 1)) else none := by
 rw [drop_at (getD_some (d := 0) h), figs]
theorem figs_parse : ∀ (t : Str) (acc : Nat), acc * 10 ^ t.length + 10 ^ t.length ≤ 1000000000000000000 → Lib.parseUint10 acc t = match figs acc t with | some n => .ok n.toNat | none => Lib.NumEnd.syntax
 | [], acc, _ => by simp [Lib.parseUint10, figs]
 | c :: t, acc, h => by
   have hp : 0 < 10 ^ t.length := Nat.pow_pos (by omega)
   rw [List.length_cons, Nat.pow_succ] at h
   by_cases hc : 48 ≤ c.toNat ∧ c.toNat ≤ 57
   · have hb : acc * 10 + 10 ≤ 1000000000000000000 := by
       have h1 : (acc * 10 + 10) * 1 ≤ (acc * 10 + 10) * 10 ^ t.length := Nat.mul_le_mul_left _ hp
       have h2 : (acc * 10 + 10) * 10 ^ t.length = acc * (10 ^ t.length * 10) + 10 ^ t.length * 10 := by rw [Nat.add_mul, Nat.mul_assoc, Nat.mul_comm 10 (10 ^ t.length)]
       omega
     have hs : ((acc * 10 + (c.toNat - 48) : Nat) : Int) = 10 * (acc : Int) + (c.toNat : Int) - 48 := by omega
     have ih := figs_parse t (acc * 10 + (c.toNat - 48)) (by
       have h1 : (acc * 10 + (c.toNat - 48)) * 10 ^ t.length ≤ (acc * 10 + 9) * 10 ^ t.length := Nat.mul_le_mul_right _ (by omega)
       have h2 : (acc * 10 + 9) * 10 ^ t.length + 10 ^ t.length = acc * (10 ^ t.length * 10) + 10 ^ t.length * 10 := by
         rw [← Nat.succ_mul, show (acc * 10 + 9).succ = acc * 10 + 10 from rfl, Nat.add_mul, Nat.mul_assoc, Nat.mul_comm 10 (10 ^ t.length)]
       omega)
     rw [Lib.parseUint10, if_pos hc, if_neg (by omega), if_neg (by omega), ih, hs, figs, if_pos hc]
   · rw [Lib.parseUint10, if_neg hc, figs, if_neg hc]
theorem figs_nonneg : ∀ (t : Str) (n m : Int), 0 ≤ n → figs n t = some m → 0 ≤ m
 | [], n, m, h, e => by simp only [figs, Option.some.injEq] at e; omega
 | c :: t, n, m, h, e => by
   unfold figs at e
   split at e
   · exact figs_nonneg t _ m (by omega) e
   · simp at e
theorem dec_head {n : Int} (h : 0 ≤ n) : ∃ c r, dec n = c :: r ∧ 48 ≤ c.toNat ∧ c.toNat ≤ 57 := by
 obtain ⟨k, rfl⟩ := Int.eq_ofNat_of_zero_le h
 unfold dec Lib.itoa
 rw [if_neg (by omega), Int.toNat_natCast]
 have : ∀ (n k : Nat), k ≤ n → ∃ c r, Lib.decDigits k = c :: r ∧ 48 ≤ c.toNat ∧ c.toNat ≤ 57 := by
   intro n
   induction n with
   | zero => intro k hk; rw [Lib.decDigits, dif_pos (by omega)]; exact ⟨_, _, rfl, by rw [UInt8.toNat_ofNat_of_lt' (by show _ < 256; omega)]; omega, by rw [UInt8.toNat_ofNat_of_lt' (by show _ < 256; omega)]; omega⟩
   | succ n ih =>
     intro k hk
     rw [Lib.decDigits]
     split
     · exact ⟨_, _, rfl, by rw [UInt8.toNat_ofNat_of_lt' (by show _ < 256; omega)]; omega, by rw [UInt8.toNat_ofNat_of_lt' (by show _ < 256; omega)]; omega⟩
     · obtain ⟨c, r, h1, h2, h3⟩ := ih (k / 10) (by omega)
       exact ⟨c, r ++ [UInt8.ofNat (48 + k % 10)], by rw [h1]; rfl, h2, h3⟩
 exact this k k (Nat.le_refl _)
/-- A text of at most ten bytes: what Atoi says of it, where it begins with a figure. -/
theorem atoi_figs {t : Str} {c : UInt8} {r : Str} (hc : t = c :: r) (h1 : 48 ≤ c.toNat) (h2 : c.toNat ≤ 57) (hl : t.length ≤ 10) : Lib.atoiAll t = match figs 0 t with | some n => .ok n | none => Lib.NumEnd.syntax := by
 have hlen : t.length ≤ 10 := hl
 have hpow : 10 ^ t.length ≤ 10 ^ 10 := Nat.pow_le_pow_right (by omega) hl
 have hp := figs_parse t 0 (by omega)
 subst hc
 unfold Lib.atoiAll
 simp only
 rw [if_neg (by omega)]
 unfold Lib.parseMag
 rw [if_neg (by simp), hp]
 cases hf : figs ((0 : Nat) : Int) (c :: r) with
 | none =>
   rfl
 | some n =>
   have hn := figs_nonneg _ _ _ (by omega) hf
   have hlt : Lib.parseUint10 0 (c :: r) = .ok n.toNat := by rw [hp, hf]
   have hb : n.toNat < 9223372036854775808 := by
     have key : ∀ (t : Str) (a : Nat) (u : Int), figs (a : Int) t = some u → u < ((a * 10 ^ t.length + 10 ^ t.length : Nat) : Int) := by
       intro t
       induction t with
       | nil => intro a u e; simp only [figs, Option.some.injEq] at e; subst e; simp; omega
       | cons d t ih =>
         intro a u e
         unfold figs at e
         split at e
         · rename_i hd
           have hs : ((a * 10 + (d.toNat - 48) : Nat) : Int) = 10 * (a : Int) + (d.toNat : Int) - 48 := by omega
           rw [← hs] at e
           have := ih _ _ e
           have h1 : (a * 10 + (d.toNat - 48)) * 10 ^ t.length ≤ (a * 10 + 9) * 10 ^ t.length := Nat.mul_le_mul_right _ (by omega)
           have h2 : (a * 10 + 9) * 10 ^ t.length + 10 ^ t.length = a * 10 ^ (t.length + 1) + 10 ^ (t.length + 1) := by
             rw [← Nat.succ_mul, show (a * 10 + 9).succ = a * 10 + 10 from rfl, Nat.add_mul, Nat.mul_assoc, Nat.mul_comm 10 (10 ^ t.length), Nat.pow_succ]
           rw [List.length_cons]
           omega
         · simp at e
     have := key _ _ _ hf
     omega
   simp only
   rw [if_neg (by omega), if_neg (by omega), if_neg (by omega), Int.toNat_of_nonneg hn]
theorem readDec_long {t : Str} (h : 10 < t.length) : readDec t = (0, false) := by
 unfold readDec
 split
 · rename_i n hn
   split
   · rename_i hc
     have := dec_len hc.1 hc.2.1
     rw [hc.2.2] at this
     omega
   · rfl
 · rfl
theorem readDec_figs {t : Str} (hl : t.length ≤ 10) : readDec t = match figs 0 t with | some n => if n ≤ 1000000000 ∧ dec n = t then (n, true) else (0, false) | none => (0, false) := by
 cases t with
 | nil =>
   have h0 : ¬ dec 0 = [] := by rw [dec_zero]; simp
   simp [readDec, Lib.atoiAll, figs, h0]
 | cons c r =>
   by_cases hc : 48 ≤ c.toNat ∧ c.toNat ≤ 57
   · have ha := atoi_figs (t := c :: r) rfl hc.1 hc.2 hl
     unfold readDec
     rw [ha]
     cases hf : figs 0 (c :: r) with
     | none => rfl
     | some n =>
       have hn := figs_nonneg _ _ _ (by omega) hf
       simp only [hn, true_and]
   · have hf : figs 0 (c :: r) = none := by rw [figs, if_neg hc]
     rw [hf]
     unfold readDec
     split
     · split
       · rename_i n hn hq
         obtain ⟨c', r', h1, h2, h3⟩ := dec_head hq.1
         rw [hq.2.2] at h1
         simp only [List.cons.injEq] at h1
         obtain ⟨rfl, _⟩ := h1
         exact absurd ⟨h2, h3⟩ hc
       · rfl
     · rfl
theorem readDec_no {t : Str} (h : (readDec t).2 = false) : (readDec t).1 = 0 := by
 unfold readDec at h ⊢
 split
 · rename_i n hn
   rw [hn] at h
   simp only at h
   split
   · rename_i hc; rw [if_pos hc] at h; simp at h
   · rfl
 · rfl
end Go.Proofs.YthlfmbbaomdciaaGreatDoor
namespace Go.Proofs.YthlfmbbaomdciaaGreatDoor
open Go Go.RowKit Go.ChangeShapes Go.WideShapes Go.ChangeAt
theorem post_below {H : Type} {enc : TypeId × Value → H} {P : Program} {f : Func} {s : ChangeSpec} {apart fresh handsOn again : Bool} {W W' : World} {args : Array Value} {v : Value} {ds gs : List (DataW H)} {before pa pv : List MemPlace}
   (hW : DataW.Whole enc P f.params.toList s.vars apart W args.toList ds gs before)
   (hres : ∀ (b : Nat) (sp : Nat → Bool) (hd : Bool), DataW.TrodAll enc P W' b sp hd f.resultTypes.toList (v.resultList f.resultTypes.size) (s.fn H (ds ++ gs)).results [])
   (hargs : ∀ sp : Nat → Bool, (∀ p ∈ before, sp p.block = true) → DataW.TrodAll enc P W' 0 sp true f.params.toList args.toList (s.fn H (ds ++ gs)).args pa)
   (hvars : ∀ sp : Nat → Bool, (∀ p ∈ before, sp p.block = true) → DataW.TrodVars enc P W' sp s.vars (s.fn H (ds ++ gs)).vars pv)
   (hps : before = pa ++ pv) (hb : Below W.heap.size W W')
   (hok : ∀ (j : Nat) (t : TypeId) (r : Value), f.resultTypes[j]? = some t → (v.resultList f.resultTypes.size)[j]? = some r → Value.okWide P W' .any 0 t r) :
   s.post enc P f apart fresh handsOn again W args v W' := by
 have hold : ∀ p ∈ before, (fun b => decide (b < W.heap.size)) p.block = true := fun p hp => by simpa using hW.lt p hp
 have hlt := hW.lt
 refine ⟨ds, gs, before, [], pa, pv, hW, hres _ _ _, hargs _ hold, hvars _ hold, hb.frame _, fun _ => ?_⟩
 obtain ⟨_, _, _, _, _, hz, hn⟩ := hW
 refine ⟨hok, _, _, ([] ++ pa) ++ pv, ⟨[] ++ pa, pv, trodAll_append (hargs _ (fun _ _ => rfl)) (hres _ _ _), hvars _ (fun _ _ => rfl), rfl, ?_, ?_⟩, ?_⟩
 · intro b off hp
   have hp' : MemPlace.cell b off ∈ before := by rw [hps]; simpa using hp
   rw [hb.frozen (hlt _ hp')]
   exact hz b off hp'
 · intro ha
   have := hn ha
   rw [hps] at this
   simpa using this
 · intro p hp _
   rw [hps]
   simpa using hp
def OneLaid (P : Program) (w : World) (n : String) (d : DataW Unit) : Prop :=
 ∃ g t cs fuel p, P.globalNamed n = some g ∧ (P.globals[g]?).map (·.type) = some t ∧ w.var? P n = some cs ∧ DataW.trod (fun _ => ()) P w 0 (fun _ => true) false fuel t cs.toList = some (d, p)
section
variable {P : Program} {w : World}
theorem laidVars_get : ∀ {laid : List (String × DataW Unit)} {ps : List MemPlace} (_ : DataW.LaidVars P w laid ps) (i : Nat) {n : String} {d : DataW Unit}, laid[i]? = some (n, d) → OneLaid P w n d
 | [], _, _, i, n, d, hi => by simp at hi
 | (n', d') :: r, ps, h, 0, n, d, hi => by
   simp only [List.getElem?_cons_zero, Option.some.injEq, Prod.mk.injEq] at hi
   obtain ⟨rfl, rfl⟩ := hi
   obtain ⟨g, t, cs, f, p, _, a, b, e, h, _⟩ := h
   exact ⟨g, t, cs, f, p, a, b, e, h⟩
 | (n', d') :: r, ps, h, i + 1, n, d, hi => by
   obtain ⟨_, _, _, _, _, q, _, _, _, _, h2, _⟩ := h
   exact laidVars_get h2 i (by simpa using hi)
theorem laid_get {laid : List (String × DataW Unit)} (h : laidMet P laid w) (i : Nat) {n : String} {d : DataW Unit} (hi : laid[i]? = some (n, d)) : OneLaid P w n d := by
 obtain ⟨_, h, _⟩ := h
 exact laidVars_get h i hi
theorem OneLaid.tab {n : String} {k : IntKind} {zs : List Int} {g t e m : Nat} (h : OneLaid P w n (Lib.tabData k zs)) (hg : P.globalNamed n = some g) (hty : (P.globals[g]?).map (·.type) = some t) (ht : P.underlying t = some (.array m e)) (he : P.underlying e = some (.int k)) (hce : P.cellsOf e = 1) (hct : P.cellsOf t = m) : Lib.TabIs P w n k zs := by
 obtain ⟨g', t', cs, fuel, p, h1, h2, h3, h4⟩ := h
 obtain rfl := Option.some.inj (hg.symm.trans h1)
 obtain rfl := Option.some.inj (hty.symm.trans h2)
 unfold Lib.TabIs
 rw [h3, ← Lib.cells_of_tab ht he hce hct h4]
theorem OneLaid.iface {n s : String} {x : DataW Unit} {g t : Nat} {ms : Array (String × TypeId)} (h : OneLaid P w n (.iface s x)) (hg : P.globalNamed n = some g) (hty : (P.globals[g]?).map (·.type) = some t) (ht : P.underlying t = some (.interface ms)) : ∃ tp p, w.var? P n = some #[.iface tp p] := by
 obtain ⟨g', t', cs, fuel, p, h1, h2, h3, h4⟩ := h
 obtain rfl := Option.some.inj (hg.symm.trans h1)
 obtain rfl := Option.some.inj (hty.symm.trans h2)
 cases fuel with
 | zero => simp [DataW.trod] at h4
 | succ fuel =>
   unfold DataW.trod at h4
   rw [ht] at h4
   split at h4 <;> simp_all
   rename_i u v _ hcs
   exact ⟨u, v, Array.ext' hcs⟩
end
theorem laid_out : laidOutB Tryz.prog = true := by kernel_rfl
theorem own_godebug : ownKnob Tryz.prog.godebug = none := by kernel_rfl
def litOf {H : Type} : DataW H → List Value
 | .lit (.int k n) => [Value.int k n]
 | .agg ds => ds.map fun d => match d with | .lit (.int k n) => Value.int k n | _ => undef
 | _ => [undef]
def litsOf {H : Type} : DataW H → List Value
 | .agg ds => ds.flatMap litOf
 | _ => []
/-- Every package-level variable has its block. -/
theorem room_of {W : World} (h : W.ShapedOpen Tryz.prog) : GB ≤ W.heap.size := by
 have hr : (((begin Tryz.prog (fun _ _ => 0) default).world.heap[GB - 1]?).bind Obj.row?).isSome = true := by kernel_rfl
 cases hq : ((begin Tryz.prog (fun _ _ => 0) default).world.heap[GB - 1]?).bind Obj.row? with
 | none => rw [hq] at hr; cases hr
 | some x =>
   obtain ⟨zero, t⟩ := x
   obtain ⟨cs, hc, _⟩ := h.1 (GB - 1) zero t (by rw [show Tryz.prog.globals.size = GB from by kernel_rfl]; decide) hq
   have := (Array.getElem?_eq_some_iff.1 hc).1
   unfold GB at *
   omega
end Go.Proofs.YthlfmbbaomdciaaGreatDoor
set_option maxHeartbeats 4000000
set_option maxRecDepth 4000
namespace Go.Proofs.YthlfmbbaomdciaaGreatDoor
open Go Go.RowKit
attribute [local irreducible] JL JC JQ JO LO PO JA JX Ct
theorem run_ov {tS tR : TypeId} {f : FuncId} {fn : Func} {P : Program} (hf : P.funcs[f]? = some fn) (hname : (fn.name == "runtime.NumGoroutine") = false) (hb : fn.body.isNone = true) (hn : Extern.findNext fn = none)
   (he : Extern.find fn = some (Extern.SlicesOverlaps.overlaps #[tS, tS] #[tR])) : ∀ args w, (callFunc f args).run P w = ((Extern.SlicesOverlaps.overlaps #[tS, tS] #[tR] args).run P w).andThen fun v w' => .ok (.value v) w' :=
 fun args w => run_callFunc_extern hf hname hb hn he args w

theorem C_cloneC (a : Option Addr) (c : Nat) (s : List Cell) (hn : s.length ≤ 1000000000000) :
   Ct Tryz.prog 194 [.slice a s.length c] [] (fun w_ => Sees w_ (.slice a s.length c) 2 s.length (s.flatMap encC)) (fun v A' => ∃ a' c', v = .slice a' s.length c' ∧ A' = [.row (.slice a' s.length c') 130 2 s.length (s.flatMap encC)]) := by
 refine Ct.intro Tryz.func194 rfl Tryz.ntmps194 (lb rfl) fun w0 hpre => ?_
 have hs_a : Sees w0 _ _ _ _ := hpre
 refine go ?_
 refine kF rfl (PO.eqNil kK rfl rfl) ?_
 refine go ?_
 rcases Bool.eq_false_or_eq_true (a.isNone) with h_1 | h_1
 · refine go ?_
   refine JQ.nilrow 130 2 ?_
   refine jE (.inl rfl) rfl (jC (v := .slice none 0 0) rfl) (List.Sublist.refl _) ?_
   have ha : a = none := by simpa using h_1
   have hz : s.length = 0 := sees_none (ha ▸ hpre)
   have hs0 : s = [] := List.length_eq_zero_iff.1 hz
   subst hs0
   exact ⟨none, 0, rfl, rfl⟩
 refine go ?_
 refine jF rfl (jR (ps := []) (cur := #[]) kK kP kq rfl (by kernel_rfl) (by decide) (by decide)) ?_
 rintro _ _ ⟨a_2, rfl, rfl⟩
 refine go ?_
 refine jF rfl (jX 0 (q := s.length) (news := s.flatMap encC) (n' := s.length) (cs' := s.flatMap encC) rfl kK kK ko rfl (by' := 32) rfl rfl rfl rfl rfl (fun w hw => Src.sees (hw.seeOut_ hs_a nM) (oneC _)) (by (try simp only [LE]); omega) (by (try simp only [LE]); omega) (by (try simp only [List.length_take, List.length_drop]); first | rfl | omega) rfl) ?_
 rintro _ _ ⟨a_3, c_4, rfl, rfl⟩
 refine go ?_
 refine jE (.inl rfl) rfl (jC (v := .slice a_3 s.length c_4) rfl) (List.Sublist.refl _) ?_
 exact ⟨_, _, rfl, rfl⟩

theorem C_idxC (fp : FuncId) (hcf : ∀ args w, (callFunc fp args).run Tryz.prog w = .ok (.enter fp args) w) (kb : Nat) (key : Str) (p : Cell → Bool) (hp : ∀ x : Cell, Ct Tryz.prog fp [.agg #[str x.1, str x.2], .pointer (some ⟨kb, 0, none⟩)] [bk kb 9 [str key]] (fun _ => True) (fun v A' => v = .bool (p x) ∧ A' = [bk kb 9 [str key]])) (a : Option Addr) (c : Nat) (s : List Cell) (hn : s.length ≤ 1000000000000) :
   Ct Tryz.prog 286 [.slice a s.length c, .func (.func fp) #[] #[.pointer (some ⟨kb, 0, none⟩)]] [bk kb 9 [str key]] (fun w_ => Sees w_ (.slice a s.length c) 2 s.length (s.flatMap encC) ∧ (∀ b, (Value.slice a s.length c).ownBlock = some b → b ≠ kb)) (fun v A' => v = .int .i64 (idxI p s) ∧ A' = [bk kb 9 [str key]]) := by
 refine Ct.intro Tryz.func286 rfl Tryz.ntmps286 (lb rfl) fun w0 hpre => ?_
 have hs_a : Sees w0 _ _ _ _ := hpre.1
 refine go ?_
 refine jL (fun k_ e_ L_ => ∃ j : Nat, (j ≤ s.length) ∧ (∀ i, i < j → p (s.getD i c0) = false) ∧ EL e_ [(0, .slice a s.length c), (1, .func (.func fp) #[] #[.pointer (some ⟨kb, 0, none⟩)]), (7, nv s.length), (8, nv j)] ∧ L_ = [bk kb 9 [str key]] ∧ k_ = s.length - j) _ ⟨0, by omega, (fun i hi => absurd hi (Nat.not_lt_zero i)), EL.go, rfl, rfl⟩ ?_
 rintro _ _ _ ⟨j, hj, hN, ⟨_, rfl⟩, rfl, rfl⟩
 refine go ?_
 by_cases h_1 : ((j : Nat) : Int) < ((s.length : Nat) : Int)
 · have hlt : j < s.length := by omega
   refine go ?_
   obtain ⟨hr_2, hr_2b, -⟩ := sees_some hs_a (by omega)
   refine go ?_
   refine JL.ld rfl (jj (vs := [str ((s.getD j c0).1), str ((s.getD j c0).2)]) hs_a (notin_bk hpre.2) rfl Tryz.isAgg130 kP (atC (by omega)) rfl (by decide)) ?_
   refine jF rfl (JO.callV [0] hcf rfl (hp (s.getD j c0)) rfl rfl (fun _ _ => trivial)) ?_
   rintro _ _ ⟨_, ⟨rfl, rfl⟩, rfl⟩
   refine go ?_
   rcases Bool.eq_false_or_eq_true (p (s.getD j c0)) with h_3 | h_3
   · have hpj := h_3
     refine go ?_
     refine jE (.inl rfl) rfl (jC (v := nv j) rfl) (List.Sublist.refl _) ?_
     refine ⟨?_, rfl⟩
     rw [idxI_found c0 hlt hN hpj]
   have hpj := h_3
   refine go ?_
   refine jV (s.length - (j + 1)) (by omega) ⟨j + 1, by omega, (fun i hi => if h : i = j then h ▸ hpj else hN i (by omega)), EL.go, rfl, rfl⟩
 refine go ?_
 refine jE (.inl rfl) rfl (jC (v := iv (-1)) rfl) (List.Sublist.refl _) ?_
 refine ⟨?_, rfl⟩
 rw [idxI_none c0 (by omega) hN]

theorem C_insC (a va : Option Addr) (c : Nat) (s : List Cell) (i : Nat) (x : Cell) (hi : i ≤ s.length) (hn : s.length ≤ 1000000000000) (hcl : (s.flatMap encC).length = s.length * 2) :
   Ct Tryz.prog 288 [.slice a s.length c, .int .i64 ((i : Nat) : Int), .slice va 1 1] [Res.row (.slice a s.length c) 130 2 s.length (s.flatMap encC), Res.row (.slice va 1 1) 130 2 1 ([x].flatMap encC)] (fun _ => True) (fun v A' => ∃ a' c', v = .slice a' (insertAt i x s).length c' ∧ A' = [.row (.slice a' (insertAt i x s).length c') 130 2 (insertAt i x s).length ((insertAt i x s).flatMap encC)]) := by
 refine Ct.intro Tryz.func288 rfl Tryz.ntmps288 (lb rfl) fun w0 hpre => ?_
 refine go ?_
 refine jo fun hst => ?_
 obtain ⟨hf_1m, hf_1x, hf_1s, hf_1l⟩ := fits_of hst (i := 0) rfl
 refine kF rfl (PO.sliceVl (i := i) kK kP hf_1s rfl rfl (by omega)) ?_
 refine go ?_
 by_cases h_2 : ((1 : Nat) : Int) = 0
 · exfalso; omega
 refine go ?_
 by_cases h_3 : ((i : Nat) : Int) = ((s.length : Nat) : Int)
 · refine go ?_
   refine jF rfl (jX 0 (q := 1) (news := [x].flatMap encC) (n' := (s ++ [x]).length) (cs' := (s ++ [x]).flatMap encC) rfl kK kK ko rfl (by' := 32) rfl rfl rfl rfl rfl (fun w hw => Src.sees (hw.see (i := 1) rfl) (oneC _)) (by (try simp only [LE]); omega) (by (try simp only [LE]); omega) (by simp only [List.length_append, List.length_take, List.length_drop, List.length_cons, List.length_nil] <;> first | rfl | omega) (by simp only [List.flatMap_append])) ?_
   rintro _ _ ⟨a_4, c_5, rfl, rfl⟩
   refine go ?_
   refine jE (.inl rfl) rfl (jC (v := .slice a_4 ((s ++ [x]).length) c_5) rfl) (sL [Res.row (.slice a_4 ((s ++ [x]).length) c_5) 130 2 ((s ++ [x]).length) ((s ++ [x]).flatMap encC)] [Res.row (.slice va 1 1) 130 2 1 ([x].flatMap encC)]) ?_
   have hin : i = s.length := by omega
   exact ⟨_, _, by rw [ins_end hin], by rw [ins_end hin]⟩
 refine go ?_
 refine kF rfl (PO.capV kK rfl) ?_
 refine go ?_
 by_cases h_6 : ((c : Nat) : Int) < ((s.length + 1 : Nat) : Int)
 · refine go ?_
   refine kF rfl (PO.sliceVh (j := i) kK kP hf_1s rfl rfl (by omega)) ?_
   refine go ?_
   refine kF rfl (jg (c := ((s.length + 1 - i : Nat) : Int)) rfl rfl (wr (by omega))) ?_
   refine jF rfl (JO.appendMake' 0 (i := i) (r := s.length + 1 - i) (by' := 32) (n' := s.length + 1) rfl kK kW ko rfl (by decide) rfl rfl rfl rfl rfl (by omega) (by omega) (by omega) (by omega) (by decide) (by omega)) ?_
   rintro _ _ ⟨a_7, c_8, zs_9, rfl, hzs_9c, hzs_9, rfl⟩
   refine go ?_
   refine jo fun hst => ?_
   obtain ⟨hf_10m, hf_10x, hf_10s, hf_10l⟩ := fits_of hst (i := 0) rfl
   refine kF rfl (PO.sliceVl (i := i) kK kP hf_10s rfl rfl (by omega)) ?_
   refine go ?_
   refine jF rfl (JO.copy 0 (k := 2) (lo := i) (q := 1) (news := [str x.1, str x.2]) (cs' := ((s.flatMap encC).take (i * 2) ++ zs_9).take (i * 2) ++ [str x.1, str x.2] ++ ((s.flatMap encC).take (i * 2) ++ zs_9).drop (i * 2 + [str x.1, str x.2].length)) rfl kK kP rfl rfl (by show min _ _ = _; omega) (by omega) (by omega) (by decide) (by omega) (fun w hw => Fst.sees (hw.see (i := 2) rfl) (Nat.le_refl _)) rfl (oneC [x]) (rfl)) ?_
   rintro _ _ rfl
   refine go ?_
   refine jH [] 0 ?_
   refine go ?_
   refine JA.takeP 4 rfl (by kernel_rfl) (NP.th (NP.th NP.body)) (by kernel_rfl) (by kernel_rfl) rfl (PO.sliceVl (i := (i + 1)) kK kP hf_10s rfl rfl (by omega)) ?_
   refine go ?_
   refine JA.takeP 7 rfl (by kernel_rfl) (NP.th (NP.th NP.body)) (by kernel_rfl) (by kernel_rfl) rfl (PO.sliceVl (i := i) kK kP hf_1s rfl rfl (by omega)) ?_
   refine jB (i := 8) ?_
   refine JX.last rfl rfl (by decide) (by kernel_rfl) (JO.copy 0 (k := 2) (lo := (i + 1)) (q := s.length - i) (news := (s.flatMap encC).drop (i * 2)) (cs' := (insertAt i x s).flatMap encC) rfl kK kP rfl rfl (by show min _ _ = _; omega) (by omega) (by omega) (by decide) (by omega) (fun w hw => Fst.mid (hw.see (i := 1) rfl) (by omega) (by omega) (tail1 hcl)) (by rw [List.length_drop, hcl]; omega) (fun u hu => oneC s u (List.mem_of_mem_drop hu)) ((by rw [show (i + 1) * 2 = i * 2 + 2 by omega]; exact (ins_grow (k := 2) (by rw [hcl]; omega) (by rw [hcl]; omega) rfl).trans insC))) ?_
   rintro _ _ rfl
   refine go ?_
   refine jE (.inl rfl) rfl (jC (v := .slice a_7 (s.length + 1) c_8) rfl) (sL [Res.row (.slice a_7 (s.length + 1) c_8) 130 2 (s.length + 1) ((insertAt i x s).flatMap encC)] [Res.row (.slice a s.length c) 130 2 s.length (s.flatMap encC), Res.row (.slice va 1 1) 130 2 1 ([x].flatMap encC)]) ?_
   exact ⟨_, _, by rw [insertAt_length i x s hi], by rw [insertAt_length i x s hi]⟩
 refine go ?_
 refine kF rfl (PO.sliceVh (j := (s.length + 1)) kK kP hf_1s rfl rfl (by omega)) ?_
 refine gQ ?_
 refine jb <| jT <| jc <| jc ?_
 refine JC.widen 0 1 (m := s.length) rfl (by omega) fun zs_11 hzs_11 => ?_
 refine go ?_
 refine kF rfl (PO.sliceVl (i := (i + 1)) kK kP hf_1s rfl rfl (by omega)) ?_
 refine jF rfl (JO.overlaps 1 0 (by decide) (k := 2) (lo := i + 1) rfl rfl (run_ov (tS := 24) (tR := 4) Tryz.func343 (by kernel_rfl) (by kernel_rfl) (by kernel_rfl) (by kernel_rfl)) kK kP rfl rfl (by decide) (by omega) (by decide) (by decide)) ?_
 rintro _ _ ⟨rfl, rfl⟩
 refine go ?_
 refine jH [] 0 ?_
 refine go ?_
 refine JA.takeP 4 rfl (by kernel_rfl) (NP.th (NP.th NP.body)) (by kernel_rfl) (by kernel_rfl) rfl (PO.sliceVl (i := (i + 1)) kK kP hf_1s rfl rfl (by omega)) ?_
 refine go ?_
 refine JA.takeP 7 rfl (by kernel_rfl) (NP.th (NP.th NP.body)) (by kernel_rfl) (by kernel_rfl) rfl (PO.sliceVl (i := i) kK kP hf_1s rfl rfl (by omega)) ?_
 refine jB (i := 8) ?_
 refine JX.last rfl rfl (by decide) (by kernel_rfl) (JO.copy 0 (k := 2) (lo := (i + 1)) (q := s.length - i) (news := (s.flatMap encC).drop (i * 2)) (cs' := ((s.flatMap encC ++ zs_11)).take (i * 2 + 2) ++ (s.flatMap encC).drop (i * 2) ++ ((s.flatMap encC ++ zs_11)).drop (i * 2 + 2 + ((s.flatMap encC).drop (i * 2)).length)) rfl kK kP rfl rfl (by show min _ _ = _; omega) (by omega) (by omega) (by decide) (by omega) (fun w hw => Fst.mid (hw.see (i := 0) rfl) (by omega) (by omega) (tail2 hcl hi)) (by rw [List.length_drop, hcl]; omega) (fun u hu => oneC s u (List.mem_of_mem_drop hu)) ((by rw [show (i + 1) * 2 = i * 2 + 2 by omega]))) ?_
 rintro _ _ rfl
 refine go ?_
 refine kF rfl (PO.sliceVl (i := i) kK kP hf_1s rfl rfl (by omega)) ?_
 refine go ?_
 refine jF rfl (JO.copy 0 (k := 2) (lo := i) (q := 1) (news := [str x.1, str x.2]) (cs' := (insertAt i x s).flatMap encC) rfl kK kP rfl rfl (by show min _ _ = _; omega) (by omega) (by omega) (by decide) (by omega) (fun w hw => Fst.sees (hw.see (i := 1) rfl) (Nat.le_refl _)) rfl (oneC [x]) ((ins_room (k := 2) (by rw [hcl]; omega) (by omega) rfl).trans insC)) ?_
 rintro _ _ rfl
 refine go ?_
 refine jE (.inl rfl) rfl (jC (v := .slice a (s.length + 1) c) rfl) (sL [Res.row (.slice a (s.length + 1) c) 130 2 (s.length + 1) ((insertAt i x s).flatMap encC)] [Res.row (.slice va 1 1) 130 2 1 ([x].flatMap encC)]) ?_
 exact ⟨_, _, by rw [insertAt_length i x s hi], by rw [insertAt_length i x s hi]⟩

theorem C_delC (fp : FuncId) (hcf : ∀ args w, (callFunc fp args).run Tryz.prog w = .ok (.enter fp args) w) (kb : Nat) (key : Str) (p : Cell → Bool) (hp : ∀ x : Cell, Ct Tryz.prog fp [.agg #[str x.1, str x.2], .pointer (some ⟨kb, 0, none⟩)] [bk kb 9 [str key]] (fun _ => True) (fun v A' => v = .bool (p x) ∧ A' = [bk kb 9 [str key]])) (a : Option Addr) (c : Nat) (s : List Cell) (hn : s.length ≤ 1000000000000) :
   Ct Tryz.prog 284 [.slice a s.length c, .func (.func fp) #[] #[.pointer (some ⟨kb, 0, none⟩)]] [bk kb 9 [str key], Res.row (.slice a s.length c) 130 2 s.length (s.flatMap encC)] (fun _ => True) (fun v A' => ∃ a' c', v = .slice a' (s.filter (fun c => !p c)).length c' ∧ A' = [bk kb 9 [str key], .row (.slice a' (s.filter (fun c => !p c)).length c') 130 2 (s.filter (fun c => !p c)).length ((s.filter (fun c => !p c)).flatMap encC)]) := by
 refine Ct.intro Tryz.func284 rfl Tryz.ntmps284 (lb rfl) fun w0 hpre => ?_
 refine go ?_
 refine jN [0] (C_idxC fp hcf kb key p hp a c s (by omega)) (hpre := fun w hw => ⟨hw.see (i := 1) rfl, hw.apartO 1 0 rfl rfl rfl⟩) ?_
 have hix0 := idxI_lo p s
 have hfl0 := findAt_le p s
 refine go ?_
 by_cases h_1 : (idxI p s) = (-1)
 · have hfe : findAt p s = s.length := by omega
   refine go ?_
   refine jE (.inl rfl) rfl (jC (v := .slice a s.length c) rfl) (List.Sublist.refl _) ?_
   exact ⟨_, _, by rw [del_none hfe], by rw [del_none hfe]; rfl⟩
 have hfl : findAt p s < s.length := by omega
 have hie : idxI p s = ((findAt p s : Nat) : Int) := by omega
 first | refine kA 5 (v := iv ((findAt p s : Nat) : Int)) (congrArg (Value.int .i64) hie) ?_ | refine jv 5 (v := iv ((findAt p s : Nat) : Int)) (congrArg (Value.int .i64) hie) ?_ | refine kB 5 (v := iv ((findAt p s : Nat) : Int)) (congrArg (Value.int .i64) hie) ?_ | refine kC 5 (v := iv ((findAt p s : Nat) : Int)) (congrArg (Value.int .i64) hie) ?_
 refine go ?_
 refine jL (fun k_ e_ L_ => ∃ i : Nat, ∃ j : Nat, ∃ X : List Cell, (j ≤ s.length) ∧ (i < j) ∧ (X.length = s.length) ∧ (X.take i = (s.take j).filter (fun c => !p c)) ∧ (X.drop j = s.drop j) ∧ EL e_ [(0, .slice a s.length c), (1, .func (.func fp) #[] #[.pointer (some ⟨kb, 0, none⟩)]), (4, .slice none 0 0), (5, nv i), (6, nv j)] ∧ L_ = [bk kb 9 [str key], Res.row (.slice a s.length c) 130 2 s.length (X.flatMap encC)] ∧ k_ = s.length - j) _ ⟨findAt p s, (findAt p s + 1), s, by omega, by omega, rfl, (del_start hfl), rfl, EL.go, rfl, rfl⟩ ?_
 rintro _ _ _ ⟨i, j, X, hj, hij, hX, hXi, hXj, ⟨_, rfl⟩, rfl, rfl⟩
 refine go ?_
 by_cases h_2 : ((j : Nat) : Int) < ((s.length : Nat) : Int)
 · have hlt : j < s.length := by omega
   refine go ?_
   refine jo fun hst => ?_
   obtain ⟨hr_3, hr_3b, -⟩ := row_some 1 rfl (by omega) hst
   refine go ?_
   refine JL.ld rfl (LO.loadRK 1 (vs := [str ((X.getD j c0).1), str ((X.getD j c0).2)]) rfl rfl Tryz.isAgg130 kP (atC (by omega)) rfl (by decide)) ?_
   refine jG [str [], str []] fun b_4 => ?_
   refine jD 0 [str ((X.getD j c0).1), str ((X.getD j c0).2)] ?_
   refine go ?_
   refine jF rfl (JO.callV [1] hcf rfl (hp (X.getD j c0)) rfl rfl (fun _ _ => trivial)) ?_
   rintro _ _ ⟨_, ⟨rfl, rfl⟩, rfl⟩
   refine go ?_
   rcases Bool.eq_false_or_eq_true (p (X.getD j c0)) with h_5 | h_5
   · have hpj := h_5
     refine go ?_
     exact jP [0, 1] ⟨i, j + 1, X, by omega, by omega, hX, (del_skip c0 hXj hlt hpj hXi), (drop_more hXj), EL.go, rfl, rfl⟩
   have hpj := h_5
   refine go ?_
   refine jF rfl (jx 2 (vs := [str ((X.getD j c0).1), str ((X.getD j c0).2)]) (cs' := (X.set i ((X.getD j c0).1, (X.getD j c0).2)).flatMap encC) rfl rfl rfl rfl kP rfl rfl (by decide) (by rw [lenC]; omega) (setC (by omega))) ?_
   rintro _ _ rfl
   refine go ?_
   exact jP [0, 1] ⟨i + 1, j + 1, X.set i (X.getD j c0), by omega, by omega, (by rw [List.length_set]; exact hX), (del_keep c0 hXj hlt hX hij hpj hXi), (del_keepD hXj hij _), EL.go, rfl, rfl⟩
 refine go ?_
 refine jo fun hst => ?_
 obtain ⟨hf_6m, hf_6x, hf_6s, hf_6l⟩ := fits_of hst (i := 1) rfl
 refine kF rfl (PO.sliceVl (i := i) kK kP hf_6s rfl rfl (by omega)) ?_
 refine jF rfl (JO.clear 1 (k := 2) (lo := i) (z := .agg #[str [], str []]) rfl kK kq rfl (by decide) rfl (by decide) (by omega) (by omega)) ?_
 rintro _ _ ⟨zs_7, hzs_7, rfl⟩
 refine jb <| jT <| jc <| JC.narrow 1 i (cs' := (s.filter (fun c => !p c)).flatMap encC) rfl (by omega) (by rw [takeC (by omega), del_done (by omega) hXi]) ?_
 refine go ?_
 refine kF rfl (PO.sliceVh (j := i) kK kP hf_6s rfl rfl (by omega)) ?_
 refine go ?_
 refine jE (.inl rfl) rfl (jC (v := .slice a i c) rfl) (List.Sublist.refl _) ?_
 have hln := del_len hX (by omega) (del_done (by omega) hXi)
 exact ⟨_, _, by rw [hln], by rw [hln]; rfl⟩

theorem C_cloneS (a : Option Addr) (c : Nat) (s : List Str) (hn : s.length ≤ 1000000000000) :
   Ct Tryz.prog 199 [.slice a s.length c] [] (fun w_ => Sees w_ (.slice a s.length c) 1 s.length (s.map str)) (fun v A' => ∃ a' c', v = .slice a' s.length c' ∧ A' = [.row (.slice a' s.length c') 9 1 s.length (s.map str)]) := by
 refine Ct.intro Tryz.func199 rfl Tryz.ntmps199 (lb rfl) fun w0 hpre => ?_
 have hs_a : Sees w0 _ _ _ _ := hpre
 refine go ?_
 refine kF rfl (PO.eqNil kI rfl rfl) ?_
 refine go ?_
 rcases Bool.eq_false_or_eq_true (a.isNone) with h_1 | h_1
 · refine go ?_
   refine JQ.nilrow 9 1 ?_
   refine jE (.inl rfl) rfl (jC (v := .slice none 0 0) rfl) (List.Sublist.refl _) ?_
   have ha : a = none := by simpa using h_1
   have hz : s.length = 0 := sees_none (ha ▸ hpre)
   have hs0 : s = [] := List.length_eq_zero_iff.1 hz
   subst hs0
   exact ⟨none, 0, rfl, rfl⟩
 refine go ?_
 refine jF rfl (jR (ps := []) (cur := #[]) kI kM kV rfl (by kernel_rfl) (by decide) (by decide)) ?_
 rintro _ _ ⟨a_2, rfl, rfl⟩
 refine go ?_
 refine jF rfl (jX 0 (q := s.length) (news := s.map str) (n' := s.length) (cs' := s.map str) rfl kI kI kd rfl (by' := 16) rfl rfl rfl rfl rfl (fun w hw => Src.sees (hw.seeOut_ hs_a nM) (oneS _)) (by (try simp only [LE]); omega) (by (try simp only [LE]); omega) (by (try simp only [List.length_take, List.length_drop]); first | rfl | omega) rfl) ?_
 rintro _ _ ⟨a_3, c_4, rfl, rfl⟩
 refine go ?_
 refine jE (.inl rfl) rfl (jC (v := .slice a_3 s.length c_4) rfl) (List.Sublist.refl _) ?_
 exact ⟨_, _, rfl, rfl⟩

theorem C_idxS (fp : FuncId) (hcf : ∀ args w, (callFunc fp args).run Tryz.prog w = .ok (.enter fp args) w) (kb : Nat) (key : Str) (p : Str → Bool) (hp : ∀ x : Str, Ct Tryz.prog fp [str x, .pointer (some ⟨kb, 0, none⟩)] [bk kb 9 [str key]] (fun _ => True) (fun v A' => v = .bool (p x) ∧ A' = [bk kb 9 [str key]])) (a : Option Addr) (c : Nat) (s : List Str) (hn : s.length ≤ 1000000000000) :
   Ct Tryz.prog 277 [.slice a s.length c, .func (.func fp) #[] #[.pointer (some ⟨kb, 0, none⟩)]] [bk kb 9 [str key]] (fun w_ => Sees w_ (.slice a s.length c) 1 s.length (s.map str) ∧ (∀ b, (Value.slice a s.length c).ownBlock = some b → b ≠ kb)) (fun v A' => v = .int .i64 (idxI p s) ∧ A' = [bk kb 9 [str key]]) := by
 refine Ct.intro Tryz.func277 rfl Tryz.ntmps277 (lb rfl) fun w0 hpre => ?_
 have hs_a : Sees w0 _ _ _ _ := hpre.1
 refine go ?_
 refine jL (fun k_ e_ L_ => ∃ j : Nat, (j ≤ s.length) ∧ (∀ i, i < j → p (s.getD i []) = false) ∧ EL e_ [(0, .slice a s.length c), (1, .func (.func fp) #[] #[.pointer (some ⟨kb, 0, none⟩)]), (7, nv s.length), (8, nv j)] ∧ L_ = [bk kb 9 [str key]] ∧ k_ = s.length - j) _ ⟨0, by omega, (fun i hi => absurd hi (Nat.not_lt_zero i)), EL.go, rfl, rfl⟩ ?_
 rintro _ _ _ ⟨j, hj, hN, ⟨_, rfl⟩, rfl, rfl⟩
 refine go ?_
 by_cases h_1 : ((j : Nat) : Int) < ((s.length : Nat) : Int)
 · have hlt : j < s.length := by omega
   refine go ?_
   obtain ⟨hr_2, hr_2b, -⟩ := sees_some hs_a (by omega)
   refine go ?_
   refine JL.ld rfl (jY (v := str (s.getD j [])) hs_a (notin_bk hpre.2) rfl kJ (atS (by omega))) ?_
   refine jF rfl (JO.callV [0] hcf rfl (hp (s.getD j [])) rfl rfl (fun _ _ => trivial)) ?_
   rintro _ _ ⟨_, ⟨rfl, rfl⟩, rfl⟩
   refine go ?_
   rcases Bool.eq_false_or_eq_true (p (s.getD j [])) with h_3 | h_3
   · have hpj := h_3
     refine go ?_
     refine jE (.inl rfl) rfl (jC (v := nv j) rfl) (List.Sublist.refl _) ?_
     refine ⟨?_, rfl⟩
     rw [idxI_found [] hlt hN hpj]
   have hpj := h_3
   refine go ?_
   refine jV (s.length - (j + 1)) (by omega) ⟨j + 1, by omega, (fun i hi => if h : i = j then h ▸ hpj else hN i (by omega)), EL.go, rfl, rfl⟩
 refine go ?_
 refine jE (.inl rfl) rfl (jC (v := iv (-1)) rfl) (List.Sublist.refl _) ?_
 refine ⟨?_, rfl⟩
 rw [idxI_none [] (by omega) hN]

theorem C_insS (a va : Option Addr) (c : Nat) (s : List Str) (i : Nat) (x : Str) (hi : i ≤ s.length) (hn : s.length ≤ 1000000000000) (hcl : (s.map str).length = s.length * 1) :
   Ct Tryz.prog 279 [.slice a s.length c, .int .i64 ((i : Nat) : Int), .slice va 1 1] [Res.row (.slice a s.length c) 9 1 s.length (s.map str), Res.row (.slice va 1 1) 9 1 1 ([x].map str)] (fun _ => True) (fun v A' => ∃ a' c', v = .slice a' (insertAt i x s).length c' ∧ A' = [.row (.slice a' (insertAt i x s).length c') 9 1 (insertAt i x s).length ((insertAt i x s).map str)]) := by
 refine Ct.intro Tryz.func279 rfl Tryz.ntmps279 (lb rfl) fun w0 hpre => ?_
 refine go ?_
 refine jo fun hst => ?_
 obtain ⟨hf_1m, hf_1x, hf_1s, hf_1l⟩ := fits_of hst (i := 0) rfl
 refine kF rfl (PO.sliceVl (i := i) kI kM hf_1s rfl rfl (by omega)) ?_
 refine go ?_
 by_cases h_2 : ((1 : Nat) : Int) = 0
 · exfalso; omega
 refine go ?_
 by_cases h_3 : ((i : Nat) : Int) = ((s.length : Nat) : Int)
 · refine go ?_
   refine jF rfl (jX 0 (q := 1) (news := [x].map str) (n' := (s ++ [x]).length) (cs' := (s ++ [x]).map str) rfl kI kI kd rfl (by' := 16) rfl rfl rfl rfl rfl (fun w hw => Src.sees (hw.see (i := 1) rfl) (oneS _)) (by (try simp only [LE]); omega) (by (try simp only [LE]); omega) (by simp only [List.length_append, List.length_take, List.length_drop, List.length_cons, List.length_nil] <;> first | rfl | omega) (by simp only [List.map_append])) ?_
   rintro _ _ ⟨a_4, c_5, rfl, rfl⟩
   refine go ?_
   refine jE (.inl rfl) rfl (jC (v := .slice a_4 ((s ++ [x]).length) c_5) rfl) (sL [Res.row (.slice a_4 ((s ++ [x]).length) c_5) 9 1 ((s ++ [x]).length) ((s ++ [x]).map str)] [Res.row (.slice va 1 1) 9 1 1 ([x].map str)]) ?_
   have hin : i = s.length := by omega
   exact ⟨_, _, by rw [ins_end hin], by rw [ins_end hin]⟩
 refine go ?_
 refine kF rfl (PO.capV kI rfl) ?_
 refine go ?_
 by_cases h_6 : ((c : Nat) : Int) < ((s.length + 1 : Nat) : Int)
 · refine go ?_
   refine kF rfl (PO.sliceVh (j := i) kI kM hf_1s rfl rfl (by omega)) ?_
   refine go ?_
   refine kF rfl (jg (c := ((s.length + 1 - i : Nat) : Int)) rfl rfl (wr (by omega))) ?_
   refine jF rfl (JO.appendMake' 0 (i := i) (r := s.length + 1 - i) (by' := 16) (n' := s.length + 1) rfl kI kW kd rfl (by decide) rfl rfl rfl rfl rfl (by omega) (by omega) (by omega) (by omega) (by decide) (by omega)) ?_
   rintro _ _ ⟨a_7, c_8, zs_9, rfl, hzs_9c, hzs_9, rfl⟩
   refine go ?_
   refine jo fun hst => ?_
   obtain ⟨hf_10m, hf_10x, hf_10s, hf_10l⟩ := fits_of hst (i := 0) rfl
   refine kF rfl (PO.sliceVl (i := i) kI kM hf_10s rfl rfl (by omega)) ?_
   refine go ?_
   refine jF rfl (JO.copy 0 (k := 1) (lo := i) (q := 1) (news := [str x]) (cs' := ((s.map str).take (i * 1) ++ zs_9).take (i * 1) ++ [str x] ++ ((s.map str).take (i * 1) ++ zs_9).drop (i * 1 + [str x].length)) rfl kI kM rfl rfl (by show min _ _ = _; omega) (by omega) (by omega) (by decide) (by omega) (fun w hw => Fst.sees (hw.see (i := 2) rfl) (Nat.le_refl _)) rfl (oneS [x]) (rfl)) ?_
   rintro _ _ rfl
   refine go ?_
   refine jH [] 0 ?_
   refine go ?_
   refine JA.takeP 4 rfl (by kernel_rfl) (NP.th (NP.th NP.body)) (by kernel_rfl) (by kernel_rfl) rfl (PO.sliceVl (i := (i + 1)) kI kM hf_10s rfl rfl (by omega)) ?_
   refine go ?_
   refine JA.takeP 7 rfl (by kernel_rfl) (NP.th (NP.th NP.body)) (by kernel_rfl) (by kernel_rfl) rfl (PO.sliceVl (i := i) kI kM hf_1s rfl rfl (by omega)) ?_
   refine jB (i := 8) ?_
   refine JX.last rfl rfl (by decide) (by kernel_rfl) (JO.copy 0 (k := 1) (lo := (i + 1)) (q := s.length - i) (news := (s.map str).drop (i * 1)) (cs' := (insertAt i x s).map str) rfl kI kM rfl rfl (by show min _ _ = _; omega) (by omega) (by omega) (by decide) (by omega) (fun w hw => Fst.mid (hw.see (i := 1) rfl) (by omega) (by omega) (tail1 hcl)) (by rw [List.length_drop, hcl]; omega) (fun u hu => oneS s u (List.mem_of_mem_drop hu)) ((by rw [show (i + 1) * 1 = i * 1 + 1 by omega]; exact (ins_grow (k := 1) (by rw [hcl]; omega) (by rw [hcl]; omega) rfl).trans insS))) ?_
   rintro _ _ rfl
   refine go ?_
   refine jE (.inl rfl) rfl (jC (v := .slice a_7 (s.length + 1) c_8) rfl) (sL [Res.row (.slice a_7 (s.length + 1) c_8) 9 1 (s.length + 1) ((insertAt i x s).map str)] [Res.row (.slice a s.length c) 9 1 s.length (s.map str), Res.row (.slice va 1 1) 9 1 1 ([x].map str)]) ?_
   exact ⟨_, _, by rw [insertAt_length i x s hi], by rw [insertAt_length i x s hi]⟩
 refine go ?_
 refine kF rfl (PO.sliceVh (j := (s.length + 1)) kI kM hf_1s rfl rfl (by omega)) ?_
 refine gQ ?_
 refine jb <| jT <| jc <| jc ?_
 refine JC.widen 0 1 (m := s.length) rfl (by omega) fun zs_11 hzs_11 => ?_
 refine go ?_
 refine kF rfl (PO.sliceVl (i := (i + 1)) kI kM hf_1s rfl rfl (by omega)) ?_
 refine jF rfl (JO.overlaps 1 0 (by decide) (k := 1) (lo := i + 1) rfl rfl (run_ov (tS := 30) (tR := 4) Tryz.func340 (by kernel_rfl) (by kernel_rfl) (by kernel_rfl) (by kernel_rfl)) kI kM rfl rfl (by decide) (by omega) (by decide) (by decide)) ?_
 rintro _ _ ⟨rfl, rfl⟩
 refine go ?_
 refine jH [] 0 ?_
 refine go ?_
 refine JA.takeP 4 rfl (by kernel_rfl) (NP.th (NP.th NP.body)) (by kernel_rfl) (by kernel_rfl) rfl (PO.sliceVl (i := (i + 1)) kI kM hf_1s rfl rfl (by omega)) ?_
 refine go ?_
 refine JA.takeP 7 rfl (by kernel_rfl) (NP.th (NP.th NP.body)) (by kernel_rfl) (by kernel_rfl) rfl (PO.sliceVl (i := i) kI kM hf_1s rfl rfl (by omega)) ?_
 refine jB (i := 8) ?_
 refine JX.last rfl rfl (by decide) (by kernel_rfl) (JO.copy 0 (k := 1) (lo := (i + 1)) (q := s.length - i) (news := (s.map str).drop (i * 1)) (cs' := ((s.map str ++ zs_11)).take (i * 1 + 1) ++ (s.map str).drop (i * 1) ++ ((s.map str ++ zs_11)).drop (i * 1 + 1 + ((s.map str).drop (i * 1)).length)) rfl kI kM rfl rfl (by show min _ _ = _; omega) (by omega) (by omega) (by decide) (by omega) (fun w hw => Fst.mid (hw.see (i := 0) rfl) (by omega) (by omega) (tail2 hcl hi)) (by rw [List.length_drop, hcl]; omega) (fun u hu => oneS s u (List.mem_of_mem_drop hu)) ((by rw [show (i + 1) * 1 = i * 1 + 1 by omega]))) ?_
 rintro _ _ rfl
 refine go ?_
 refine kF rfl (PO.sliceVl (i := i) kI kM hf_1s rfl rfl (by omega)) ?_
 refine go ?_
 refine jF rfl (JO.copy 0 (k := 1) (lo := i) (q := 1) (news := [str x]) (cs' := (insertAt i x s).map str) rfl kI kM rfl rfl (by show min _ _ = _; omega) (by omega) (by omega) (by decide) (by omega) (fun w hw => Fst.sees (hw.see (i := 1) rfl) (Nat.le_refl _)) rfl (oneS [x]) ((ins_room (k := 1) (by rw [hcl]; omega) (by omega) rfl).trans insS)) ?_
 rintro _ _ rfl
 refine go ?_
 refine jE (.inl rfl) rfl (jC (v := .slice a (s.length + 1) c) rfl) (sL [Res.row (.slice a (s.length + 1) c) 9 1 (s.length + 1) ((insertAt i x s).map str)] [Res.row (.slice va 1 1) 9 1 1 ([x].map str)]) ?_
 exact ⟨_, _, by rw [insertAt_length i x s hi], by rw [insertAt_length i x s hi]⟩
end Go.Proofs.YthlfmbbaomdciaaGreatDoor
namespace Go.Proofs.YthlfmbbaomdciaaGreatDoor
open Go Go.RowKit
@[reducible] def rC (a : Option Addr) (c : Nat) (s : List Cell) : Res := .row (.slice a s.length c) 130 2 s.length (s.flatMap encC)
@[reducible] def rS (a : Option Addr) (c : Nat) (l : List Str) : Res := .row (.slice a l.length c) 9 1 l.length (l.map str)
@[reducible] def rI (a : Option Addr) (c : Nat) (l : List Int) : Res := .row (.slice a l.length c) 3 1 l.length (l.map (Value.int .i64))

theorem Ct.weak {P : Program} {f : FuncId} {args : List Value} {A : List Res} {Pre Pre' : World → Prop} {Post Post' : Value → List Res → Prop} (h : Ct P f args A Pre Post) (hp : ∀ w, Pre' w → Pre w) (hq : ∀ v A', Post v A' → Post' v A') : Ct P f args A Pre' Post' :=
 fun w hA hw => (h w hA (hp w hw)).mono fun _ _ ⟨v, A', he, hv, hs⟩ => ⟨v, A', he, hq v A' hv, hs⟩

/-- A nil slice is a row that nobody owns a block for. -/
theorem St.nilRow {w0 w : World} {D : List Nat} {L : List Res} (hw : St w0 D L w) (t k : Nat) : St w0 D (.row (.slice none 0 0) t k 0 [] :: L) w := by
 have e : idsOf (.row (.slice none 0 0) t k 0 [] :: L) = idsOf L := by rw [idsOf_cons]; simp [Res.ids, Value.ownBlock]
 refine ⟨⟨fun r hr => ?_, by rw [e]; exact hw.nodup, by rw [e]; exact hw.low, hw.room, hw.glob⟩, hw.os, hw.tape, hw.output, hw.size, by rw [e]; exact hw.fresh, hw.keep⟩
 simp only [List.mem_cons] at hr
 rcases hr with rfl | hr
 · exact ⟨by simp, .inl ⟨rfl, rfl⟩⟩
 · exact hw.holds r hr
theorem JL.nilRow {P : Program} {ops : Array Oper} {Q : Exit → Act → World → Prop} {n : Nat} {w0 : World} {D : List Nat} {L : List Res} {e : Env} {l : List Oper} (t k : Nat) (h : JL P ops Q n w0 D (.row (.slice none 0 0) t k 0 [] :: L) l e) : JL P ops Q n w0 D L l e := fun w hw => h w (hw.nilRow t k)
theorem JC.nilRow {P : Program} {Q : Exit → Act → World → Prop} {n : Nat} {w0 : World} {D : List Nat} {L : List Res} {e : Env} {c : Code} (t k : Nat) (h : JC P Q n w0 D (.row (.slice none 0 0) t k 0 [] :: L) c e) : JC P Q n w0 D L c e := fun w hw => h w (hw.nilRow t k)

theorem JQ.nilRow {Q : Exit → Act → World → Prop} {x : Exit} {n : Nat} {w0 : World} {D : List Nat} {L : List Res} {e : Env} (t k : Nat) (h : JQ Q x n w0 D (.row (.slice none 0 0) t k 0 [] :: L) e) : JQ Q x n w0 D L e := fun w hw => h w (hw.nilRow t k)
theorem JA.nilRow {P : Program} {ops : Array Oper} {Q : Exit → Act → World → Prop} {n : Nat} {w0 : World} {D : List Nat} {L M : List Res} {e : Env} {z fuel : Nat} {listed : Array Bool} (t k : Nat) (h : JA P ops Q n w0 D M z fuel listed (.row (.slice none 0 0) t k 0 [] :: L) e) : JA P ops Q n w0 D M z fuel listed L e := fun w hw hq => h w (hw.nilRow t k) hq

section
variable {P : Program} {ops : Array Oper} {Q : Exit → Act → World → Prop} {n : Nat} {w0 : World} {D : List Nat} {L M : List Res} {e : Env} {z fuel : Nat} {listed : Array Bool}
/-- A guard that was itself not asked. -/
theorem JL.guardOffU {o : Oper} {rest : List Oper} {j : Nat} {b : Bool} {t : Tmp} (hg : o.guard = some (j, b)) (hj : (ops[j]?).bind (·.dst) = some t) (ht : Nat.blt t n = true) (hv : e t = undef)
   (h : JL P ops Q n w0 D L rest (updO e o.dst undef)) : JL P ops Q n w0 D L (o :: rest) e := fun w hw => by
 have hlt : t < n := (Nat.blt_eq (x := t) (y := n)) ▸ ht
 have hy : yielded ops (act n e).tmps j = none := by simp [yielded, hj, act, hlt, hv, undef]
 refine wpList_step fun K hK => ?_
 rw [if_neg (by simp [Region.wanted, hg, hy]), act_put]
 exact hK _ _ (h w hw)
end
end Go.Proofs.YthlfmbbaomdciaaGreatDoor
