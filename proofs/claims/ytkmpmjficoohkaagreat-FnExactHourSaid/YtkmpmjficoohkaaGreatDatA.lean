/-
  What the in-place methods compute, in the words of the lists. No program in sight.
-/
import Derived.Test.YtkmpmjficoohkaaGreatSlDel
import Derived.WideLaws
set_option linter.unusedSimpArgs false
set_option linter.unusedVariables false
set_option linter.unnecessarySimpa false
namespace Go.Proofs.YtkmpmjficoohkaaGreat
open Go Go.RowKit

theorem getKey_found {key : Str} : ∀ {s : List Cell}, findAt (fun c => decide (c.1 = key)) s < s.length → (s.getD (findAt (fun c => decide (c.1 = key)) s) c0).2 = getKey s key
  | [], h => by simp at h
  | c :: s, h => by
    unfold findAt at h ⊢
    unfold getKey
    by_cases hc : c.1 = key
    · simp [hc]
    · simp only [hc, decide_false, Bool.false_eq_true, if_false, List.length_cons] at h ⊢
      rw [List.getD_cons_succ]
      exact getKey_found (by omega)
theorem getKey_none {key : Str} : ∀ {s : List Cell}, findAt (fun c => decide (c.1 = key)) s = s.length → getKey s key = []
  | [], _ => rfl
  | c :: s, h => by
    unfold findAt at h
    unfold getKey
    by_cases hc : c.1 = key
    · simp [hc] at h
    · simp only [hc, decide_false, Bool.false_eq_true, if_false, List.length_cons, Nat.add_right_cancel_iff] at h ⊢
      exact getKey_none h
theorem keyOk_bad {key : Str} {j : Nat} (h : j < key.length) (hb : keyByte (key.getD j 0) = false) : keyOk key = false := by
  have : key.all keyByte = false := by
    rw [List.all_eq_false]
    refine ⟨key.getD j 0, ?_, by rw [hb]; simp⟩
    rw [List.getD_eq_getElem?_getD, List.getElem?_eq_getElem h]
    exact List.getElem_mem h
  simp [keyOk, this]
theorem keyOk_good {key : Str} {j : Nat} (h : key.length ≤ j) (hb : ∀ i, i < j → i < key.length → keyByte (key.getD i 0) = true) : keyOk key = (decide (1 ≤ key.length) && decide (key.length ≤ 40)) := by
  have : key.all keyByte = true := by
    rw [List.all_eq_true]
    intro x hx
    obtain ⟨i, hi, rfl⟩ := List.getElem_of_mem hx
    have := hb i (by omega) hi
    rwa [List.getD_eq_getElem?_getD, List.getElem?_eq_getElem hi] at this
  simp [keyOk, this]
theorem addSpan_end {l : List Str} {x : Str} (h : findAt (fun y => geqB y x) l = l.length) : addSpan l x = l ++ [x] := by
  simp [addSpan, h]
theorem addSpan_same {l : List Str} {x : Str} (h : findAt (fun y => geqB y x) l < l.length) (he : l.getD (findAt (fun y => geqB y x) l) [] = x) : addSpan l x = l := by
  unfold addSpan
  simp only [h, if_true, he]
theorem addSpan_ins {l : List Str} {x : Str} (h : findAt (fun y => geqB y x) l < l.length) (he : ¬ l.getD (findAt (fun y => geqB y x) l) [] = x) : addSpan l x = insertAt (findAt (fun y => geqB y x) l) x l := by
  unfold addSpan
  simp only [h, if_true, he, if_false]
theorem addSpan_len (l : List Str) (x : Str) : l.length ≤ (addSpan l x).length ∧ (addSpan l x).length ≤ l.length + 1 := by
  unfold addSpan
  have h := findAt_le (fun y => geqB y x) l
  simp only
  split
  · split
    · omega
    · rw [insertAt_length _ _ _ h]; omega
  · simp
theorem putKey_bad1 {s : List Cell} {key val : Str} (h : keyOk key = false) : putKey s key val = s := by simp [putKey, h]
theorem putKey_bad2 {s : List Cell} {key val : Str} (h : 60 < val.length) : putKey s key val = s := by simp [putKey, h]
theorem putKey_nil {s : List Cell} {key val : Str} (h : keyOk key = true) (h2 : ¬ 60 < val.length) (hv : val = []) : putKey s key val = s.filter (fun c => !decide (c.1 = key)) := by
  unfold putKey
  rw [if_neg (by simp [h]; omega)]
  simp only [hv, if_true]
theorem putKey_ins {s : List Cell} {key val : Str} (h : keyOk key = true) (h2 : ¬ 60 < val.length) (hv : ¬ val = []) : putKey s key val = insertAt (findAt (fun c => gtrB c.1 key) (s.filter (fun c => !decide (c.1 = key)))) (key, val) (s.filter (fun c => !decide (c.1 = key))) := by
  unfold putKey
  rw [if_neg (by simp [h]; omega)]
  simp only [hv, if_false]
theorem putKey_len (s : List Cell) (key val : Str) : (putKey s key val).length ≤ s.length + 1 := by
  have h1 : (s.filter (fun c => !decide (c.1 = key))).length ≤ s.length := List.length_filter_le _ _
  unfold putKey
  simp only
  split
  · omega
  · split
    · omega
    · rw [insertAt_length _ _ _ (findAt_le _ _)]; omega
theorem look_len (m : MS) (key : Str) : (m.look key).1.s.length = m.s.length ∧ (m.look key).1.r.length ≤ m.r.length + 1 ∧ (m.look key).1.w.length = m.w.length := ⟨rfl, (addSpan_len _ _).2, rfl⟩
theorem lay_len (m : MS) (key val : Str) : (m.lay key val).s.length ≤ m.s.length + 1 ∧ (m.lay key val).r.length = m.r.length ∧ (m.lay key val).w.length ≤ m.w.length + 1 := ⟨putKey_len _ _ _, rfl, (addSpan_len _ _).2⟩
theorem num_len (m : MS) (key : Str) : (m.num key).1.s.length = m.s.length ∧ (m.num key).1.r.length ≤ m.r.length + 1 ∧ (m.num key).1.w.length = m.w.length := look_len m key
theorem setNum_len (m : MS) (key : Str) (n : Int) : (m.setNum key n).s.length ≤ m.s.length + 1 ∧ (m.setNum key n).r.length = m.r.length ∧ (m.setNum key n).w.length ≤ m.w.length + 1 := lay_len m key _
theorem bump_len (m : MS) (key : Str) : (m.bump key).1.s.length ≤ m.s.length + 1 ∧ (m.bump key).1.r.length ≤ m.r.length + 1 ∧ (m.bump key).1.w.length ≤ m.w.length + 1 := by
  have h1 := num_len m key
  unfold MS.bump
  split
  · dsimp only
    exact ⟨by omega, by omega, by omega⟩
  · have h2 := setNum_len (m.num key).1 key ((m.num key).2 + 1)
    dsimp only
    exact ⟨by omega, by omega, by omega⟩
theorem readDec_lo (t : Str) : 0 ≤ (readDec t).1 ∧ (readDec t).1 ≤ 1000000000 := by
  unfold readDec
  split
  · split <;> simp_all
  · simp
theorem numOf_lo (t : Str) : 0 ≤ numOf t ∧ numOf t ≤ 999 := by
  have := readDec_lo t
  unfold numOf
  split <;> omega
theorem readDec_err {t : Str} (h : ∀ n, Lib.atoiAll t ≠ .ok n) : readDec t = (0, false) := by
  unfold readDec
  split
  · rename_i n hn
    exact absurd hn (h n)
  · rfl
theorem readDec_ok {t : Str} {n : Int} (h : Lib.atoiAll t = .ok n) : readDec t = if 0 ≤ n ∧ n ≤ 1000000000 ∧ dec n = t then (n, true) else (0, false) := by
  unfold readDec
  rw [h]

section
variable {P : Program} {n : Nat} {e : Env} {d : Option Tmp} {ty : TypeId} {pos : String} {aft : Array Edge} {gd : Option (Nat × Bool)} {x : Operand} {t u : TypeId} {ms : Array (String × TypeId)} {te : TypeId} {pe : Value}
theorem meth_of (ht : P.underlying t = some (.interface ms)) : P.underlying t = some (.interface (P.methodsAt t)) := by
  have : P.methodsAt t = ms := by simp [Program.methodsAt, ht]
  rw [this]; exact ht
theorem PO.eqlIfN (ht : P.underlying t = some (.interface ms)) (hx : rd n e x = .nilIface) (_ : rd n e (.const .nilIface) = .nilIface) : PO P n e ⟨d, .binOp .eql t x (.const .nilIface) u, ty, pos, aft, gd⟩ (.bool true) := fun w => by
  have h := run_eql_nil_nil (P := P) w t (meth_of ht)
  have hy : rd n e (.const .nilIface) = .nilIface := rfl
  simp only [execOp, hx, hy, eqGuard_nil_constR, Sem.run_bind, Sem.run_pure, Result.andThen_ok, h]
theorem PO.neqIfN (ht : P.underlying t = some (.interface ms)) (hx : rd n e x = .nilIface) (_ : rd n e (.const .nilIface) = .nilIface) : PO P n e ⟨d, .binOp .neq t x (.const .nilIface) u, ty, pos, aft, gd⟩ (.bool false) := fun w => by
  have h := run_neq_nil_nil (P := P) w t (meth_of ht)
  have hy : rd n e (.const .nilIface) = .nilIface := rfl
  simp only [execOp, hx, hy, eqGuard_nil_constR, Sem.run_bind, Sem.run_pure, Result.andThen_ok, h]
theorem PO.eqlIfS (ht : P.underlying t = some (.interface ms)) (hx : rd n e x = .iface te pe) (_ : rd n e (.const .nilIface) = .nilIface) : PO P n e ⟨d, .binOp .eql t x (.const .nilIface) u, ty, pos, aft, gd⟩ (.bool false) := fun w => by
  have h := run_eql_held_nil (P := P) w t te pe (meth_of ht)
  have hy : rd n e (.const .nilIface) = .nilIface := rfl
  simp only [execOp, hx, hy, eqGuard_at_iface, Sem.run_bind, Sem.run_pure, Result.andThen_ok, h]
theorem PO.neqIfS (ht : P.underlying t = some (.interface ms)) (hx : rd n e x = .iface te pe) (_ : rd n e (.const .nilIface) = .nilIface) : PO P n e ⟨d, .binOp .neq t x (.const .nilIface) u, ty, pos, aft, gd⟩ (.bool true) := fun w => by
  have h := run_neq_held_nil (P := P) w t te pe (meth_of ht)
  have hy : rd n e (.const .nilIface) = .nilIface := rfl
  simp only [execOp, hx, hy, eqGuard_at_iface, Sem.run_bind, Sem.run_pure, Result.andThen_ok, h]
end
end Go.Proofs.YtkmpmjficoohkaaGreat
