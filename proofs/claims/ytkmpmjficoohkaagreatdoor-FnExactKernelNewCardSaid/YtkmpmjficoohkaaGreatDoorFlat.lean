/-
  Texts of the walk, joined: what each one proves stands at its theorems.
-/
import Derived.Test.YtkmpmjficoohkaaGreatDoorSlIns
import Derived.WideLaws
import Derived.Deep.SlicePairs
import Derived.ProofKit
import Derived.Deep.Slices
import Derived.Deep.DeepHandedRow
import Derived.Test.YtkmpmjficoohkaaGreatDoorRows
import Derived.WalkKit
import Derived.OpenShut
import Derived.Lib.ItoaLen
set_option linter.unusedSimpArgs false
set_option linter.unusedVariables false
set_option linter.unnecessarySimpa false
namespace Go.Proofs.YtkmpmjficoohkaaGreatDoor
open Go Go.RowKit

section
variable {α : Type} {p : α → Bool}
theorem del_start : ∀ {s : List α}, findAt p s < s.length → s.take (findAt p s) = (s.take (findAt p s + 1)).filter (fun c => !p c)
  | [], h => by simp at h
  | x :: l, h => by
    unfold findAt at h ⊢
    by_cases hx : p x = true
    · simp [hx]
    · simp only [hx] at h ⊢
      have ih := del_start (s := l) (by simpa using h)
      simp only [Bool.false_eq_true, if_false, List.take_succ_cons]
      rw [List.filter_cons_of_pos (by simp [hx]), ← ih]
theorem del_none : ∀ {s : List α}, findAt p s = s.length → s.filter (fun c => !p c) = s
  | [], _ => rfl
  | x :: l, h => by
    unfold findAt at h
    by_cases hx : p x = true
    · simp [hx] at h
    · simp only [hx, Bool.false_eq_true, if_false, List.length_cons, Nat.add_right_cancel_iff] at h
      rw [List.filter_cons_of_pos (by simp [hx]), del_none h]
variable {s X : List α} {i j : Nat} (d : α)
theorem getD_of_drop (h : X.drop j = s.drop j) : X.getD j d = s.getD j d := by
  have := congrArg (fun l => l[0]?) h
  simp only [List.getElem?_drop, Nat.add_zero] at this
  rw [List.getD_eq_getElem?_getD, List.getD_eq_getElem?_getD, this]
theorem drop_more (h : X.drop j = s.drop j) : X.drop (j + 1) = s.drop (j + 1) := by
  have := congrArg (fun l => l.drop 1) h
  simpa [List.drop_drop] using this
theorem del_skip (h : X.drop j = s.drop j) (hj : j < s.length) (hp : p (X.getD j d) = true) (hi : X.take i = (s.take j).filter (fun c => !p c)) : X.take i = (s.take (j + 1)).filter (fun c => !p c) := by
  rw [take_at (getD_some (d := d) hj), List.filter_append, ← hi, ← getD_of_drop d h, List.filter_cons_of_neg (by rw [hp]; simp), List.filter_nil, List.append_nil]
theorem del_keep (h : X.drop j = s.drop j) (hj : j < s.length) (hl : X.length = s.length) (hij : i < j) (hp : p (X.getD j d) = false) (hi : X.take i = (s.take j).filter (fun c => !p c)) : (X.set i (X.getD j d)).take (i + 1) = (s.take (j + 1)).filter (fun c => !p c) := by
  have hx : (X.set i (X.getD j d))[i]? = some (X.getD j d) := by rw [List.getElem?_set_self (by omega)]
  rw [take_at hx, take_at (getD_some (d := d) hj), List.filter_append, ← hi, List.take_set_of_le (Nat.le_refl i)]
  congr 1
  rw [← getD_of_drop d h, List.filter_cons_of_pos (by rw [hp]; rfl), List.filter_nil]
theorem del_keepD (h : X.drop j = s.drop j) (hij : i < j) (y : α) : (X.set i y).drop (j + 1) = s.drop (j + 1) := by
  rw [List.drop_set_of_lt (by omega)]
  exact drop_more h
theorem del_done (hj : s.length ≤ j) (hi : X.take i = (s.take j).filter (fun c => !p c)) : X.take i = s.filter (fun c => !p c) := by
  rw [hi, List.take_of_length_le hj]
theorem del_len (hl : X.length = s.length) (hi : i ≤ s.length) (h : X.take i = s.filter (fun c => !p c)) : (s.filter (fun c => !p c)).length = i := by
  rw [← h, List.length_take]; omega
end
theorem takeC {X : List Cell} {i : Nat} {zs : List Value} (h : i ≤ X.length) : ((X.flatMap encC).take (i * 2) ++ zs).take (i * 2) = (X.take i).flatMap encC := by
  have hl : ((X.flatMap encC).take (i * 2)).length = i * 2 := by rw [List.length_take, lenC]; omega
  rw [List.take_append_of_le_length (by omega), List.take_take, Nat.min_self, flat_takeN encC_len]
theorem takeS {X : List Str} {i : Nat} {zs : List Value} (h : i ≤ X.length) : ((X.map str).take (i * 1) ++ zs).take (i * 1) = (X.take i).map str := by
  have hl : ((X.map str).take (i * 1)).length = i * 1 := by rw [List.length_take, List.length_map]; omega
  rw [List.take_append_of_le_length (by omega), List.take_take, Nat.min_self, ← List.map_take, Nat.mul_one]
/-- A cut: what stands behind is told once, whatever way led there. -/
def Cut (n : Nat) (w0 : World) (D : List Nat) (I : Env → List Res → Prop) : Exit → Act → World → Prop := fun x a w => x = .normal ∧ ∃ e' L', a = act n e' ∧ St w0 D L' w ∧ I e' L'
section
variable {P : Program} {Q : Exit → Act → World → Prop} {n : Nat} {w0 : World} {D : List Nat} {L : List Res} {e : Env} {I : Env → List Res → Prop}
theorem NP.cut : NP (Cut n w0 D I) := fun c a w h => by cases h.1
theorem JQ.cut (h : I e L) : JQ (Cut n w0 D I) .normal n w0 D L e := fun _ hw => ⟨rfl, e, L, rfl, hw, h⟩
theorem JC.cut {c : Code} (I : Env → List Res → Prop) (h1 : JC P (Cut n w0 D I) n w0 D L c e) (h2 : ∀ e' L', I e' L' → JQ Q .normal n w0 D L' e') : JC P Q n w0 D L c e := fun w hw =>
  wp_mono (h1 w hw) fun x a w' hq => by
    obtain ⟨rfl, e', L', rfl, hst, hI⟩ := hq
    exact h2 e' L' hI w' hst
end
/- the same with what can be found left out -/
section
variable {P : Program} {ops : Array Oper} {Q : Exit → Act → World → Prop} {n : Nat} {w0 : World} {D : List Nat} {L M : List Res} {e : Env} {z fuel : Nat} {listed : Array Bool}
theorem jw (i : Nat) {oi : Oper} {v : Value} (hi : ops[i]? = some oi) (hy : LO P n w0 D M e oi v) (h : JA P ops Q n w0 D M z fuel (listed.setIfInBounds i true) L (updO e oi.dst v))
    (hQ : NP Q := by repeat (first | with_reducible refine NP.th ?_ | with_reducible refine NP.bl ?_ | with_reducible exact NP.body | with_reducible exact NP.cut)) (hs : Region.noSelect ops = true := by kernel_rfl) (hz : lateB ops z i = true := by kernel_rfl) (hf : Region.free .any ops listed i = true := by kernel_rfl)
    (hr : (Region.ready .any ops listed).contains i = true := by kernel_rfl) (hg : oi.guard = none := by rfl) : JA P ops Q n w0 D M z (fuel + 1) listed L e := JA.take i hi hs hQ hz hf hr hg hy h
theorem jW (i : Nat) {oi : Oper} {v : Value} (hi : ops[i]? = some oi) (hy : PO P n e oi v) (h : JA P ops Q n w0 D M z fuel (listed.setIfInBounds i true) L (updO e oi.dst v))
    (hQ : NP Q := by repeat (first | with_reducible refine NP.th ?_ | with_reducible refine NP.bl ?_ | with_reducible exact NP.body | with_reducible exact NP.cut)) (hs : Region.noSelect ops = true := by kernel_rfl) (hf : Region.free .any ops listed i = true := by kernel_rfl)
    (hr : (Region.ready .any ops listed).contains i = true := by kernel_rfl) (hg : oi.guard = none := by rfl) : JA P ops Q n w0 D M z (fuel + 1) listed L e := jc i hi hs hQ hf hr hg hy h
theorem jx {i : Nat} (h : JX P ops Q n w0 D M z fuel listed L e i) (hr : Region.ready .any ops listed = [i] := by kernel_rfl) : JA P ops Q n w0 D M z (fuel + 1) listed L e := JA.one hr h
theorem JX.ls {i : Nat} {o : Oper} {Φ : Value → List Res → Prop} (hi : ops[i]? = some o) (ho : JO P n w0 D L e o Φ) (h : ∀ v L', Φ v L' → JQ Q .normal n w0 D L' (updO e o.dst v))
    (hg : o.guard = none := by rfl) (hiz : z ≤ i := by decide) (hr : Region.ready .any ops (listed.setIfInBounds i true) = [] := by kernel_rfl) : JX P ops Q n w0 D M z fuel listed L e i := JX.last hi hg hiz hr ho h
theorem JX.lt {i : Nat} {o : Oper} {Φ : Value → List Res → Prop} (hi : ops[i]? = some o) (ho : JO P n w0 D L e o Φ) (h : ∀ v L', Φ v L' → JA P ops Q n w0 D [] z fuel (listed.setIfInBounds i true) L' (updO e o.dst v))
    (hg : o.guard = none := by rfl) (hiz : z ≤ i := by decide) (hl : ((List.range listed.size).all fun k => Nat.ble z k || listed.getD k true) = true := by kernel_rfl) : JX P ops Q n w0 D M z fuel listed L e i := JX.late hi hg hiz hl ho h
theorem JL.o {o : Oper} {rest : List Oper} {Φ : Value → List Res → Prop} (ho : JO P n w0 D L e o Φ) (h : ∀ v L', Φ v L' → JL P ops Q n w0 D L' rest (updO e o.dst v)) (hg : o.guard = none := by rfl) : JL P ops Q n w0 D L (o :: rest) e := jI hg ho h
theorem jA {o : Oper} {rest : List Oper} {v : Value} (ho : PO P n e o v) (h : JL P ops Q n w0 D L rest (updO e o.dst v)) (hg : o.guard = none := by rfl) : JL P ops Q n w0 D L (o :: rest) e := jH hg ho h
theorem jP {o : Oper} {rest : List Oper} {v : Value} (ho : LO P n w0 D L e o v) (h : JL P ops Q n w0 D L rest (updO e o.dst v)) (hg : o.guard = none := by rfl) : JL P ops Q n w0 D L (o :: rest) e := JL.ld hg ho h
end
end Go.Proofs.YtkmpmjficoohkaaGreatDoor

set_option linter.unusedSimpArgs false
set_option linter.unusedVariables false
set_option linter.unnecessarySimpa false
namespace Go.Proofs.YtkmpmjficoohkaaGreatDoor
open Go Go.RowKit

theorem getKey_found {key : Str} : ∀ {s : List Cell}, findAt (fun c => decide (c.1 = key)) s < s.length → (s.getD (findAt (fun c => decide (c.1 = key)) s) c0).2 = getKey s key
  | [], h => by simp at h
  | c :: s, h => by
    unfold findAt at h ⊢
    unfold getKey
    by_cases hc : c.1 = key
    · simp [hc]
    · simp only [hc, decide_false, Bool.false_eq_true, if_false, List.length_cons] at h ⊢
      rw [List.getD_cons_succ]
      exact getKey_found (by omega)
theorem getKey_none {key : Str} : ∀ {s : List Cell}, findAt (fun c => decide (c.1 = key)) s = s.length → getKey s key = []
  | [], _ => rfl
  | c :: s, h => by
    unfold findAt at h
    unfold getKey
    by_cases hc : c.1 = key
    · simp [hc] at h
    · simp only [hc, decide_false, Bool.false_eq_true, if_false, List.length_cons, Nat.add_right_cancel_iff] at h ⊢
      exact getKey_none h
theorem keyOk_bad {key : Str} {j : Nat} (h : j < key.length) (hb : keyByte (key.getD j 0) = false) : keyOk key = false := by
  have : key.all keyByte = false := by
    rw [List.all_eq_false]
    refine ⟨key.getD j 0, ?_, by rw [hb]; simp⟩
    rw [List.getD_eq_getElem?_getD, List.getElem?_eq_getElem h]
    exact List.getElem_mem h
  simp [keyOk, this]
theorem keyOk_good {key : Str} {j : Nat} (h : key.length ≤ j) (hb : ∀ i, i < j → i < key.length → keyByte (key.getD i 0) = true) : keyOk key = (decide (1 ≤ key.length) && decide (key.length ≤ 40)) := by
  have : key.all keyByte = true := by
    rw [List.all_eq_true]
    intro x hx
    obtain ⟨i, hi, rfl⟩ := List.getElem_of_mem hx
    have := hb i (by omega) hi
    rwa [List.getD_eq_getElem?_getD, List.getElem?_eq_getElem hi] at this
  simp [keyOk, this]
theorem addSpan_end {l : List Str} {x : Str} (h : findAt (fun y => geqB y x) l = l.length) : addSpan l x = l ++ [x] := by
  simp [addSpan, h]
theorem addSpan_same {l : List Str} {x : Str} (h : findAt (fun y => geqB y x) l < l.length) (he : l.getD (findAt (fun y => geqB y x) l) [] = x) : addSpan l x = l := by
  unfold addSpan
  simp only [h, if_true, he]
theorem addSpan_ins {l : List Str} {x : Str} (h : findAt (fun y => geqB y x) l < l.length) (he : ¬ l.getD (findAt (fun y => geqB y x) l) [] = x) : addSpan l x = insertAt (findAt (fun y => geqB y x) l) x l := by
  unfold addSpan
  simp only [h, if_true, he, if_false]
theorem addSpan_len (l : List Str) (x : Str) : l.length ≤ (addSpan l x).length ∧ (addSpan l x).length ≤ l.length + 1 := by
  unfold addSpan
  have h := findAt_le (fun y => geqB y x) l
  simp only
  split
  · split
    · omega
    · rw [insertAt_length _ _ _ h]; omega
  · simp
theorem putKey_bad1 {s : List Cell} {key val : Str} (h : keyOk key = false) : putKey s key val = s := by simp [putKey, h]
theorem putKey_bad2 {s : List Cell} {key val : Str} (h : 60 < val.length) : putKey s key val = s := by simp [putKey, h]
theorem putKey_nil {s : List Cell} {key val : Str} (h : keyOk key = true) (h2 : ¬ 60 < val.length) (hv : val = []) : putKey s key val = s.filter (fun c => !decide (c.1 = key)) := by
  unfold putKey
  rw [if_neg (by simp [h]; omega)]
  simp only [hv, if_true]
theorem putKey_ins {s : List Cell} {key val : Str} (h : keyOk key = true) (h2 : ¬ 60 < val.length) (hv : ¬ val = []) : putKey s key val = insertAt (findAt (fun c => gtrB c.1 key) (s.filter (fun c => !decide (c.1 = key)))) (key, val) (s.filter (fun c => !decide (c.1 = key))) := by
  unfold putKey
  rw [if_neg (by simp [h]; omega)]
  simp only [hv, if_false]
theorem putKey_len (s : List Cell) (key val : Str) : (putKey s key val).length ≤ s.length + 1 := by
  have h1 : (s.filter (fun c => !decide (c.1 = key))).length ≤ s.length := List.length_filter_le _ _
  unfold putKey
  simp only
  split
  · omega
  · split
    · omega
    · rw [insertAt_length _ _ _ (findAt_le _ _)]; omega
theorem look_len (m : MS) (key : Str) : (m.look key).1.s.length = m.s.length ∧ (m.look key).1.r.length ≤ m.r.length + 1 ∧ (m.look key).1.w.length = m.w.length := ⟨rfl, (addSpan_len _ _).2, rfl⟩
theorem lay_len (m : MS) (key val : Str) : (m.lay key val).s.length ≤ m.s.length + 1 ∧ (m.lay key val).r.length = m.r.length ∧ (m.lay key val).w.length ≤ m.w.length + 1 := ⟨putKey_len _ _ _, rfl, (addSpan_len _ _).2⟩
theorem num_len (m : MS) (key : Str) : (m.num key).1.s.length = m.s.length ∧ (m.num key).1.r.length ≤ m.r.length + 1 ∧ (m.num key).1.w.length = m.w.length := look_len m key
theorem setNum_len (m : MS) (key : Str) (n : Int) : (m.setNum key n).s.length ≤ m.s.length + 1 ∧ (m.setNum key n).r.length = m.r.length ∧ (m.setNum key n).w.length ≤ m.w.length + 1 := lay_len m key _
theorem bump_len (m : MS) (key : Str) : (m.bump key).1.s.length ≤ m.s.length + 1 ∧ (m.bump key).1.r.length ≤ m.r.length + 1 ∧ (m.bump key).1.w.length ≤ m.w.length + 1 := by
  have h1 := num_len m key
  unfold MS.bump
  split
  · dsimp only
    exact ⟨by omega, by omega, by omega⟩
  · have h2 := setNum_len (m.num key).1 key ((m.num key).2 + 1)
    dsimp only
    exact ⟨by omega, by omega, by omega⟩
theorem readDec_lo (t : Str) : 0 ≤ (readDec t).1 ∧ (readDec t).1 ≤ 1000000000 := by
  unfold readDec
  split
  · split <;> simp_all
  · simp
theorem numOf_lo (t : Str) : 0 ≤ numOf t ∧ numOf t ≤ 999 := by
  have := readDec_lo t
  unfold numOf
  split <;> omega
theorem readDec_err {t : Str} (h : ∀ n, Lib.atoiAll t ≠ .ok n) : readDec t = (0, false) := by
  unfold readDec
  split
  · rename_i n hn
    exact absurd hn (h n)
  · rfl
theorem readDec_ok {t : Str} {n : Int} (h : Lib.atoiAll t = .ok n) : readDec t = if 0 ≤ n ∧ n ≤ 1000000000 ∧ dec n = t then (n, true) else (0, false) := by
  unfold readDec
  rw [h]

section
variable {P : Program} {n : Nat} {e : Env} {d : Option Tmp} {ty : TypeId} {pos : String} {aft : Array Edge} {gd : Option (Nat × Bool)} {x : Operand} {t u : TypeId} {ms : Array (String × TypeId)} {te : TypeId} {pe : Value}
theorem meth_of (ht : P.underlying t = some (.interface ms)) : P.underlying t = some (.interface (P.methodsAt t)) := by
  have : P.methodsAt t = ms := by simp [Program.methodsAt, ht]
  rw [this]; exact ht
theorem PO.eqlIfN (ht : P.underlying t = some (.interface ms)) (hx : rd n e x = .nilIface) (_ : rd n e (.const .nilIface) = .nilIface) : PO P n e ⟨d, .binOp .eql t x (.const .nilIface) u, ty, pos, aft, gd⟩ (.bool true) := fun w => by
  have h := run_eql_nil_nil (P := P) w t (meth_of ht)
  have hy : rd n e (.const .nilIface) = .nilIface := rfl
  simp only [execOp, hx, hy, eqGuard_nil_constR, Sem.run_bind, Sem.run_pure, Result.andThen_ok, h]
theorem PO.neqIfN (ht : P.underlying t = some (.interface ms)) (hx : rd n e x = .nilIface) (_ : rd n e (.const .nilIface) = .nilIface) : PO P n e ⟨d, .binOp .neq t x (.const .nilIface) u, ty, pos, aft, gd⟩ (.bool false) := fun w => by
  have h := run_neq_nil_nil (P := P) w t (meth_of ht)
  have hy : rd n e (.const .nilIface) = .nilIface := rfl
  simp only [execOp, hx, hy, eqGuard_nil_constR, Sem.run_bind, Sem.run_pure, Result.andThen_ok, h]
theorem PO.eqlIfS (ht : P.underlying t = some (.interface ms)) (hx : rd n e x = .iface te pe) (_ : rd n e (.const .nilIface) = .nilIface) : PO P n e ⟨d, .binOp .eql t x (.const .nilIface) u, ty, pos, aft, gd⟩ (.bool false) := fun w => by
  have h := run_eql_held_nil (P := P) w t te pe (meth_of ht)
  have hy : rd n e (.const .nilIface) = .nilIface := rfl
  simp only [execOp, hx, hy, eqGuard_at_iface, Sem.run_bind, Sem.run_pure, Result.andThen_ok, h]
theorem PO.neqIfS (ht : P.underlying t = some (.interface ms)) (hx : rd n e x = .iface te pe) (_ : rd n e (.const .nilIface) = .nilIface) : PO P n e ⟨d, .binOp .neq t x (.const .nilIface) u, ty, pos, aft, gd⟩ (.bool true) := fun w => by
  have h := run_neq_held_nil (P := P) w t te pe (meth_of ht)
  have hy : rd n e (.const .nilIface) = .nilIface := rfl
  simp only [execOp, hx, hy, eqGuard_at_iface, Sem.run_bind, Sem.run_pure, Result.andThen_ok, h]
end
end Go.Proofs.YtkmpmjficoohkaaGreatDoor

set_option linter.unusedSimpArgs false
set_option linter.unusedVariables false
set_option linter.unnecessarySimpa false
namespace Go.Proofs.YtkmpmjficoohkaaGreatDoor
open Go Go.RowKit

theorem sees_nil {w : World} (k : Nat) : Sees w (.slice none 0 0) k 0 [] := ⟨by simp, .inl ⟨rfl, rfl⟩⟩
/-- What the reference's PutKey lays behind what it has. -/
def putL (key val : Str) : Bool → List Cell → List Cell
  | d, [] => if d then [] else [(key, val)]
  | d, c :: s => (if !d && gtrB c.1 key then [(key, val)] else []) ++ ((if c.1 = key then [] else [c]) ++ putL key val (d || gtrB c.1 key) s)
theorem putL_step {s : List Cell} {key val : Str} {d : Bool} {j : Nat} (h : j < s.length) : putL key val d (s.drop j) = (if !d && gtrB (s.getD j c0).1 key then [(key, val)] else []) ++ ((if (s.getD j c0).1 = key then [] else [s.getD j c0]) ++ putL key val (d || gtrB (s.getD j c0).1 key) (s.drop (j + 1))) := by
  rw [drop_at (getD_some (d := c0) h), putL]
theorem putL_true (key val : Str) : ∀ s : List Cell, putL key val true s = s.filter (fun c => !decide (c.1 = key))
  | [] => rfl
  | c :: s => by
    have ih := putL_true key val s
    by_cases hc : c.1 = key
    · simp [putL, hc, ih]
    · simp [putL, hc, ih]
theorem gtr_ne {a b : Str} (h : gtrB a b = true) : ¬ a = b := by
  intro e
  subst e
  simp [gtrB] at h
theorem putL_false (key val : Str) : ∀ s : List Cell, putL key val false s = insertAt (findAt (fun c => gtrB c.1 key) (s.filter (fun c => !decide (c.1 = key)))) (key, val) (s.filter (fun c => !decide (c.1 = key)))
  | [] => rfl
  | c :: s => by
    have ih := putL_false key val s
    cases hg : gtrB c.1 key with
    | true =>
      have hc := gtr_ne hg
      rw [List.filter_cons_of_pos (by simp [hc])]
      simp only [putL, hg, Bool.not_false, Bool.true_and, if_true, hc, if_false, Bool.false_or, putL_true, findAt]
      rfl
    | false =>
      by_cases hc : c.1 = key
      · rw [List.filter_cons_of_neg (by simp [hc]), ← ih]
        have hg' : gtrB key key = false := hc ▸ hg
        simp only [putL, hg', Bool.not_false, Bool.true_and, Bool.false_eq_true, if_false, hc, if_true, List.nil_append, Bool.or_false]
      · rw [List.filter_cons_of_pos (by simp [hc])]
        simp only [putL, hg, Bool.not_false, Bool.true_and, Bool.false_eq_true, if_false, hc, List.nil_append, Bool.or_false, findAt, ih]
        rfl
theorem putL_put {s : List Cell} {key val : Str} (h : keyOk key = true) (h2 : ¬ 60 < val.length) : putL key val (decide (val = [])) s = putKey s key val := by
  by_cases hv : val = []
  · rw [putKey_nil h h2 hv, decide_eq_true hv, putL_true]
  · rw [putKey_ins h h2 hv, decide_eq_false hv, putL_false]

theorem addSpan_at {l : List Str} {x : Str} {j : Nat} (hlt : j < l.length) (hN : ∀ i, i < j → geqB (l.getD i []) x = false) (hge : geqB (l.getD j []) x = true) : findAt (fun y => geqB y x) l = j := findAt_eq _ [] l j hlt hN hge
theorem addSpan_put_same {l : List Str} {x : Str} {j : Nat} (hlt : j < l.length) (hN : ∀ i, i < j → geqB (l.getD i []) x = false) (hge : geqB (l.getD j []) x = true) (he : l.getD j [] = x) : addSpan l x = l := by
  have h := addSpan_at hlt hN hge
  exact addSpan_same (by rw [h]; exact hlt) (by rw [h]; exact he)
theorem addSpan_put_ins {l : List Str} {x : Str} {j : Nat} (hlt : j < l.length) (hN : ∀ i, i < j → geqB (l.getD i []) x = false) (hge : geqB (l.getD j []) x = true) (he : ¬ l.getD j [] = x) : l.take j ++ [x] ++ (l.drop j).take (l.length - j) = addSpan l x := by
  have h := addSpan_at hlt hN hge
  have e : (l.drop j).take (l.length - j) = l.drop j := List.take_of_length_le (by simp)
  rw [addSpan_ins (by rw [h]; exact hlt) (by rw [h]; exact he), h, e]
  simp [insertAt]
theorem addSpan_put_end {l : List Str} {x : Str} {j : Nat} (hle : l.length ≤ j) (hj : j ≤ l.length) (hN : ∀ i, i < j → geqB (l.getD i []) x = false) : l.take j ++ [x] ++ (l.drop j).take (l.length - j) = addSpan l x := by
  have h := findAt_none (fun y => geqB y x) [] l (fun i hi => hN i (by omega))
  rw [addSpan_end h, List.take_of_length_le hle, List.drop_of_length_le hle]
  simp

/-- The digits, the last one first in hand. -/
theorem mtAcc_app : ∀ (n k : Nat) (out : Str), k ≤ n → mtAcc k out = mtAcc k [] ++ out := by
  intro n
  induction n with
  | zero => intro k out h; rw [mtAcc_zero (by omega), mtAcc_zero (by omega)]; rfl
  | succ n ih =>
    intro k out h
    rcases Nat.eq_zero_or_pos k with h0 | h0
    · rw [mtAcc_zero h0, mtAcc_zero h0]; rfl
    · rw [← mtAcc_step h0, ← mtAcc_step h0 (out := []), ih _ _ (by omega), ih (k / 10) ([UInt8.ofNat (48 + k % 10)] ++ []) (by omega)]
      simp [List.append_assoc]
theorem mtAcc_dec : ∀ (n k : Nat), 0 < k → k ≤ n → mtAcc k [] = Lib.decDigits k := by
  intro n
  induction n with
  | zero => intro k h0 h; omega
  | succ n ih =>
    intro k h0 h
    rw [← mtAcc_step h0, mtAcc_app (k / 10) (k / 10) _ (Nat.le_refl _), Lib.decDigits]
    split
    · rename_i hk
      rw [mtAcc_zero (by omega), Nat.mod_eq_of_lt hk]; rfl
    · rw [ih (k / 10) (by omega) (by omega)]; simp
theorem dec_nat {k : Nat} (h : 0 < k) : dec ((k : Nat) : Int) = mtAcc k [] := by
  unfold dec Lib.itoa
  rw [if_neg (by omega), Int.toNat_natCast, mtAcc_dec k k h (Nat.le_refl _)]
theorem dec_zero : dec 0 = [48] := by
  unfold dec Lib.itoa
  rw [if_neg (by omega), show (0 : Int).toNat = 0 from rfl, Lib.decDigits, dif_pos (by omega)]; rfl
theorem decDigits_len : ∀ (n k : Nat), k ≤ n → (Lib.decDigits k).length = Lib.nDigits k := by
  intro n
  induction n with
  | zero => intro k h; rw [Lib.decDigits, Lib.nDigits, dif_pos (by omega), dif_pos (by omega)]; rfl
  | succ n ih =>
    intro k h
    rw [Lib.decDigits, Lib.nDigits]
    split
    · rfl
    · rw [List.length_append, ih (k / 10) (by omega)]; rfl
theorem dec_len {n : Int} (h0 : 0 ≤ n) (h1 : n ≤ 1000000000) : (dec n).length ≤ 10 := by
  obtain ⟨k, rfl⟩ := Int.eq_ofNat_of_zero_le h0
  unfold dec Lib.itoa
  rw [if_neg (by omega), Int.toNat_natCast, decDigits_len k k (Nat.le_refl _)]
  have : ∀ (d k : Nat), k < 10 ^ (d + 1) → Lib.nDigits k ≤ d + 1 := by
    intro d
    induction d with
    | zero => intro k hk; rw [Lib.nDigits_small (by simpa using hk)]; omega
    | succ d ih =>
      intro k hk
      by_cases hs : k < 10
      · rw [Lib.nDigits_small hs]; omega
      · rw [Lib.nDigits_big hs]
        have := ih (k / 10) (by rw [Nat.pow_succ] at hk; omega)
        omega
  exact this 9 k (by omega)
/-- The number that figures spell, as the reference adds it up; none where a byte is no figure. -/
def figs : Int → Str → Option Int
  | n, [] => some n
  | n, c :: t => if 48 ≤ c.toNat ∧ c.toNat ≤ 57 then figs (10 * n + (c.toNat : Int) - 48) t else none
theorem figs_step {t : Str} {n : Int} {j : Nat} (h : j < t.length) : figs n (t.drop j) = if 48 ≤ (t.getD j 0).toNat ∧ (t.getD j 0).toNat ≤ 57 then figs (10 * n + ((t.getD j 0).toNat : Int) - 48) (t.drop (j + 1)) else none := by
  rw [drop_at (getD_some (d := 0) h), figs]
theorem figs_parse : ∀ (t : Str) (acc : Nat), acc * 10 ^ t.length + 10 ^ t.length ≤ 1000000000000000000 → Lib.parseUint10 acc t = match figs acc t with | some n => .ok n.toNat | none => Lib.NumEnd.syntax
  | [], acc, _ => by simp [Lib.parseUint10, figs]
  | c :: t, acc, h => by
    have hp : 0 < 10 ^ t.length := Nat.pow_pos (by omega)
    rw [List.length_cons, Nat.pow_succ] at h
    by_cases hc : 48 ≤ c.toNat ∧ c.toNat ≤ 57
    · have hb : acc * 10 + 10 ≤ 1000000000000000000 := by
        have h1 : (acc * 10 + 10) * 1 ≤ (acc * 10 + 10) * 10 ^ t.length := Nat.mul_le_mul_left _ hp
        have h2 : (acc * 10 + 10) * 10 ^ t.length = acc * (10 ^ t.length * 10) + 10 ^ t.length * 10 := by rw [Nat.add_mul, Nat.mul_assoc, Nat.mul_comm 10 (10 ^ t.length)]
        omega
      have hs : ((acc * 10 + (c.toNat - 48) : Nat) : Int) = 10 * (acc : Int) + (c.toNat : Int) - 48 := by omega
      have ih := figs_parse t (acc * 10 + (c.toNat - 48)) (by
        have h1 : (acc * 10 + (c.toNat - 48)) * 10 ^ t.length ≤ (acc * 10 + 9) * 10 ^ t.length := Nat.mul_le_mul_right _ (by omega)
        have h2 : (acc * 10 + 9) * 10 ^ t.length + 10 ^ t.length = acc * (10 ^ t.length * 10) + 10 ^ t.length * 10 := by
          rw [← Nat.succ_mul, show (acc * 10 + 9).succ = acc * 10 + 10 from rfl, Nat.add_mul, Nat.mul_assoc, Nat.mul_comm 10 (10 ^ t.length)]
        omega)
      rw [Lib.parseUint10, if_pos hc, if_neg (by omega), if_neg (by omega), ih, hs, figs, if_pos hc]
    · rw [Lib.parseUint10, if_neg hc, figs, if_neg hc]
theorem figs_nonneg : ∀ (t : Str) (n m : Int), 0 ≤ n → figs n t = some m → 0 ≤ m
  | [], n, m, h, e => by simp only [figs, Option.some.injEq] at e; omega
  | c :: t, n, m, h, e => by
    unfold figs at e
    split at e
    · exact figs_nonneg t _ m (by omega) e
    · simp at e
theorem dec_head {n : Int} (h : 0 ≤ n) : ∃ c r, dec n = c :: r ∧ 48 ≤ c.toNat ∧ c.toNat ≤ 57 := by
  obtain ⟨k, rfl⟩ := Int.eq_ofNat_of_zero_le h
  unfold dec Lib.itoa
  rw [if_neg (by omega), Int.toNat_natCast]
  have : ∀ (n k : Nat), k ≤ n → ∃ c r, Lib.decDigits k = c :: r ∧ 48 ≤ c.toNat ∧ c.toNat ≤ 57 := by
    intro n
    induction n with
    | zero => intro k hk; rw [Lib.decDigits, dif_pos (by omega)]; exact ⟨_, _, rfl, by rw [UInt8.toNat_ofNat_of_lt' (by show _ < 256; omega)]; omega, by rw [UInt8.toNat_ofNat_of_lt' (by show _ < 256; omega)]; omega⟩
    | succ n ih =>
      intro k hk
      rw [Lib.decDigits]
      split
      · exact ⟨_, _, rfl, by rw [UInt8.toNat_ofNat_of_lt' (by show _ < 256; omega)]; omega, by rw [UInt8.toNat_ofNat_of_lt' (by show _ < 256; omega)]; omega⟩
      · obtain ⟨c, r, h1, h2, h3⟩ := ih (k / 10) (by omega)
        exact ⟨c, r ++ [UInt8.ofNat (48 + k % 10)], by rw [h1]; rfl, h2, h3⟩
  exact this k k (Nat.le_refl _)
/-- A text of at most ten bytes: what Atoi says of it, where it begins with a figure. -/
theorem atoi_figs {t : Str} {c : UInt8} {r : Str} (hc : t = c :: r) (h1 : 48 ≤ c.toNat) (h2 : c.toNat ≤ 57) (hl : t.length ≤ 10) : Lib.atoiAll t = match figs 0 t with | some n => .ok n | none => Lib.NumEnd.syntax := by
  have hlen : t.length ≤ 10 := hl
  have hpow : 10 ^ t.length ≤ 10 ^ 10 := Nat.pow_le_pow_right (by omega) hl
  have hp := figs_parse t 0 (by omega)
  subst hc
  unfold Lib.atoiAll
  simp only
  rw [if_neg (by omega)]
  unfold Lib.parseMag
  rw [if_neg (by simp), hp]
  cases hf : figs ((0 : Nat) : Int) (c :: r) with
  | none =>
    rfl
  | some n =>
    have hn := figs_nonneg _ _ _ (by omega) hf
    have hlt : Lib.parseUint10 0 (c :: r) = .ok n.toNat := by rw [hp, hf]
    have hb : n.toNat < 9223372036854775808 := by
      have key : ∀ (t : Str) (a : Nat) (u : Int), figs (a : Int) t = some u → u < ((a * 10 ^ t.length + 10 ^ t.length : Nat) : Int) := by
        intro t
        induction t with
        | nil => intro a u e; simp only [figs, Option.some.injEq] at e; subst e; simp; omega
        | cons d t ih =>
          intro a u e
          unfold figs at e
          split at e
          · rename_i hd
            have hs : ((a * 10 + (d.toNat - 48) : Nat) : Int) = 10 * (a : Int) + (d.toNat : Int) - 48 := by omega
            rw [← hs] at e
            have := ih _ _ e
            have h1 : (a * 10 + (d.toNat - 48)) * 10 ^ t.length ≤ (a * 10 + 9) * 10 ^ t.length := Nat.mul_le_mul_right _ (by omega)
            have h2 : (a * 10 + 9) * 10 ^ t.length + 10 ^ t.length = a * 10 ^ (t.length + 1) + 10 ^ (t.length + 1) := by
              rw [← Nat.succ_mul, show (a * 10 + 9).succ = a * 10 + 10 from rfl, Nat.add_mul, Nat.mul_assoc, Nat.mul_comm 10 (10 ^ t.length), Nat.pow_succ]
            rw [List.length_cons]
            omega
          · simp at e
      have := key _ _ _ hf
      omega
    simp only
    rw [if_neg (by omega), if_neg (by omega), if_neg (by omega), Int.toNat_of_nonneg hn]
theorem readDec_long {t : Str} (h : 10 < t.length) : readDec t = (0, false) := by
  unfold readDec
  split
  · rename_i n hn
    split
    · rename_i hc
      have := dec_len hc.1 hc.2.1
      rw [hc.2.2] at this
      omega
    · rfl
  · rfl
theorem readDec_figs {t : Str} (hl : t.length ≤ 10) : readDec t = match figs 0 t with | some n => if n ≤ 1000000000 ∧ dec n = t then (n, true) else (0, false) | none => (0, false) := by
  cases t with
  | nil =>
    have h0 : ¬ dec 0 = [] := by rw [dec_zero]; simp
    simp [readDec, Lib.atoiAll, figs, h0]
  | cons c r =>
    by_cases hc : 48 ≤ c.toNat ∧ c.toNat ≤ 57
    · have ha := atoi_figs (t := c :: r) rfl hc.1 hc.2 hl
      unfold readDec
      rw [ha]
      cases hf : figs 0 (c :: r) with
      | none => rfl
      | some n =>
        have hn := figs_nonneg _ _ _ (by omega) hf
        simp only [hn, true_and]
    · have hf : figs 0 (c :: r) = none := by rw [figs, if_neg hc]
      rw [hf]
      unfold readDec
      split
      · split
        · rename_i n hn hq
          obtain ⟨c', r', h1, h2, h3⟩ := dec_head hq.1
          rw [hq.2.2] at h1
          simp only [List.cons.injEq] at h1
          obtain ⟨rfl, _⟩ := h1
          exact absurd ⟨h2, h3⟩ hc
        · rfl
      · rfl
theorem readDec_no {t : Str} (h : (readDec t).2 = false) : (readDec t).1 = 0 := by
  unfold readDec at h ⊢
  split
  · rename_i n hn
    rw [hn] at h
    simp only at h
    split
    · rename_i hc; rw [if_pos hc] at h; simp at h
    · rfl
  · rfl
theorem foldl_len (l : List Str) : ∀ (d : List Str), (l.foldl addSpan d).length ≤ d.length + l.length := by
  induction l with
  | nil => intro d; simp
  | cons x l ih =>
    intro d
    have h1 := ih (addSpan d x)
    have h2 := (addSpan_len d x).2
    simp only [List.foldl_cons, List.length_cons]
    omega
end Go.Proofs.YtkmpmjficoohkaaGreatDoor

set_option linter.unusedSimpArgs false
set_option linter.unusedVariables false
set_option linter.unnecessarySimpa false
namespace Go.Proofs.YtkmpmjficoohkaaGreatDoor
open Go Go.RowKit Go.ChangeShapes Go.WideShapes Go.ChangeAt

theorem list_of {α : Type} (d : α) {p : Nat → α → Prop} : ∀ n, (∀ i, i < n → ∃ s, p i s) → ∃ l : List α, l.length = n ∧ ∀ i, i < n → p i (l.getD i d)
  | 0, _ => ⟨[], rfl, fun i hi => absurd hi (Nat.not_lt_zero i)⟩
  | n + 1, h => by
    obtain ⟨l, hl, hp⟩ := list_of d n (fun i hi => h i (by omega))
    obtain ⟨s, hs⟩ := h n (by omega)
    refine ⟨l ++ [s], by simp [hl], fun i hi => ?_⟩
    by_cases hin : i < n
    · have : (l ++ [s]).getD i d = l.getD i d := by
        rw [List.getD_eq_getElem?_getD, List.getD_eq_getElem?_getD, List.getElem?_append_left (by omega)]
      rw [this]; exact hp i hin
    · have hi' : i = l.length := by omega
      have : (l ++ [s]).getD i d = s := by subst hi'; simp
      rw [this]
      have : i = n := by omega
      subst this
      exact hs

section
variable {H : Type} {enc : TypeId × Value → H} {P : Program} {w : World} {base : Nat} {sp : Nat → Bool} {hd : Bool}

theorem trod_str {e fuel : Nat} {cs : List Value} {x : DataW H × List MemPlace} (he : P.underlying e = some .string) (h : DataW.trod enc P w base sp hd fuel e cs = some x) : ∃ s : Str, cs = [str s] ∧ s.length ≤ maxLen := by
  obtain ⟨s, rfl, _, hs⟩ := DataW.trod_string he h
  refine ⟨s.data.toList, by simp [str], ?_⟩
  have : s.size = s.data.toList.length := Array.length_toList.symm
  omega

theorem openS {t e fuel : Nat} {v : Value} {x : DataW H × List MemPlace} (ht : P.underlying t = some (.slice e)) (he : P.underlying e = some .string) (ce : P.cellsOf e = 1) (hsp : ∀ a n c, v = .slice (some a) n c → a.spot = none ∧ a.block < w.heap.size)
    (h : DataW.trod enc P w base sp hd fuel t [v] = some x) : ∃ a c, ∃ l : List Str, v = .slice a l.length c ∧ Sees w (.slice a l.length c) 1 l.length (l.map str) ∧ okS l := by
  rcases Deep.open_slice ht h with ⟨hv, _⟩ | ⟨a, len, cap, m, n, D, Pl, hv, hb, hl, hm, hmm, _, hc⟩
  · simp only [List.cons.injEq, and_true] at hv
    exact ⟨none, 0, [], hv, sees_nil 1, by simp [okS]⟩
  · simp only [List.cons.injEq, and_true] at hv
    obtain ⟨hs, hlt⟩ := hsp _ _ _ hv
    obtain ⟨b, o, s⟩ := a
    simp only at hs hlt
    subst hs
    have hle : len ≤ m := by rw [hmm]; split <;> omega
    obtain ⟨l, hll, hp⟩ := list_of (p := fun i s => w.cell? ⟨b, o + i, none⟩ = some (str s) ∧ s.length ≤ maxLen) ([] : Str) len (fun i hi => by
      obtain ⟨cs', h1, h2⟩ := hc i (by omega)
      obtain ⟨s, rfl, hs⟩ := trod_str he h2
      refine ⟨s, ?_, hs⟩
      rw [ce] at h1
      unfold World.cells? at h1
      split at h1
      · simp only [List.range_succ, List.range_zero, List.nil_append, List.mapM_cons, List.mapM_nil, Option.bind_eq_bind, Option.pure_def] at h1
        rw [add_lit, add_lit, Nat.mul_one, Nat.add_zero] at h1
        cases hq : w.cell? ⟨b, o + i, none⟩ with
        | none => rw [hq] at h1; simp at h1
        | some u => rw [hq] at h1; simp at h1; rw [h1]
      · cases h1)
    subst hll
    refine ⟨some ⟨b, o, none⟩, cap, l, hv, ⟨by simp, .inr ⟨b, o, cap, rfl, hl, hm, hlt, fun j u hj => ?_⟩⟩, by unfold maxLen at *; omega, fun j hj => by have := (hp j hj).2; unfold maxLen at this; omega⟩
    have hjl : j < l.length := by
      have := (List.getElem?_eq_some_iff.1 hj).1
      simpa using this
    rw [List.getElem?_map, getD_some (d := []) hjl] at hj
    simp only [Option.map_some, Option.some.injEq] at hj
    rw [← hj]
    exact (hp j hjl).1

theorem openC {t e fuel : Nat} {f0 f1 : Field} {v : Value} {x : DataW H × List MemPlace} (ht : P.underlying t = some (.slice e)) (he : P.underlying e = some (.struct #[f0, f1])) (ce : P.cellsOf e = 2) (o0 : f0.offset = 0) (o1 : f1.offset = 1) (c0' : P.cellsOf f0.type = 1) (c1' : P.cellsOf f1.type = 1)
    (s0 : P.underlying f0.type = some .string) (s1 : P.underlying f1.type = some .string) (hsp : ∀ a n c, v = .slice (some a) n c → a.spot = none ∧ a.block < w.heap.size)
    (h : DataW.trod enc P w base sp hd fuel t [v] = some x) : ∃ a c, ∃ l : List Cell, v = .slice a l.length c ∧ Sees w (.slice a l.length c) 2 l.length (l.flatMap encC) ∧ okC l := by
  rcases Deep.open_slice_pairs ht he ce o0 o1 c0' c1' h with ⟨hv, _⟩ | ⟨a, len, cap, m, n, V0, V1, D0, D1, P0, P1, hv, hb, hl, hm, hmm, _, hc⟩
  · simp only [List.cons.injEq, and_true] at hv
    exact ⟨none, 0, [], hv, sees_nil 2, by simp [okC]⟩
  · simp only [List.cons.injEq, and_true] at hv
    obtain ⟨hs, hlt⟩ := hsp _ _ _ hv
    obtain ⟨b, o, s⟩ := a
    simp only at hs hlt
    subst hs
    have hle : len ≤ m := by rw [hmm]; split <;> omega
    obtain ⟨l, hll, hp⟩ := list_of (p := fun i (s : Cell) => w.cell? ⟨b, o + i * 2, none⟩ = some (str s.1) ∧ w.cell? ⟨b, o + (i * 2 + 1), none⟩ = some (str s.2) ∧ s.1.length ≤ maxLen ∧ s.2.length ≤ maxLen) c0 len (fun i hi => by
      obtain ⟨h1, h2, h3, h4⟩ := hc i (by omega)
      obtain ⟨k, hk, hkl⟩ := trod_str s0 h3
      obtain ⟨u, hu, hul⟩ := trod_str s1 h4
      simp only [List.cons.injEq, and_true] at hk hu
      rw [add_lit, hk] at h1
      rw [add_lit, hu] at h2
      exact ⟨(k, u), h1, h2, hkl, hul⟩)
    subst hll
    refine ⟨some ⟨b, o, none⟩, cap, l, hv, ⟨lenC l, .inr ⟨b, o, cap, rfl, hl, hm, hlt, fun j u hj => ?_⟩⟩, by unfold maxLen at *; omega, fun j hj => by have := (hp j hj).2.2; unfold maxLen at this; omega⟩
    have hjl : j < l.length * 2 := by
      have := (List.getElem?_eq_some_iff.1 hj).1
      rwa [lenC] at this
    obtain ⟨q, hq⟩ : ∃ q, j = q * 2 ∨ j = q * 2 + 1 := ⟨j / 2, by omega⟩
    rcases hq with rfl | rfl
    · rw [atC1 (by omega)] at hj
      simp only [Option.some.injEq] at hj
      rw [← hj]
      exact (hp q (by omega)).1
    · rw [atC2 (by omega)] at hj
      simp only [Option.some.injEq] at hj
      rw [← hj]
      exact (hp q (by omega)).2.1
end

/-- What is known of the addresses of slices that come in. -/
theorem spot_of {P : Program} {w : World} {t e : TypeId} {v : Value} {b0 : Nat} {r : Reach} (ht : P.underlying t = some (.slice e)) (h : Cell.okWide P w r b0 t v) : ∀ a n c, v = .slice (some a) n c → a.spot = none ∧ a.block < w.heap.size := fun a n c hv => by
  subst hv
  have h1 : Cell.ok P w r b0 t (.slice (some a) n c) := by
    unfold Cell.okWide at h
    rw [ht] at h
    exact h
  unfold Cell.ok at h1
  rw [ht] at h1
  obtain ⟨_, _, _, hs, row, cells, hsh, _⟩ := h1
  refine ⟨hs, ?_⟩
  unfold World.shape? at hsh
  cases hg : w.heap[a.block]? with
  | none => rw [hg] at hsh; cases hsh
  | some o => exact (Array.getElem?_eq_some_iff.1 hg).1
end Go.Proofs.YtkmpmjficoohkaaGreatDoor

set_option linter.unusedSimpArgs false
set_option linter.unusedVariables false
set_option linter.unnecessarySimpa false
namespace Go.Proofs.YtkmpmjficoohkaaGreatDoor
open Go Go.RowKit Go.ChangeShapes Go.WideShapes Go.ChangeAt

theorem post_below {H : Type} {enc : TypeId × Value → H} {P : Program} {f : Func} {s : ChangeSpec} {apart fresh handsOn again : Bool} {W W' : World} {args : Array Value} {v : Value} {ds gs : List (DataW H)} {before pa pv : List MemPlace}
    (hW : DataW.Whole enc P f.params.toList s.vars apart W args.toList ds gs before)
    (hres : ∀ (b : Nat) (sp : Nat → Bool) (hd : Bool), DataW.TrodAll enc P W' b sp hd f.resultTypes.toList (v.resultList f.resultTypes.size) (s.fn H (ds ++ gs)).results [])
    (hargs : ∀ sp : Nat → Bool, (∀ p ∈ before, sp p.block = true) → DataW.TrodAll enc P W' 0 sp true f.params.toList args.toList (s.fn H (ds ++ gs)).args pa)
    (hvars : ∀ sp : Nat → Bool, (∀ p ∈ before, sp p.block = true) → DataW.TrodVars enc P W' sp s.vars (s.fn H (ds ++ gs)).vars pv)
    (hps : before = pa ++ pv) (hb : Below W.heap.size W W')
    (hok : ∀ (j : Nat) (t : TypeId) (r : Value), f.resultTypes[j]? = some t → (v.resultList f.resultTypes.size)[j]? = some r → Value.okWide P W' .any 0 t r) :
    s.post enc P f apart fresh handsOn again W args v W' := by
  have hold : ∀ p ∈ before, (fun b => decide (b < W.heap.size)) p.block = true := fun p hp => by simpa using hW.lt p hp
  have hlt := hW.lt
  refine ⟨ds, gs, before, [], pa, pv, hW, hres _ _ _, hargs _ hold, hvars _ hold, hb.frame _, fun _ => ?_⟩
  obtain ⟨_, _, _, _, _, hz, hn⟩ := hW
  refine ⟨hok, _, _, ([] ++ pa) ++ pv, ⟨[] ++ pa, pv, trodAll_append (hargs _ (fun _ _ => rfl)) (hres _ _ _), hvars _ (fun _ _ => rfl), rfl, ?_, ?_⟩, ?_⟩
  · intro b off hp
    have hp' : MemPlace.cell b off ∈ before := by rw [hps]; simpa using hp
    rw [hb.frozen (hlt _ hp')]
    exact hz b off hp'
  · intro ha
    have := hn ha
    rw [hps] at this
    simpa using this
  · intro p hp _
    rw [hps]
    simpa using hp
end Go.Proofs.YtkmpmjficoohkaaGreatDoor

set_option linter.unusedSimpArgs false
set_option linter.unusedVariables false
set_option linter.unnecessarySimpa false
namespace Go.Proofs.YtkmpmjficoohkaaGreatDoor
open Go Go.RowKit Go.ChangeShapes Go.WideShapes Go.ChangeAt

def OneLaid (P : Program) (w : World) (n : String) (d : DataW Unit) : Prop :=
  ∃ g t cs fuel p, P.globalNamed n = some g ∧ (P.globals[g]?).map (·.type) = some t ∧ w.var? P n = some cs ∧ DataW.trod (fun _ => ()) P w 0 (fun _ => true) false fuel t cs.toList = some (d, p)
section
variable {P : Program} {w : World}
theorem laidVars_get : ∀ {laid : List (String × DataW Unit)} {ps : List MemPlace} (_ : DataW.LaidVars P w laid ps) (i : Nat) {n : String} {d : DataW Unit}, laid[i]? = some (n, d) → OneLaid P w n d
  | [], _, _, i, n, d, hi => by simp at hi
  | (n', d') :: r, ps, h, 0, n, d, hi => by
    simp only [List.getElem?_cons_zero, Option.some.injEq, Prod.mk.injEq] at hi
    obtain ⟨rfl, rfl⟩ := hi
    obtain ⟨g, t, cs, f, p, _, a, b, e, h, _⟩ := h
    exact ⟨g, t, cs, f, p, a, b, e, h⟩
  | (n', d') :: r, ps, h, i + 1, n, d, hi => by
    obtain ⟨_, _, _, _, _, q, _, _, _, _, h2, _⟩ := h
    exact laidVars_get h2 i (by simpa using hi)
theorem laid_get {laid : List (String × DataW Unit)} (h : laidMet P laid w) (i : Nat) {n : String} {d : DataW Unit} (hi : laid[i]? = some (n, d)) : OneLaid P w n d := by
  obtain ⟨_, h, _⟩ := h
  exact laidVars_get h i hi
theorem OneLaid.tab {n : String} {k : IntKind} {zs : List Int} {g t e m : Nat} (h : OneLaid P w n (Lib.tabData k zs)) (hg : P.globalNamed n = some g) (hty : (P.globals[g]?).map (·.type) = some t) (ht : P.underlying t = some (.array m e)) (he : P.underlying e = some (.int k)) (hce : P.cellsOf e = 1) (hct : P.cellsOf t = m) : Lib.TabIs P w n k zs := by
  obtain ⟨g', t', cs, fuel, p, h1, h2, h3, h4⟩ := h
  obtain rfl := Option.some.inj (hg.symm.trans h1)
  obtain rfl := Option.some.inj (hty.symm.trans h2)
  unfold Lib.TabIs
  rw [h3, ← Lib.cells_of_tab ht he hce hct h4]
theorem OneLaid.iface {n s : String} {x : DataW Unit} {g t : Nat} {ms : Array (String × TypeId)} (h : OneLaid P w n (.iface s x)) (hg : P.globalNamed n = some g) (hty : (P.globals[g]?).map (·.type) = some t) (ht : P.underlying t = some (.interface ms)) : ∃ tp p, w.var? P n = some #[.iface tp p] := by
  obtain ⟨g', t', cs, fuel, p, h1, h2, h3, h4⟩ := h
  obtain rfl := Option.some.inj (hg.symm.trans h1)
  obtain rfl := Option.some.inj (hty.symm.trans h2)
  cases fuel with
  | zero => simp [DataW.trod] at h4
  | succ fuel =>
    unfold DataW.trod at h4
    rw [ht] at h4
    split at h4 <;> simp_all
    rename_i u v _ hcs
    exact ⟨u, v, Array.ext' hcs⟩
end
theorem laid_out : laidOutB Tryz.prog = true := by kernel_rfl
theorem own_godebug : ownKnob Tryz.prog.godebug = none := by kernel_rfl
def litsOf {H : Type} : DataW H → List Value
  | .agg ds => ds.map fun d => match d with | .lit (.int k n) => Value.int k n | _ => undef
  | _ => []
/-- Every package-level variable has its block. -/
theorem room_of {W : World} (h : W.ShapedOpen Tryz.prog) : GB ≤ W.heap.size := by
  have hr : (((begin Tryz.prog (fun _ _ => 0) default).world.heap[GB - 1]?).bind Obj.row?).isSome = true := by kernel_rfl
  cases hq : ((begin Tryz.prog (fun _ _ => 0) default).world.heap[GB - 1]?).bind Obj.row? with
  | none => rw [hq] at hr; cases hr
  | some x =>
    obtain ⟨zero, t⟩ := x
    obtain ⟨cs, hc, _⟩ := h.1 (GB - 1) zero t (by rw [show Tryz.prog.globals.size = GB from by kernel_rfl]; decide) hq
    have := (Array.getElem?_eq_some_iff.1 hc).1
    unfold GB at *
    omega
end Go.Proofs.YtkmpmjficoohkaaGreatDoor

set_option linter.unusedSimpArgs false
set_option linter.unusedVariables false
set_option linter.unnecessarySimpa false
namespace Go.Proofs.YtkmpmjficoohkaaGreatDoor
open Go Go.RowKit
attribute [local irreducible] JL JC JQ JO LO PO JA JX Ct

/-- What the laws find of their marks. -/
def heldS : List Str → Nat → Int
  | [], k => k
  | x :: l, k => if x = mt k then heldS l (k + 1) else -1
def heldC : List Cell → Nat → Int
  | [], k => k
  | x :: l, k => if x.1 = mt k then (if x.2 = mt (k + 1) then heldC l (k + 2) else -1) else -1
theorem heldS_mark : ∀ (l : List Str) (k : Nat), heldS (markS l k) k = ((k + l.length : Nat) : Int)
  | [], k => rfl
  | x :: l, k => by
    rw [markS, heldS, if_pos rfl, heldS_mark l (k + 1), List.length_cons]
    congr 1; omega
theorem heldC_mark : ∀ (l : List Cell) (k : Nat), heldC (markC l k) k = ((k + 2 * l.length : Nat) : Int)
  | [], k => rfl
  | x :: l, k => by
    rw [markC, heldC, if_pos rfl, if_pos rfl, heldC_mark l (k + 2), List.length_cons]
    congr 1; omega
theorem heldS_step {s : List Str} {j k : Nat} (h : j < s.length) : heldS (s.drop j) k = if s.getD j [] = mt k then heldS (s.drop (j + 1)) (k + 1) else -1 := by
  rw [drop_at (getD_some (d := []) h), heldS]
theorem heldC_step {s : List Cell} {j k : Nat} (h : j < s.length) : heldC (s.drop j) k = if (s.getD j c0).1 = mt k then (if (s.getD j c0).2 = mt (k + 1) then heldC (s.drop (j + 1)) (k + 2) else -1) else -1 := by
  rw [drop_at (getD_some (d := c0) h), heldC]
theorem markC_two {X : List Cell} {j : Nat} {a b v : Str} (h : j < X.length) : (X.set j (a, v)).set j (((X.set j (a, v)).getD j c0).1, b) = X.set j (a, b) := by
  have : (X.set j (a, v)).getD j c0 = (a, v) := by simp [h]
  rw [this, List.set_set]
theorem heldS_lo : ∀ (l : List Str) (k : Nat), -1 ≤ heldS l k ∧ heldS l k ≤ ((k + l.length : Nat) : Int)
  | [], k => by simp only [heldS, List.length_nil]; omega
  | x :: l, k => by
    have := heldS_lo l (k + 1)
    unfold heldS
    rw [List.length_cons]
    split <;> omega
theorem heldC_lo : ∀ (l : List Cell) (k : Nat), -1 ≤ heldC l k ∧ heldC l k ≤ ((k + 2 * l.length : Nat) : Int)
  | [], k => by simp only [heldC, List.length_nil]; omega
  | x :: l, k => by
    have := heldC_lo l (k + 2)
    unfold heldC
    rw [List.length_cons]
    split
    · split <;> omega
    · omega

theorem C_markText (k : Nat) (h0 : 0 < k) (h1 : k ≤ 100000000) :
    Ct Tryz.prog 37 [.int .i64 ((k : Nat) : Int)] [] (fun _ => True) (fun v A' => v = str (mt k) ∧ A' = []) := by
  refine Ct.intro Tryz.func37 rfl Tryz.ntmps37 (lb rfl) fun w0 hpre => ?_
  refine jC <| jF <| jH rfl (jG (v := str []) rfl) <| jE <| jB <| jC <| jC <| jF <| jH rfl (jD (v := nv k) rfl) <| jH rfl (PO.leq rfl rfl) ?_
  refine jE <| jB ?_
  by_cases h_1 : ((k : Nat) : Int) ≤ 0
  · refine jQ (cB (dT h_1)) <| jC <| jF <| jH rfl (jG (v := str [109, 48]) rfl) <| jE <| jB <| jK <| jO <| jN (.inl rfl) rfl (jJ (v := str [109, 48]) rfl) (List.nil_sublist _) ?_
    (exfalso; omega)
  refine jL (cB (dF h_1)) <| jM <| jB <| jC <| jF <| jH rfl (jG (v := str []) rfl) <| jE <| jB <| jC <| jZ ?_
  refine jo (fun k_ e_ L_ => ∃ k1 : Nat, ∃ out : Str, (k1 ≤ k) ∧ (out.length + k1 ≤ k) ∧ (mtAcc k1 out = mtAcc k []) ∧ e_ 0 = nv k1 ∧ e_ 2 = str [] ∧ e_ 3 = str out ∧ L_ = [] ∧ k_ = k1 + 1) _ ⟨k, [], by omega, (by simp), rfl, rfl, rfl, rfl, rfl, rfl⟩ ?_
  rintro _ e_2 _ ⟨k1, out, hk, hl, hR, he_3, he_4, he_5, rfl, rfl⟩
  refine jC <| jC <| jF <| jH rfl (jD (v := nv k1) he_3) <| jH rfl (PO.gtr rfl rfl) <| jE <| jB ?_
  by_cases h_6 : 0 < ((k1 : Nat) : Int)
  · have hk0 : 0 < k1 := by omega
    refine jQ (cB (dT h_6)) <| jM <| jB <| jZ <| jC <| jF <| jH rfl (jD (v := nv k1) he_3) <| jH rfl (PO.remN (c := ((k1 % 10 : Nat) : Int)) rfl rfl (by omega) (by omega) (by omega)) <| jH rfl (jT (c := ((48 + (k1 % 10) : Nat) : Int)) rfl rfl (wr (by omega))) <| jH rfl (PO.convI (c := ((48 + (k1 % 10) : Nat) : Int)) Tryz.underlying3 Tryz.underlying5 rfl (wr8 (by omega))) ?_
    refine jI rfl (jy (ps := [(0, .int .u8 ((48 + (k1 % 10) : Nat) : Int))]) (cur := #[.int .u8 ((48 + (k1 % 10) : Nat) : Int)]) Tryz.underlying95 Tryz.sizeOf5 Tryz.zeroValue5 rfl (by kernel_rfl) (by decide) (by decide)) ?_
    rintro _ _ ⟨a_7, rfl, rfl⟩
    refine JL.ld rfl (LO.toStr 0 [UInt8.ofNat (48 + (k1 % 10))] rfl Tryz.underlying95 Tryz.underlying5 kN rfl (by rw [List.map_cons, List.map_nil, encB_of _ (by omega)])) <| jH rfl (jD (v := str out) he_5) <| jH rfl (PO.addS rfl rfl (by (try simp only [List.length_append, List.length_cons, List.length_nil, List.length_drop, List.length_take]); omega)) <| jH rfl (jG (v := str ([UInt8.ofNat (48 + (k1 % 10))] ++ out)) rfl) <| jE <| jB <| jF <| jH rfl (jD (v := nv k1) he_3) <| jH rfl (PO.quoN (c := ((k1 / 10 : Nat) : Int)) rfl rfl (by omega) (by omega) (by omega) (wr (by omega))) <| jH rfl (jG (v := iv ((k1 / 10 : Nat) : Int)) rfl) ?_
    refine jE <| jk <| JQ.pick [] (A := []) rfl ?_
    refine jl (k1 / 10 + 1) (by omega) ⟨(k1 / 10), [UInt8.ofNat (48 + (k1 % 10))] ++ out, by omega, (by simp only [List.length_append, List.length_cons, List.length_nil]; omega), (by rw [mtAcc_step hk0]; exact hR), rfl, he_4, rfl, rfl, rfl⟩
  refine jL (cB (dF h_6)) <| jm <| jY <| jY <| jn <| jB <| jC <| jF <| jH rfl (jD (v := str out) he_5) <| jH rfl (PO.addS rfl rfl (by (try simp only [List.length_append, List.length_cons, List.length_nil, List.length_drop, List.length_take]); omega)) ?_
  refine jH rfl (jG (v := str ([109] ++ out)) rfl) <| jE <| jB <| jK <| jN (.inl rfl) rfl (jJ (v := str ([109] ++ out)) rfl) (List.nil_sublist _) ?_
  (refine ⟨?_, rfl⟩; rw [mt, ← hR, mtAcc_zero (by omega)]; rfl)

theorem C_markStringS (a : Option Addr) (c : Nat) (l : List Str) (k : Nat) (h0 : 0 < k) (h1 : k + l.length ≤ 100000000) :
    Ct Tryz.prog 22 [.slice a l.length c, .int .i64 ((k : Nat) : Int)] [Res.row (.slice a l.length c) 9 1 l.length (l.map str)] (fun _ => True) (fun v A' => v = .int .i64 ((k + l.length : Nat) : Int) ∧ A' = [.row (.slice a l.length c) 9 1 l.length ((markS l k).map str)]) := by
  refine Ct.intro Tryz.func22 rfl Tryz.ntmps22 (lb rfl) fun w0 hpre => ?_
  refine jC <| jF <| jH rfl (jG (v := iv 0) rfl) <| jE <| jB <| jC <| jC <| jF <| jH rfl (jG (v := iv 0) rfl) <| jE ?_
  refine jB <| jZ <| jo (fun k_ e_ L_ => ∃ j : Nat, (j ≤ l.length) ∧ e_ 0 = .slice a l.length c ∧ e_ 1 = iv ((k + j : Nat) : Int) ∧ e_ 4 = iv 0 ∧ e_ 5 = nv j ∧ L_ = [Res.row (.slice a l.length c) 9 1 l.length (((markS l k).take j ++ l.drop j).map str)] ∧ k_ = l.length - j) _ ⟨0, by omega, rfl, rfl, rfl, rfl, rfl, rfl⟩ ?_
  rintro _ e_1 _ ⟨j, hj, he_2, he_3, he_4, he_5, rfl, rfl⟩
  refine jC <| jC <| jF <| jH rfl (jD (v := nv j) he_5) <| jH rfl (jD (v := .slice a l.length c) he_2) <| jH rfl (jh kF rfl) <| jH rfl (jb rfl rfl) <| jE <| jB ?_
  by_cases h_6 : ((j : Nat) : Int) < ((l.length : Nat) : Int)
  · have hlt : j < l.length := by omega
    refine jQ (cB (dT h_6)) <| jM <| jB <| jC <| jZ <| jC <| jF <| jH rfl (jD (v := .slice a l.length c) he_2) <| jH rfl (jD (v := nv j) he_5) <| jH rfl (jD (v := iv ((k + j : Nat) : Int)) he_3) ?_
    refine jI rfl (jR [] Tryz.call37 rfl (C_markText (k + j) (by omega) (by omega)) rfl (fun _ _ => trivial)) ?_
    rintro _ _ ⟨_, ⟨rfl, rfl⟩, rfl⟩
    refine JL.facts fun hst => ?_
    obtain ⟨hr_7, hr_7b, -⟩ := row_some 0 rfl (by omega) hst
    refine jH rfl (jV (i := j) kF kI hr_7 hr_7b rfl rfl (by omega)) ?_
    refine jI rfl (ju 0 (vs := [str (mt (k + j))]) (cs' := (((markS l k).take j ++ l.drop j).set j (mt (k + j))).map str) rfl rfl rfl rfl kI rfl rfl (by decide) (by rw [List.length_map]; rw [mark_len (markS_len l k) hj]; omega) (setS (by rw [mark_len (markS_len l k) hj]; omega))) ?_
    rintro _ _ rfl
    refine jE <| jB <| jF <| jH rfl (jD (v := iv ((k + j : Nat) : Int)) he_3) <| jH rfl (jT (c := (((k + j) + 1 : Nat) : Int)) rfl rfl (wr (by omega))) <| jH rfl (jG (v := iv (((k + j) + 1 : Nat) : Int)) rfl) <| jE <| jk <| jB <| jF ?_
    refine jH rfl (jD (v := nv j) he_5) <| jH rfl (jT (c := ((j + 1 : Nat) : Int)) rfl rfl (wr (by omega))) <| jH rfl (jG (v := iv ((j + 1 : Nat) : Int)) rfl) <| jE ?_
    refine jl (l.length - (j + 1)) (by omega) ⟨j + 1, by omega, he_2, rfl, he_4, rfl, (by rw [← markS_step hlt]; rfl), rfl⟩
  refine jL (cB (dF h_6)) <| jm <| jY <| jY <| jn <| jB <| jC <| jF <| jH rfl (jD (v := iv ((k + j : Nat) : Int)) he_3) <| jH rfl (jG (v := iv ((k + j : Nat) : Int)) rfl) ?_
  refine jE <| jB <| jK <| jN (.inl rfl) rfl (jJ (v := iv ((k + j : Nat) : Int)) rfl) (List.Sublist.refl _) ?_
  exact ⟨by rw [show j = l.length by omega], by rw [mark_all (markS_len l k) (by omega)]⟩

theorem C_markCellS (a : Option Addr) (c : Nat) (l : List Cell) (k : Nat) (h0 : 0 < k) (h1 : k + 2 * l.length ≤ 100000000) :
    Ct Tryz.prog 18 [.slice a l.length c, .int .i64 ((k : Nat) : Int)] [Res.row (.slice a l.length c) 62 2 l.length (l.flatMap encC)] (fun _ => True) (fun v A' => v = .int .i64 ((k + 2 * l.length : Nat) : Int) ∧ A' = [.row (.slice a l.length c) 62 2 l.length ((markC l k).flatMap encC)]) := by
  refine Ct.intro Tryz.func18 rfl Tryz.ntmps18 (lb rfl) fun w0 hpre => ?_
  refine jC <| jF <| jH rfl (jG (v := iv 0) rfl) <| jE <| jB <| jC <| jC <| jF <| jH rfl (jG (v := iv 0) rfl) <| jE ?_
  refine jB <| jZ <| jo (fun k_ e_ L_ => ∃ j : Nat, (j ≤ l.length) ∧ e_ 0 = .slice a l.length c ∧ e_ 1 = iv ((k + 2 * j : Nat) : Int) ∧ e_ 4 = iv 0 ∧ e_ 5 = nv j ∧ L_ = [Res.row (.slice a l.length c) 62 2 l.length (((markC l k).take j ++ l.drop j).flatMap encC)] ∧ k_ = l.length - j) _ ⟨0, by omega, rfl, rfl, rfl, rfl, rfl, rfl⟩ ?_
  rintro _ e_1 _ ⟨j, hj, he_2, he_3, he_4, he_5, rfl, rfl⟩
  refine jC <| jC <| jF <| jH rfl (jD (v := nv j) he_5) <| jH rfl (jD (v := .slice a l.length c) he_2) <| jH rfl (jh kD rfl) <| jH rfl (jb rfl rfl) <| jE <| jB ?_
  by_cases h_6 : ((j : Nat) : Int) < ((l.length : Nat) : Int)
  · have hlt : j < l.length := by omega
    refine jQ (cB (dT h_6)) <| jM <| jB <| jC <| jZ <| jC <| jF <| jH rfl (jD (v := .slice a l.length c) he_2) <| jH rfl (jD (v := nv j) he_5) <| jH rfl (jD (v := iv ((k + 2 * j : Nat) : Int)) he_3) ?_
    refine jI rfl (jR [] Tryz.call37 rfl (C_markText (k + 2 * j) (by omega) (by omega)) rfl (fun _ _ => trivial)) ?_
    rintro _ _ ⟨_, ⟨rfl, rfl⟩, rfl⟩
    refine JL.facts fun hst => ?_
    obtain ⟨hr_7, hr_7b, -⟩ := row_some 0 rfl (by omega) hst
    refine jH rfl (jV (i := j) kD kG hr_7 hr_7b rfl rfl (by omega)) <| jH rfl (jX fo62_0 hr_7 rfl) ?_
    refine jI rfl (ju 0 (vs := [str (mt (k + 2 * j))]) (cs' := (((markC l k).take j ++ l.drop j).set j (mt (k + 2 * j), (((markC l k).take j ++ l.drop j).getD j c0).2)).flatMap encC) rfl rfl rfl rfl kI rfl rfl (by decide) (by rw [lenC]; (try rw [List.length_set]); rw [mark_len (markC_len l k) hj]; omega) (set1 (by (try rw [List.length_set]); rw [mark_len (markC_len l k) hj]; omega))) ?_
    rintro _ _ rfl
    refine jE <| jB <| jC <| jF <| jH rfl (jD (v := iv ((k + 2 * j : Nat) : Int)) he_3) <| jH rfl (jT (c := (((k + 2 * j) + 1 : Nat) : Int)) rfl rfl (wr (by omega))) <| jH rfl (jG (v := iv (((k + 2 * j) + 1 : Nat) : Int)) rfl) <| jE <| jB <| jC ?_
    refine jF <| jH rfl (jD (v := .slice a l.length c) he_2) <| jH rfl (jD (v := nv j) he_5) <| jH rfl (jD (v := iv (((k + 2 * j) + 1 : Nat) : Int)) rfl) ?_
    refine jI rfl (jR [] Tryz.call37 rfl (C_markText ((k + 2 * j) + 1) (by omega) (by omega)) rfl (fun _ _ => trivial)) ?_
    rintro _ _ ⟨_, ⟨rfl, rfl⟩, rfl⟩
    refine jH rfl (jV (i := j) kD kG hr_7 hr_7b rfl rfl (by omega)) <| jH rfl (jX fo62_1 hr_7 rfl) ?_
    refine jI rfl (ju 0 (vs := [str (mt ((k + 2 * j) + 1))]) (cs' := ((((markC l k).take j ++ l.drop j).set j (mt (k + 2 * j), (((markC l k).take j ++ l.drop j).getD j c0).2)).set j (((((markC l k).take j ++ l.drop j).set j (mt (k + 2 * j), (((markC l k).take j ++ l.drop j).getD j c0).2)).getD j c0).1, mt ((k + 2 * j) + 1))).flatMap encC) rfl rfl rfl rfl kI rfl rfl (by decide) (by rw [lenC]; (try rw [List.length_set]); rw [mark_len (markC_len l k) hj]; omega) (set2 (by (try rw [List.length_set]); rw [mark_len (markC_len l k) hj]; omega))) ?_
    rintro _ _ rfl
    refine jE <| jB <| jF <| jH rfl (jD (v := iv (((k + 2 * j) + 1 : Nat) : Int)) rfl) <| jH rfl (jT (c := ((((k + 2 * j) + 1) + 1 : Nat) : Int)) rfl rfl (wr (by omega))) <| jH rfl (jG (v := iv ((((k + 2 * j) + 1) + 1 : Nat) : Int)) rfl) <| jE <| jk <| jB <| jF ?_
    refine jH rfl (jD (v := nv j) he_5) <| jH rfl (jT (c := ((j + 1 : Nat) : Int)) rfl rfl (wr (by omega))) <| jH rfl (jG (v := iv ((j + 1 : Nat) : Int)) rfl) <| jE ?_
    refine jl (l.length - (j + 1)) (by omega) ⟨j + 1, by omega, he_2, rfl, he_4, rfl, (congrArg (fun q : List Cell => [Res.row (.slice a l.length c) 62 2 l.length (q.flatMap encC)]) ((markC_two (by rw [mark_len (markC_len l k) hj]; omega)).trans (markC_step hlt))), rfl⟩
  refine jL (cB (dF h_6)) <| jm <| jY <| jY <| jn <| jB <| jC <| jF <| jH rfl (jD (v := iv ((k + 2 * j : Nat) : Int)) he_3) <| jH rfl (jG (v := iv ((k + 2 * j : Nat) : Int)) rfl) ?_
  refine jE <| jB <| jK <| jN (.inl rfl) rfl (jJ (v := iv ((k + 2 * j : Nat) : Int)) rfl) (List.Sublist.refl _) ?_
  exact ⟨by rw [show j = l.length by omega], by rw [mark_all (markC_len l k) (by omega)]⟩

theorem C_heldStringS (a : Option Addr) (n c : Nat) (s : List Str) (k : Nat) (hn : s.length = n) (h0 : 0 < k) (h1 : k + 1 * s.length ≤ 100000000) :
    Ct Tryz.prog 27 [.slice a n c, .int .i64 ((k : Nat) : Int)] [] (fun w => Sees w (.slice a n c) 1 s.length (s.map str)) (fun v A' => v = .int .i64 (heldS s k) ∧ A' = []) := by
  refine Ct.intro Tryz.func27 rfl Tryz.ntmps27 (lb rfl) fun w0 hpre => ?_
  have hs_a : Sees w0 _ _ _ _ := hpre
  refine jC <| jF <| jH rfl (jG (v := iv 0) rfl) <| jE <| jB <| jC <| jC <| jF <| jH rfl (jG (v := iv 0) rfl) <| jE ?_
  refine jB <| jZ <| jo (fun k_ e_ L_ => ∃ j : Nat, (j ≤ s.length) ∧ (heldS (s.drop j) (k + j) = heldS s k) ∧ e_ 0 = .slice a n c ∧ e_ 1 = iv ((k + j : Nat) : Int) ∧ e_ 5 = nv j ∧ L_ = [] ∧ k_ = s.length - j) _ ⟨0, by omega, rfl, rfl, rfl, rfl, rfl, rfl⟩ ?_
  rintro _ e_1 _ ⟨j, hj, hR, he_2, he_3, he_4, rfl, rfl⟩
  refine jC <| jC <| jF <| jH rfl (jD (v := nv j) he_4) <| jH rfl (jD (v := .slice a n c) he_2) <| jH rfl (jh kF rfl) <| jH rfl (jb rfl rfl) <| jE <| jB ?_
  by_cases h_5 : ((j : Nat) : Int) < ((n : Nat) : Int)
  · have hlt : j < s.length := by omega
    refine jQ (cB (dT h_5)) <| jM <| jB <| jC <| jZ <| jC <| jC <| jv [] 6 mixed (by simp) <| jc 0 rfl (by kernel_rfl) (NP.th (NP.th (NP.bl (NP.th (NP.th (NP.bl (NP.th NP.body))))))) (by kernel_rfl) (by kernel_rfl) rfl (jD (v := .slice a n c) he_2) <| jc 1 rfl (by kernel_rfl) (NP.th (NP.th (NP.bl (NP.th (NP.th (NP.bl (NP.th NP.body))))))) (by kernel_rfl) (by kernel_rfl) rfl (jD (v := nv j) he_4) ?_
    obtain ⟨hr_6, hr_6b, -⟩ := sees_some hs_a (by omega)
    refine jc 2 rfl (by kernel_rfl) (NP.th (NP.th (NP.bl (NP.th (NP.th (NP.bl (NP.th NP.body))))))) (by kernel_rfl) (by kernel_rfl) rfl (jV (i := j) kF kI hr_6 hr_6b rfl rfl (by omega)) <| JA.take 3 rfl (by kernel_rfl) (NP.th (NP.th (NP.bl (NP.th (NP.th (NP.bl (NP.th NP.body))))))) (by kernel_rfl) (by kernel_rfl) (by kernel_rfl) rfl (ji (v := str (s.getD j [])) hs_a nM rfl kH (atS (by omega))) <| jc 4 rfl (by kernel_rfl) (NP.th (NP.th (NP.bl (NP.th (NP.th (NP.bl (NP.th NP.body))))))) (by kernel_rfl) (by kernel_rfl) rfl (jD (v := iv ((k + j : Nat) : Int)) he_3) <| JA.one (i := 5) (by kernel_rfl) ?_
    refine jz rfl rfl (jR [] Tryz.call37 rfl (C_markText (k + j) (by omega) (by omega)) rfl (fun _ _ => trivial)) ?_
    rintro _ _ ⟨_, ⟨rfl, rfl⟩, rfl⟩
    refine ⟨(fun _ h => by cases h), ?_⟩
    refine jc 6 rfl (by kernel_rfl) (NP.th (NP.th (NP.bl (NP.th (NP.th (NP.bl (NP.th NP.body))))))) (by kernel_rfl) (by kernel_rfl) rfl (kA rfl rfl) <| kB (by kernel_rfl) <| jB ?_
    by_cases h_7 : (s.getD j []) = (mt (k + j))
    · have heq0 := h_7
      refine jL (cB (cN (dT h_7))) <| jM <| jB <| jF <| jH rfl (jD (v := iv ((k + j : Nat) : Int)) he_3) <| jH rfl (jT (c := (((k + j) + 1 : Nat) : Int)) rfl rfl (wr (by omega))) <| jH rfl (jG (v := iv (((k + j) + 1 : Nat) : Int)) rfl) <| jE <| jk <| jB ?_
      refine jF <| jH rfl (jD (v := nv j) he_4) <| jH rfl (jT (c := ((j + 1 : Nat) : Int)) rfl rfl (wr (by omega))) <| jH rfl (jG (v := iv ((j + 1 : Nat) : Int)) rfl) <| jE ?_
      refine jl (s.length - (j + 1)) (by omega) ⟨j + 1, by omega, (by rw [heldS_step hlt, if_pos heq0] at hR; exact hR), he_2, rfl, rfl, rfl, rfl⟩
    have hne0 := h_7
    refine jQ (cB (cN (dF h_7))) <| jC <| jF <| jH rfl (jG (v := iv (-1)) rfl) <| jE <| jB <| jK <| jO <| je <| jO ?_
    refine jO <| je <| jO <| jN (.inl rfl) rfl (jJ (v := iv (-1)) rfl) (List.nil_sublist _) ?_
    refine ⟨?_, rfl⟩
    rw [heldS_step hlt, if_neg hne0] at hR
    rw [← hR]
  refine jL (cB (dF h_5)) <| jm <| jY <| jY <| jn <| jB <| jC <| jF <| jH rfl (jD (v := iv ((k + j : Nat) : Int)) he_3) <| jH rfl (jG (v := iv ((k + j : Nat) : Int)) rfl) ?_
  refine jE <| jB <| jK <| jN (.inl rfl) rfl (jJ (v := iv ((k + j : Nat) : Int)) rfl) (List.nil_sublist _) ?_
  refine ⟨?_, rfl⟩
  rw [List.drop_of_length_le (by omega)] at hR
  rw [← hR]
  rfl

theorem C_heldCellS (a : Option Addr) (n c : Nat) (s : List Cell) (k : Nat) (hn : s.length = n) (h0 : 0 < k) (h1 : k + 2 * s.length ≤ 100000000) :
    Ct Tryz.prog 23 [.slice a n c, .int .i64 ((k : Nat) : Int)] [] (fun w => Sees w (.slice a n c) 2 s.length (s.flatMap encC)) (fun v A' => v = .int .i64 (heldC s k) ∧ A' = []) := by
  refine Ct.intro Tryz.func23 rfl Tryz.ntmps23 (lb rfl) fun w0 hpre => ?_
  have hs_a : Sees w0 _ _ _ _ := hpre
  refine jC <| jF <| jH rfl (jG (v := iv 0) rfl) <| jE <| jB <| jC <| jC <| jF <| jH rfl (jG (v := iv 0) rfl) <| jE ?_
  refine jB <| jZ <| jo (fun k_ e_ L_ => ∃ j : Nat, (j ≤ s.length) ∧ (heldC (s.drop j) (k + 2 * j) = heldC s k) ∧ e_ 0 = .slice a n c ∧ e_ 1 = iv ((k + 2 * j : Nat) : Int) ∧ e_ 5 = nv j ∧ L_ = [] ∧ k_ = s.length - j) _ ⟨0, by omega, rfl, rfl, rfl, rfl, rfl, rfl⟩ ?_
  rintro _ e_1 _ ⟨j, hj, hR, he_2, he_3, he_4, rfl, rfl⟩
  refine jC <| jC <| jF <| jH rfl (jD (v := nv j) he_4) <| jH rfl (jD (v := .slice a n c) he_2) <| jH rfl (jh kD rfl) <| jH rfl (jb rfl rfl) <| jE <| jB ?_
  by_cases h_5 : ((j : Nat) : Int) < ((n : Nat) : Int)
  · have hlt : j < s.length := by omega
    refine jQ (cB (dT h_5)) <| jM <| jB <| jC <| jZ <| jC <| jC <| jv [] 7 mixed (by simp) <| jc 0 rfl (by kernel_rfl) (NP.th (NP.th (NP.bl (NP.th (NP.th (NP.bl (NP.th NP.body))))))) (by kernel_rfl) (by kernel_rfl) rfl (jD (v := .slice a n c) he_2) <| jc 1 rfl (by kernel_rfl) (NP.th (NP.th (NP.bl (NP.th (NP.th (NP.bl (NP.th NP.body))))))) (by kernel_rfl) (by kernel_rfl) rfl (jD (v := nv j) he_4) ?_
    obtain ⟨hr_6, hr_6b, -⟩ := sees_some hs_a (by omega)
    refine jc 2 rfl (by kernel_rfl) (NP.th (NP.th (NP.bl (NP.th (NP.th (NP.bl (NP.th NP.body))))))) (by kernel_rfl) (by kernel_rfl) rfl (jV (i := j) kD kG hr_6 hr_6b rfl rfl (by omega)) <| jc 3 rfl (by kernel_rfl) (NP.th (NP.th (NP.bl (NP.th (NP.th (NP.bl (NP.th NP.body))))))) (by kernel_rfl) (by kernel_rfl) rfl (jX fo62_0 hr_6 rfl) <| JA.take 4 rfl (by kernel_rfl) (NP.th (NP.th (NP.bl (NP.th (NP.th (NP.bl (NP.th NP.body))))))) (by kernel_rfl) (by kernel_rfl) (by kernel_rfl) rfl (ji (v := str ((s.getD j c0).1)) hs_a nM rfl kH (atC1 (by omega))) <| jc 5 rfl (by kernel_rfl) (NP.th (NP.th (NP.bl (NP.th (NP.th (NP.bl (NP.th NP.body))))))) (by kernel_rfl) (by kernel_rfl) rfl (jD (v := iv ((k + 2 * j : Nat) : Int)) he_3) <| JA.one (i := 6) (by kernel_rfl) ?_
    refine jz rfl rfl (jR [] Tryz.call37 rfl (C_markText (k + 2 * j) (by omega) (by omega)) rfl (fun _ _ => trivial)) ?_
    rintro _ _ ⟨_, ⟨rfl, rfl⟩, rfl⟩
    refine ⟨(fun _ h => by cases h), ?_⟩
    refine jc 7 rfl (by kernel_rfl) (NP.th (NP.th (NP.bl (NP.th (NP.th (NP.bl (NP.th NP.body))))))) (by kernel_rfl) (by kernel_rfl) rfl (kA rfl rfl) <| kB (by kernel_rfl) <| jB ?_
    by_cases h_7 : ((s.getD j c0).1) = (mt (k + 2 * j))
    · have heq0 := h_7
      refine jL (cB (cN (dT h_7))) <| jM <| jB <| jC <| jF <| jH rfl (jD (v := iv ((k + 2 * j : Nat) : Int)) he_3) <| jH rfl (jT (c := (((k + 2 * j) + 1 : Nat) : Int)) rfl rfl (wr (by omega))) <| jH rfl (jG (v := iv (((k + 2 * j) + 1 : Nat) : Int)) rfl) <| jE <| jB ?_
      refine jC <| jC <| jv [] 7 mixed (by simp) <| jc 0 rfl (by kernel_rfl) (NP.th (NP.th (NP.bl (NP.th (NP.th (NP.bl (NP.th NP.body))))))) (by kernel_rfl) (by kernel_rfl) rfl (jD (v := .slice a n c) he_2) <| jc 1 rfl (by kernel_rfl) (NP.th (NP.th (NP.bl (NP.th (NP.th (NP.bl (NP.th NP.body))))))) (by kernel_rfl) (by kernel_rfl) rfl (jD (v := nv j) he_4) <| jc 2 rfl (by kernel_rfl) (NP.th (NP.th (NP.bl (NP.th (NP.th (NP.bl (NP.th NP.body))))))) (by kernel_rfl) (by kernel_rfl) rfl (jV (i := j) kD kG hr_6 hr_6b rfl rfl (by omega)) <| jc 3 rfl (by kernel_rfl) (NP.th (NP.th (NP.bl (NP.th (NP.th (NP.bl (NP.th NP.body))))))) (by kernel_rfl) (by kernel_rfl) rfl (jX fo62_1 hr_6 rfl) <| JA.take 4 rfl (by kernel_rfl) (NP.th (NP.th (NP.bl (NP.th (NP.th (NP.bl (NP.th NP.body))))))) (by kernel_rfl) (by kernel_rfl) (by kernel_rfl) rfl (ji (v := str ((s.getD j c0).2)) hs_a nM rfl kH (atC2 (by omega))) <| jc 5 rfl (by kernel_rfl) (NP.th (NP.th (NP.bl (NP.th (NP.th (NP.bl (NP.th NP.body))))))) (by kernel_rfl) (by kernel_rfl) rfl (jD (v := iv (((k + 2 * j) + 1 : Nat) : Int)) rfl) <| JA.one (i := 6) (by kernel_rfl) ?_
      refine jz rfl rfl (jR [] Tryz.call37 rfl (C_markText ((k + 2 * j) + 1) (by omega) (by omega)) rfl (fun _ _ => trivial)) ?_
      rintro _ _ ⟨_, ⟨rfl, rfl⟩, rfl⟩
      refine ⟨(fun _ h => by cases h), ?_⟩
      refine jc 7 rfl (by kernel_rfl) (NP.th (NP.th (NP.bl (NP.th (NP.th (NP.bl (NP.th NP.body))))))) (by kernel_rfl) (by kernel_rfl) rfl (kA rfl rfl) <| kB (by kernel_rfl) <| jB ?_
      by_cases h_8 : ((s.getD j c0).2) = (mt ((k + 2 * j) + 1))
      · have heq1 := h_8
        refine jL (cB (cN (dT h_8))) <| jM <| jB <| jF <| jH rfl (jD (v := iv (((k + 2 * j) + 1 : Nat) : Int)) rfl) <| jH rfl (jT (c := ((((k + 2 * j) + 1) + 1 : Nat) : Int)) rfl rfl (wr (by omega))) <| jH rfl (jG (v := iv ((((k + 2 * j) + 1) + 1 : Nat) : Int)) rfl) <| jE <| jk <| jB ?_
        refine jF <| jH rfl (jD (v := nv j) he_4) <| jH rfl (jT (c := ((j + 1 : Nat) : Int)) rfl rfl (wr (by omega))) <| jH rfl (jG (v := iv ((j + 1 : Nat) : Int)) rfl) <| jE ?_
        refine jl (s.length - (j + 1)) (by omega) ⟨j + 1, by omega, (by rw [heldC_step hlt, if_pos heq0, if_pos heq1] at hR; exact hR), he_2, rfl, rfl, rfl, rfl⟩
      have hne1 := h_8
      refine jQ (cB (cN (dF h_8))) <| jC <| jF <| jH rfl (jG (v := iv (-1)) rfl) <| jE <| jB <| jK <| jO <| je <| jO ?_
      refine jO <| je <| jO <| jN (.inl rfl) rfl (jJ (v := iv (-1)) rfl) (List.nil_sublist _) ?_
      refine ⟨?_, rfl⟩
      rw [heldC_step hlt, if_pos heq0, if_neg hne1] at hR
      rw [← hR]
    have hne0 := h_7
    refine jQ (cB (cN (dF h_7))) <| jC <| jF <| jH rfl (jG (v := iv (-1)) rfl) <| jE <| jB <| jK <| jO <| je <| jO ?_
    refine jO <| je <| jO <| jN (.inl rfl) rfl (jJ (v := iv (-1)) rfl) (List.nil_sublist _) ?_
    refine ⟨?_, rfl⟩
    rw [heldC_step hlt, if_neg hne0] at hR
    rw [← hR]
  refine jL (cB (dF h_5)) <| jm <| jY <| jY <| jn <| jB <| jC <| jF <| jH rfl (jD (v := iv ((k + 2 * j : Nat) : Int)) he_3) <| jH rfl (jG (v := iv ((k + 2 * j : Nat) : Int)) rfl) ?_
  refine jE <| jB <| jK <| jN (.inl rfl) rfl (jJ (v := iv ((k + 2 * j : Nat) : Int)) rfl) (List.nil_sublist _) ?_
  refine ⟨?_, rfl⟩
  rw [List.drop_of_length_le (by omega)] at hR
  rw [← hR]
  rfl

end Go.Proofs.YtkmpmjficoohkaaGreatDoor

set_option linter.unusedSimpArgs false
set_option linter.unusedVariables false
set_option linter.unnecessarySimpa false
namespace Go.Proofs.YtkmpmjficoohkaaGreatDoor
open Go Go.RowKit
attribute [local irreducible] JL JC JQ JO LO PO JA JX Ct

theorem heldS_pos : ∀ (l : List Str) (k : Nat), heldS l k = -1 ∨ (k : Int) ≤ heldS l k
  | [], k => .inr (Int.le_refl _)
  | x :: l, k => by
    have := heldS_pos l (k + 1)
    unfold heldS
    split <;> omega
theorem heldC_pos : ∀ (l : List Cell) (k : Nat), heldC l k = -1 ∨ (k : Int) ≤ heldC l k
  | [], k => .inr (Int.le_refl _)
  | x :: l, k => by
    have := heldC_pos l (k + 2)
    unfold heldC
    split
    · split <;> omega
    · omega
def heldT (r w : List Str) (k : Int) : Int := if heldS r k.toNat < 0 then -1 else if heldS w (heldS r k.toNat).toNat < 0 then -1 else heldS w (heldS r k.toNat).toNat
def heldM (s : List Cell) (r w : List Str) (k : Int) : Int := if heldC s k.toNat < 0 then -1 else if heldT r w (heldC s k.toNat) < 0 then -1 else heldT r w (heldC s k.toNat)
theorem heldT_mark (r w : List Str) (k : Nat) : heldT (markS r k) (markS w (k + r.length)) k = ((k + r.length + w.length : Nat) : Int) := by
  have h1 := heldS_mark r k
  have h2 := heldS_mark w (k + r.length)
  unfold heldT
  rw [Int.toNat_natCast, h1, Int.toNat_natCast, h2, if_neg (by omega), if_neg (by omega)]
theorem heldM_mark (s : List Cell) (r w : List Str) (k : Nat) : heldM (markC s k) (markS r (k + 2 * s.length)) (markS w (k + 2 * s.length + r.length)) k = ((k + 2 * s.length + r.length + w.length : Nat) : Int) := by
  have h1 := heldC_mark s k
  have h2 := heldT_mark r w (k + 2 * s.length)
  unfold heldM
  rw [Int.toNat_natCast, h1, h2, if_neg (by omega), if_neg (by omega)]
theorem C_heldStringSI (a : Option Addr) (n c : Nat) (s : List Str) (k : Int) (hn : s.length = n) (h0 : 0 < k) (h1 : k + s.length ≤ 100000000) :
    Ct Tryz.prog 27 [.slice a n c, .int .i64 k] [] (fun w => Sees w (.slice a n c) 1 n (s.map str)) (fun v A' => v = .int .i64 (heldS s k.toNat) ∧ A' = []) := by
  have := C_heldStringS a n c s k.toNat hn (by omega) (by omega)
  rw [Int.toNat_of_nonneg (by omega)] at this
  subst hn
  exact this
theorem C_heldCellSI (a : Option Addr) (n c : Nat) (s : List Cell) (k : Int) (hn : s.length = n) (h0 : 0 < k) (h1 : k + 2 * s.length ≤ 100000000) :
    Ct Tryz.prog 23 [.slice a n c, .int .i64 k] [] (fun w => Sees w (.slice a n c) 2 n (s.flatMap encC)) (fun v A' => v = .int .i64 (heldC s k.toNat) ∧ A' = []) := by
  have := C_heldCellS a n c s k.toNat hn (by omega) (by omega)
  rw [Int.toNat_of_nonneg (by omega)] at this
  subst hn
  exact this

theorem C_eqTouch (a1 a2 b1 b2 : Option Addr) (c1 c2 d1 d2 : Nat) (r w r' w' : List Str) (h1 : r.length ≤ 9223372036854775807) (h2 : w.length ≤ 9223372036854775807) :
    Ct Tryz.prog 58 [.agg #[.slice a1 r.length c1, .slice a2 w.length c2], .agg #[.slice b1 r'.length d1, .slice b2 w'.length d2]] [] (fun w_ => Sees w_ (.slice a1 r.length c1) 1 r.length (r.map str) ∧ Sees w_ (.slice a2 w.length c2) 1 w.length (w.map str) ∧ Sees w_ (.slice b1 r'.length d1) 1 r'.length (r'.map str) ∧ Sees w_ (.slice b2 w'.length d2) 1 w'.length (w'.map str)) (fun v A' => v = .bool (decide (r = r') && decide (w = w')) ∧ A' = []) := by
  refine Ct.intro Tryz.func58 rfl Tryz.ntmps58 (lb rfl) fun w0 hpre => ?_
  have hs_a1 : Sees w0 _ _ _ _ := hpre.1
  have hs_a2 : Sees w0 _ _ _ _ := hpre.2.1
  have hs_b1 : Sees w0 _ _ _ _ := hpre.2.2.1
  have hs_b2 : Sees w0 _ _ _ _ := hpre.2.2.2
  refine jC <| jF ?_
  refine jI rfl (jp (cs := [.slice a1 r.length c1, .slice a2 w.length c2]) rfl rfl) ?_
  rintro _ _ ⟨b_1, rfl, rfl⟩
  refine jI rfl (jp (cs := [.slice b1 r'.length d1, .slice b2 w'.length d2]) rfl rfl) ?_
  rintro _ _ ⟨b_2, rfl, rfl⟩
  refine jH rfl (jG (v := .bool false) rfl) <| jE <| jB <| jC <| jC <| jF <| jH rfl (jS fo50_0 rfl) <| JL.ld rfl (jU 1 (v := .slice a1 r.length c1) rfl rfl kT rfl) <| jH rfl (jS fo50_0 rfl) <| JL.ld rfl (jU 0 (v := .slice b1 r'.length d1) rfl rfl kT rfl) ?_
  refine jI rfl (jR [] Tryz.call17 rfl (C_eqStringS a1 b1 c1 d1 r r' (by omega)) rfl (fun w hw => ⟨hw.seeOut_ hs_a1 nM, hw.seeOut_ hs_b1 nM⟩)) ?_
  rintro _ _ ⟨_, ⟨rfl, rfl⟩, rfl⟩
  refine jH rfl (jq rfl) <| jE <| jB ?_
  by_cases h_3 : r = r'
  · refine jL (cB (cN (dT h_3))) <| jM <| jB <| jC <| jC <| jF <| jH rfl (jS fo50_1 rfl) <| JL.ld rfl (jU 1 (v := .slice a2 w.length c2) rfl rfl kT rfl) <| jH rfl (jS fo50_1 rfl) <| JL.ld rfl (jU 0 (v := .slice b2 w'.length d2) rfl rfl kT rfl) ?_
    refine jI rfl (jR [] Tryz.call17 rfl (C_eqStringS a2 b2 c2 d2 w w' (by omega)) rfl (fun w hw => ⟨hw.seeOut_ hs_a2 nM, hw.seeOut_ hs_b2 nM⟩)) ?_
    rintro _ _ ⟨_, ⟨rfl, rfl⟩, rfl⟩
    refine jH rfl (jq rfl) <| jE <| jB ?_
    by_cases h_4 : w = w'
    · refine jL (cB (cN (dT h_4))) <| jM <| jB <| jC <| jF <| jH rfl (jG (v := .bool true) rfl) <| jE <| jB <| jK <| jN (.inl rfl) rfl (jJ (v := .bool true) rfl) (List.nil_sublist _) ?_
      refine ⟨?_, rfl⟩
      simp_all
    refine jQ (cB (cN (dF h_4))) <| jC <| jF <| jH rfl (jG (v := .bool false) rfl) <| jE <| jB <| jK <| jO <| jN (.inl rfl) rfl (jJ (v := .bool false) rfl) (List.nil_sublist _) ?_
    refine ⟨?_, rfl⟩
    simp_all
  refine jQ (cB (cN (dF h_3))) <| jC <| jF <| jH rfl (jG (v := .bool false) rfl) <| jE <| jB <| jK <| jO <| jN (.inl rfl) rfl (jJ (v := .bool false) rfl) (List.nil_sublist _) ?_
  refine ⟨?_, rfl⟩
  simp_all





theorem heldT_pos (r w : List Str) (k : Int) (h0 : 0 ≤ k) : (heldT r w k = -1 ∨ k ≤ heldT r w k) ∧ heldT r w k ≤ k + r.length + w.length := by
  have h1 := heldS_pos r k.toNat
  have h2 := heldS_lo r k.toNat
  have h3 := heldS_pos w (heldS r k.toNat).toNat
  have h4 := heldS_lo w (heldS r k.toNat).toNat
  unfold heldT
  split
  · omega
  · split <;> omega


end Go.Proofs.YtkmpmjficoohkaaGreatDoor

set_option linter.unusedSimpArgs false
set_option linter.unusedVariables false
set_option linter.unnecessarySimpa false
namespace Go.Proofs.YtkmpmjficoohkaaGreatDoor
open Go Go.RowKit
attribute [local irreducible] JL JC JQ JO LO PO JA JX Ct

theorem run_ov {tS tR : TypeId} {f : FuncId} {fn : Func} {P : Program} (hf : P.funcs[f]? = some fn) (hname : (fn.name == "runtime.NumGoroutine") = false) (hb : fn.body.isNone = true) (hn : Extern.findNext fn = none)
    (he : Extern.find fn = some (Extern.SlicesOverlaps.overlaps #[tS, tS] #[tR])) : ∀ args w, (callFunc f args).run P w = ((Extern.SlicesOverlaps.overlaps #[tS, tS] #[tR] args).run P w).andThen fun v w' => .ok (.value v) w' :=
  fun args w => run_callFunc_extern hf hname hb hn he args w

theorem C_cloneC (a : Option Addr) (c : Nat) (s : List Cell) (hn : s.length ≤ 1000000000000) :
    Ct Tryz.prog 31 [.slice a s.length c] [] (fun w_ => Sees w_ (.slice a s.length c) 2 s.length (s.flatMap encC)) (fun v A' => ∃ a' c', v = .slice a' s.length c' ∧ A' = [.row (.slice a' s.length c') 62 2 s.length (s.flatMap encC)]) := by
  refine Ct.intro Tryz.func31 rfl Tryz.ntmps31 (lb rfl) fun w0 hpre => ?_
  have hs_a : Sees w0 _ _ _ _ := hpre
  refine jC <| jF <| jH rfl (jG (v := .slice none 0 0) rfl) <| jE <| jB <| jC <| jC <| jF <| jH rfl (jD (v := .slice a s.length c) rfl) <| jH rfl (PO.eqNil kD rfl rfl) ?_
  refine jE <| jB ?_
  rcases Bool.eq_false_or_eq_true (a.isNone) with h_1 | h_1
  · refine jQ (cB h_1) <| jC <| jF <| jH rfl (jG (v := .slice none 0 0) rfl) <| jE <| jB <| jK <| jO <| JQ.nilrow 62 2 <| jN (.inl rfl) rfl (jJ (v := .slice none 0 0) rfl) (List.Sublist.refl _) ?_
    have ha : a = none := by simpa using h_1
    have hz : s.length = 0 := sees_none (ha ▸ hpre)
    have hs0 : s = [] := List.length_eq_zero_iff.1 hz
    subst hs0
    exact ⟨none, 0, rfl, rfl⟩
  refine jL (cB h_1) <| jM <| jB <| jC <| jF ?_
  refine jI rfl (jy (ps := []) (cur := #[]) kD kG kW rfl (by kernel_rfl) (by decide) (by decide)) ?_
  rintro _ _ ⟨a_2, rfl, rfl⟩
  refine jH rfl (jD (v := .slice a s.length c) rfl) ?_
  refine jI rfl (JO.append' 0 (q := s.length) (news := s.flatMap encC) (n' := s.length) (cs' := s.flatMap encC) rfl kD kD ka rfl (by' := 32) rfl rfl rfl rfl rfl (fun w hw => Src.sees (hw.seeOut_ hs_a nM) (oneC _)) (by (try simp only [LE]); omega) (by (try simp only [LE]); omega) (by (try simp only [List.length_take, List.length_drop]); first | rfl | omega) rfl) ?_
  rintro _ _ ⟨a_3, c_4, rfl, rfl⟩
  refine jH rfl (jG (v := .slice a_3 s.length c_4) rfl) <| jE <| jB <| jK <| jN (.inl rfl) rfl (jJ (v := .slice a_3 s.length c_4) rfl) (List.Sublist.refl _) ?_
  exact ⟨_, _, rfl, rfl⟩

theorem C_idxC (fp : FuncId) (hcf : ∀ args w, (callFunc fp args).run Tryz.prog w = .ok (.enter fp args) w) (kb : Nat) (key : Str) (p : Cell → Bool) (hp : ∀ x : Cell, Ct Tryz.prog fp [.agg #[str x.1, str x.2], .pointer (some ⟨kb, 0, none⟩)] [bk kb 9 [str key]] (fun _ => True) (fun v A' => v = .bool (p x) ∧ A' = [bk kb 9 [str key]])) (a : Option Addr) (c : Nat) (s : List Cell) (hn : s.length ≤ 1000000000000) :
    Ct Tryz.prog 98 [.slice a s.length c, .func (.func fp) #[] #[.pointer (some ⟨kb, 0, none⟩)]] [bk kb 9 [str key]] (fun w_ => Sees w_ (.slice a s.length c) 2 s.length (s.flatMap encC) ∧ (∀ b, (Value.slice a s.length c).ownBlock = some b → b ≠ kb)) (fun v A' => v = .int .i64 (idxI p s) ∧ A' = [bk kb 9 [str key]]) := by
  refine Ct.intro Tryz.func98 rfl Tryz.ntmps98 (lb rfl) fun w0 hpre => ?_
  have hs_a : Sees w0 _ _ _ _ := hpre.1
  refine jC <| jF <| jH rfl (jG (v := iv 0) rfl) <| jE <| jB <| jC <| jC <| jF <| jH rfl (jD (v := .slice a s.length c) rfl) <| jH rfl (jh kD rfl) ?_
  refine jH rfl (jD (v := iv 0) rfl) <| jE <| jB <| jZ <| jo (fun k_ e_ L_ => ∃ j : Nat, (j ≤ s.length) ∧ (∀ i, i < j → p (s.getD i c0) = false) ∧ e_ 0 = .slice a s.length c ∧ e_ 1 = .func (.func fp) #[] #[.pointer (some ⟨kb, 0, none⟩)] ∧ e_ 7 = nv s.length ∧ e_ 8 = nv j ∧ L_ = [bk kb 9 [str key]] ∧ k_ = s.length - j) _ ⟨0, by omega, (fun i hi => absurd hi (Nat.not_lt_zero i)), rfl, rfl, rfl, rfl, rfl, rfl⟩ ?_
  rintro _ e_1 _ ⟨j, hj, hN, he_2, he_3, he_4, he_5, rfl, rfl⟩
  refine jC <| jF <| jH rfl (jb he_5 he_4) <| jE <| jB <| jC ?_
  by_cases h_6 : ((j : Nat) : Int) < ((s.length : Nat) : Int)
  · have hlt : j < s.length := by omega
    refine jQ (cB (dT h_6)) <| jM <| jB <| jC <| jZ <| jC <| jF <| jH rfl (jD (v := nv j) he_5) <| jH rfl (jG (v := nv j) rfl) <| jE ?_
    refine jB <| jC <| jF <| jH rfl (jD (v := .func (.func fp) #[] #[.pointer (some ⟨kb, 0, none⟩)]) he_3) <| jH rfl (jD (v := .slice a s.length c) he_2) <| jH rfl (jD (v := nv j) rfl) ?_
    obtain ⟨hr_7, hr_7b, -⟩ := sees_some hs_a (by omega)
    refine jH rfl (jV (i := j) kD kG hr_7 hr_7b rfl rfl (by omega)) <| JL.ld rfl (LO.loadSK (vs := [str ((s.getD j c0).1), str ((s.getD j c0).2)]) hs_a (notin_bk hpre.2) rfl Tryz.isAgg62 kG (atC (by omega)) rfl (by decide)) ?_
    refine jI rfl (JO.callV [0] hcf rfl (hp (s.getD j c0)) rfl rfl (fun _ _ => trivial)) ?_
    rintro _ _ ⟨_, ⟨rfl, rfl⟩, rfl⟩
    refine jE <| jB ?_
    rcases Bool.eq_false_or_eq_true (p (s.getD j c0)) with h_8 | h_8
    · have hpj := h_8
      refine jQ (cB h_8) <| jC <| jF <| jH rfl (jD (v := nv j) rfl) <| jH rfl (jG (v := nv j) rfl) <| jE <| jB <| jK <| je <| jO ?_
      refine jO <| je <| jO <| jN (.inl rfl) rfl (jJ (v := nv j) rfl) (List.Sublist.refl _) ?_
      refine ⟨?_, rfl⟩
      rw [idxI_found c0 hlt hN hpj]
    have hpj := h_8
    refine jL (cB h_8) <| jM <| jk <| jB <| jF <| jH rfl (jT (c := ((j + 1 : Nat) : Int)) he_5 rfl (wr (by omega))) <| jH rfl (jD (v := iv ((j + 1 : Nat) : Int)) rfl) <| jE ?_
    refine jl (s.length - (j + 1)) (by omega) ⟨j + 1, by omega, (fun i hi => if h : i = j then h ▸ hpj else hN i (by omega)), he_2, he_3, he_4, rfl, rfl, rfl⟩
  refine jL (cB (dF h_6)) <| jm <| jY <| jY <| jn <| jB <| jC <| jF <| jH rfl (jG (v := iv (-1)) rfl) <| jE ?_
  refine jB <| jK <| jN (.inl rfl) rfl (jJ (v := iv (-1)) rfl) (List.Sublist.refl _) ?_
  refine ⟨?_, rfl⟩
  rw [idxI_none c0 (by omega) hN]

theorem C_insC (a va : Option Addr) (c : Nat) (s : List Cell) (i : Nat) (x : Cell) (hi : i ≤ s.length) (hn : s.length ≤ 1000000000000) (hcl : (s.flatMap encC).length = s.length * 2) :
    Ct Tryz.prog 100 [.slice a s.length c, .int .i64 ((i : Nat) : Int), .slice va 1 1] [Res.row (.slice a s.length c) 62 2 s.length (s.flatMap encC), Res.row (.slice va 1 1) 62 2 1 ([x].flatMap encC)] (fun _ => True) (fun v A' => ∃ a' c', v = .slice a' (insertAt i x s).length c' ∧ A' = [.row (.slice a' (insertAt i x s).length c') 62 2 (insertAt i x s).length ((insertAt i x s).flatMap encC)]) := by
  refine Ct.intro Tryz.func100 rfl Tryz.ntmps100 (lb rfl) fun w0 hpre => ?_
  refine jC <| jF <| jH rfl (jG (v := .slice none 0 0) rfl) <| jE <| jB <| jC <| jF <| jH rfl (jD (v := .slice a s.length c) rfl) <| jH rfl (jD (v := nv i) rfl) ?_
  refine JL.facts fun hst => ?_
  obtain ⟨hf_1m, hf_1x, hf_1s, hf_1l⟩ := fits_of hst (i := 0) rfl
  refine jH rfl (PO.sliceVl (i := i) kD kG hf_1s rfl rfl (by omega)) <| jE <| jB <| jC <| jF <| jH rfl (jD (v := .slice va 1 1) rfl) <| jH rfl (jh kD rfl) <| jH rfl (jG (v := nv 1) rfl) <| jE <| jB ?_
  refine jC <| jC <| jF <| jH rfl (jD (v := nv 1) rfl) <| jH rfl (PO.eqlI rfl rfl) <| jE <| jB ?_
  by_cases h_2 : ((1 : Nat) : Int) = 0
  · exfalso; omega
  refine jL (cB (dF h_2)) <| jM <| jB <| jC <| jF <| jH rfl (jD (v := .slice a s.length c) rfl) <| jH rfl (jh kD rfl) <| jH rfl (jG (v := nv s.length) rfl) <| jE <| jB ?_
  refine jC <| jC <| jF <| jH rfl (jD (v := nv i) rfl) <| jH rfl (jD (v := nv s.length) rfl) <| jH rfl (PO.eqlI rfl rfl) <| jE <| jB ?_
  by_cases h_3 : ((i : Nat) : Int) = ((s.length : Nat) : Int)
  · refine jQ (cB (dT h_3)) <| jC <| jF <| jH rfl (jD (v := .slice a s.length c) rfl) <| jH rfl (jD (v := .slice va 1 1) rfl) ?_
    refine jI rfl (JO.append' 0 (q := 1) (news := [x].flatMap encC) (n' := (s ++ [x]).length) (cs' := (s ++ [x]).flatMap encC) rfl kD kD ka rfl (by' := 32) rfl rfl rfl rfl rfl (fun w hw => Src.sees (hw.see (i := 1) rfl) (oneC _)) (by (try simp only [LE]); omega) (by (try simp only [LE]); omega) (by simp only [List.length_append, List.length_take, List.length_drop, List.length_cons, List.length_nil] <;> first | rfl | omega) (by simp only [List.flatMap_append])) ?_
    rintro _ _ ⟨a_4, c_5, rfl, rfl⟩
    refine jH rfl (jG (v := .slice a_4 ((s ++ [x]).length) c_5) rfl) <| jE <| jB <| jK <| jO <| jN (.inl rfl) rfl (jJ (v := .slice a_4 ((s ++ [x]).length) c_5) rfl) (sL [Res.row (.slice a_4 ((s ++ [x]).length) c_5) 62 2 ((s ++ [x]).length) ((s ++ [x]).flatMap encC)] [Res.row (.slice va 1 1) 62 2 1 ([x].flatMap encC)]) ?_
    have hin : i = s.length := by omega
    exact ⟨_, _, by rw [ins_end hin], by rw [ins_end hin]⟩
  refine jL (cB (dF h_3)) <| jM <| jB <| jC <| jC <| jF <| jH rfl (jD (v := nv s.length) rfl) <| jH rfl (jD (v := nv 1) rfl) <| jH rfl (jT (c := ((s.length + 1 : Nat) : Int)) rfl rfl (wr (by omega))) <| jH rfl (jD (v := .slice a s.length c) rfl) ?_
  refine jH rfl (PO.capV kD rfl) <| jH rfl (PO.gtr rfl rfl) <| jE <| jB ?_
  by_cases h_6 : ((c : Nat) : Int) < ((s.length + 1 : Nat) : Int)
  · refine jQ (cB (dT h_6)) <| jC <| jF <| jH rfl (jD (v := .slice a s.length c) rfl) <| jH rfl (jD (v := nv i) rfl) <| jH rfl (PO.sliceVh (j := i) kD kG hf_1s rfl rfl (by omega)) <| jH rfl (jD (v := nv s.length) rfl) <| jH rfl (jD (v := nv 1) rfl) <| jH rfl (jT (c := ((s.length + 1 : Nat) : Int)) rfl rfl (wr (by omega))) <| jH rfl (jD (v := nv i) rfl) ?_
    refine jH rfl (PO.sub (c := ((s.length + 1 - i : Nat) : Int)) rfl rfl (wr (by omega))) ?_
    refine jI rfl (JO.appendMake' 0 (i := i) (r := s.length + 1 - i) (by' := 32) (n' := s.length + 1) rfl kD Tryz.underlying3 ka rfl (by decide) rfl rfl rfl rfl rfl (by omega) (by omega) (by omega) (by omega) (by decide) (by omega)) ?_
    rintro _ _ ⟨a_7, c_8, zs_9, rfl, hzs_9c, hzs_9, rfl⟩
    refine jH rfl (jG (v := .slice a_7 (s.length + 1) c_8) rfl) <| jE <| jB <| jC <| jF <| jH rfl (jD (v := .slice a_7 (s.length + 1) c_8) rfl) <| jH rfl (jD (v := nv i) rfl) ?_
    refine JL.facts fun hst => ?_
    obtain ⟨hf_10m, hf_10x, hf_10s, hf_10l⟩ := fits_of hst (i := 0) rfl
    refine jH rfl (PO.sliceVl (i := i) kD kG hf_10s rfl rfl (by omega)) <| jH rfl (jD (v := .slice va 1 1) rfl) ?_
    refine jI rfl (JO.copy 0 (k := 2) (lo := i) (q := 1) (news := [str x.1, str x.2]) (cs' := ((s.flatMap encC).take (i * 2) ++ zs_9).take (i * 2) ++ [str x.1, str x.2] ++ ((s.flatMap encC).take (i * 2) ++ zs_9).drop (i * 2 + [str x.1, str x.2].length)) rfl kD kG rfl rfl (by show min _ _ = _; omega) (by omega) (by omega) (by decide) (by omega) (fun w hw => Fst.sees (hw.see (i := 2) rfl) (Nat.le_refl _)) rfl (oneC [x]) (rfl)) ?_
    rintro _ _ rfl
    refine jE <| jB <| jC <| jv [] 0 mixed (by simp) <| jc 0 rfl (by kernel_rfl) (NP.th (NP.th NP.body)) (by kernel_rfl) (by kernel_rfl) rfl (jD (v := .slice a_7 (s.length + 1) c_8) rfl) <| jc 1 rfl (by kernel_rfl) (NP.th (NP.th NP.body)) (by kernel_rfl) (by kernel_rfl) rfl (jD (v := nv i) rfl) <| jc 2 rfl (by kernel_rfl) (NP.th (NP.th NP.body)) (by kernel_rfl) (by kernel_rfl) rfl (jD (v := nv 1) rfl) <| jc 3 rfl (by kernel_rfl) (NP.th (NP.th NP.body)) (by kernel_rfl) (by kernel_rfl) rfl (jT (c := ((i + 1 : Nat) : Int)) rfl rfl (wr (by omega))) <| jc 4 rfl (by kernel_rfl) (NP.th (NP.th NP.body)) (by kernel_rfl) (by kernel_rfl) rfl (PO.sliceVl (i := (i + 1)) kD kG hf_10s rfl rfl (by omega)) <| jc 5 rfl (by kernel_rfl) (NP.th (NP.th NP.body)) (by kernel_rfl) (by kernel_rfl) rfl (jD (v := .slice a s.length c) rfl) ?_
    refine jc 6 rfl (by kernel_rfl) (NP.th (NP.th NP.body)) (by kernel_rfl) (by kernel_rfl) rfl (jD (v := nv i) rfl) <| jc 7 rfl (by kernel_rfl) (NP.th (NP.th NP.body)) (by kernel_rfl) (by kernel_rfl) rfl (PO.sliceVl (i := i) kD kG hf_1s rfl rfl (by omega)) <| JA.one (i := 8) (by kernel_rfl) ?_
    refine JX.last rfl rfl (by decide) (by kernel_rfl) (JO.copy 0 (k := 2) (lo := (i + 1)) (q := s.length - i) (news := (s.flatMap encC).drop (i * 2)) (cs' := (insertAt i x s).flatMap encC) rfl kD kG rfl rfl (by show min _ _ = _; omega) (by omega) (by omega) (by decide) (by omega) (fun w hw => Fst.mid (hw.see (i := 1) rfl) (by omega) (by omega) (tail1 hcl)) (by rw [List.length_drop, hcl]; omega) (fun u hu => oneC s u (List.mem_of_mem_drop hu)) ((by rw [show (i + 1) * 2 = i * 2 + 2 by omega]; exact (ins_grow (k := 2) (by rw [hcl]; omega) (by rw [hcl]; omega) rfl).trans insC))) ?_
    rintro _ _ rfl
    refine jB <| jC <| jF <| jH rfl (jD (v := .slice a_7 (s.length + 1) c_8) rfl) <| jH rfl (jG (v := .slice a_7 (s.length + 1) c_8) rfl) <| jE <| jB <| jK <| jO <| jN (.inl rfl) rfl (jJ (v := .slice a_7 (s.length + 1) c_8) rfl) (sL [Res.row (.slice a_7 (s.length + 1) c_8) 62 2 (s.length + 1) ((insertAt i x s).flatMap encC)] [Res.row (.slice a s.length c) 62 2 s.length (s.flatMap encC), Res.row (.slice va 1 1) 62 2 1 ([x].flatMap encC)]) ?_
    exact ⟨_, _, by rw [insertAt_length i x s hi], by rw [insertAt_length i x s hi]⟩
  refine jL (cB (dF h_6)) <| jM <| jB <| jC <| jF <| jH rfl (jD (v := .slice a s.length c) rfl) <| jH rfl (jD (v := nv s.length) rfl) <| jH rfl (jD (v := nv 1) rfl) <| jH rfl (jT (c := ((s.length + 1 : Nat) : Int)) rfl rfl (wr (by omega))) <| jH rfl (PO.sliceVh (j := (s.length + 1)) kD kG hf_1s rfl rfl (by omega)) ?_
  refine jH rfl (jG (v := .slice a (s.length + 1) c) rfl) <| jE <| jB <| jC <| jC ?_
  refine JC.widen 0 1 (m := s.length) rfl (by omega) fun zs_11 hzs_11 => ?_
  refine jF <| jH rfl (jD (v := .slice va 1 1) rfl) <| jH rfl (jD (v := .slice a (s.length + 1) c) rfl) <| jH rfl (jD (v := nv i) rfl) <| jH rfl (jD (v := nv 1) rfl) <| jH rfl (jT (c := ((i + 1 : Nat) : Int)) rfl rfl (wr (by omega))) <| jH rfl (PO.sliceVl (i := (i + 1)) kD kG hf_1s rfl rfl (by omega)) ?_
  refine jI rfl (JO.overlaps 1 0 (by decide) (k := 2) (lo := i + 1) rfl rfl (run_ov (tS := 22) (tR := 4) Tryz.func107 (by kernel_rfl) (by kernel_rfl) (by kernel_rfl) (by kernel_rfl)) kD kG rfl rfl (by decide) (by omega) (by decide) (by decide)) ?_
  rintro _ _ ⟨rfl, rfl⟩
  refine jH rfl (jq rfl) <| jE <| jB <| jQ (cB rfl) <| jC <| jv [] 0 mixed (by simp) <| jc 0 rfl (by kernel_rfl) (NP.th (NP.th NP.body)) (by kernel_rfl) (by kernel_rfl) rfl (jD (v := .slice a (s.length + 1) c) rfl) <| jc 1 rfl (by kernel_rfl) (NP.th (NP.th NP.body)) (by kernel_rfl) (by kernel_rfl) rfl (jD (v := nv i) rfl) <| jc 2 rfl (by kernel_rfl) (NP.th (NP.th NP.body)) (by kernel_rfl) (by kernel_rfl) rfl (jD (v := nv 1) rfl) <| jc 3 rfl (by kernel_rfl) (NP.th (NP.th NP.body)) (by kernel_rfl) (by kernel_rfl) rfl (jT (c := ((i + 1 : Nat) : Int)) rfl rfl (wr (by omega))) ?_
  refine jc 4 rfl (by kernel_rfl) (NP.th (NP.th NP.body)) (by kernel_rfl) (by kernel_rfl) rfl (PO.sliceVl (i := (i + 1)) kD kG hf_1s rfl rfl (by omega)) <| jc 5 rfl (by kernel_rfl) (NP.th (NP.th NP.body)) (by kernel_rfl) (by kernel_rfl) rfl (jD (v := .slice a (s.length + 1) c) rfl) <| jc 6 rfl (by kernel_rfl) (NP.th (NP.th NP.body)) (by kernel_rfl) (by kernel_rfl) rfl (jD (v := nv i) rfl) <| jc 7 rfl (by kernel_rfl) (NP.th (NP.th NP.body)) (by kernel_rfl) (by kernel_rfl) rfl (PO.sliceVl (i := i) kD kG hf_1s rfl rfl (by omega)) <| JA.one (i := 8) (by kernel_rfl) ?_
  refine JX.last rfl rfl (by decide) (by kernel_rfl) (JO.copy 0 (k := 2) (lo := (i + 1)) (q := s.length - i) (news := (s.flatMap encC).drop (i * 2)) (cs' := ((s.flatMap encC ++ zs_11)).take (i * 2 + 2) ++ (s.flatMap encC).drop (i * 2) ++ ((s.flatMap encC ++ zs_11)).drop (i * 2 + 2 + ((s.flatMap encC).drop (i * 2)).length)) rfl kD kG rfl rfl (by show min _ _ = _; omega) (by omega) (by omega) (by decide) (by omega) (fun w hw => Fst.mid (hw.see (i := 0) rfl) (by omega) (by omega) (tail2 hcl hi)) (by rw [List.length_drop, hcl]; omega) (fun u hu => oneC s u (List.mem_of_mem_drop hu)) ((by rw [show (i + 1) * 2 = i * 2 + 2 by omega]))) ?_
  rintro _ _ rfl
  refine jB <| jC <| jF <| jH rfl (jD (v := .slice a (s.length + 1) c) rfl) <| jH rfl (jD (v := nv i) rfl) <| jH rfl (PO.sliceVl (i := i) kD kG hf_1s rfl rfl (by omega)) <| jH rfl (jD (v := .slice va 1 1) rfl) ?_
  refine jI rfl (JO.copy 0 (k := 2) (lo := i) (q := 1) (news := [str x.1, str x.2]) (cs' := (insertAt i x s).flatMap encC) rfl kD kG rfl rfl (by show min _ _ = _; omega) (by omega) (by omega) (by decide) (by omega) (fun w hw => Fst.sees (hw.see (i := 1) rfl) (Nat.le_refl _)) rfl (oneC [x]) ((ins_room (k := 2) (by rw [hcl]; omega) (by omega) rfl).trans insC)) ?_
  rintro _ _ rfl
  refine jE <| jB <| jC <| jF <| jH rfl (jD (v := .slice a (s.length + 1) c) rfl) <| jH rfl (jG (v := .slice a (s.length + 1) c) rfl) <| jE <| jB <| jK <| jO ?_
  refine jN (.inl rfl) rfl (jJ (v := .slice a (s.length + 1) c) rfl) (sL [Res.row (.slice a (s.length + 1) c) 62 2 (s.length + 1) ((insertAt i x s).flatMap encC)] [Res.row (.slice va 1 1) 62 2 1 ([x].flatMap encC)]) ?_
  exact ⟨_, _, by rw [insertAt_length i x s hi], by rw [insertAt_length i x s hi]⟩

theorem C_delC (fp : FuncId) (hcf : ∀ args w, (callFunc fp args).run Tryz.prog w = .ok (.enter fp args) w) (kb : Nat) (key : Str) (p : Cell → Bool) (hp : ∀ x : Cell, Ct Tryz.prog fp [.agg #[str x.1, str x.2], .pointer (some ⟨kb, 0, none⟩)] [bk kb 9 [str key]] (fun _ => True) (fun v A' => v = .bool (p x) ∧ A' = [bk kb 9 [str key]])) (a : Option Addr) (c : Nat) (s : List Cell) (hn : s.length ≤ 1000000000000) :
    Ct Tryz.prog 96 [.slice a s.length c, .func (.func fp) #[] #[.pointer (some ⟨kb, 0, none⟩)]] [bk kb 9 [str key], Res.row (.slice a s.length c) 62 2 s.length (s.flatMap encC)] (fun _ => True) (fun v A' => ∃ a' c', v = .slice a' (s.filter (fun c => !p c)).length c' ∧ A' = [bk kb 9 [str key], .row (.slice a' (s.filter (fun c => !p c)).length c') 62 2 (s.filter (fun c => !p c)).length ((s.filter (fun c => !p c)).flatMap encC)]) := by
  refine Ct.intro Tryz.func96 rfl Tryz.ntmps96 (lb rfl) fun w0 hpre => ?_
  refine jC <| jF <| jH rfl (jG (v := .slice none 0 0) rfl) <| jE <| jB <| jC <| jF <| jH rfl (jD (v := .slice a s.length c) rfl) <| jH rfl (jD (v := .func (.func fp) #[] #[.pointer (some ⟨kb, 0, none⟩)]) rfl) ?_
  refine jI rfl (jR [0] Tryz.call98 rfl (C_idxC fp hcf kb key p hp a c s (by omega)) rfl (fun w hw => ⟨hw.see (i := 1) rfl, hw.apartO 1 0 rfl rfl rfl⟩)) ?_
  rintro _ _ ⟨_, ⟨rfl, rfl⟩, rfl⟩
  have hix0 := idxI_lo p s
  have hfl0 := findAt_le p s
  refine jH rfl (jG (v := iv (idxI p s)) rfl) <| jE <| jB <| jC <| jC <| jF <| jH rfl (jD (v := iv (idxI p s)) rfl) <| jH rfl (PO.eqlI rfl rfl) <| jE <| jB ?_
  by_cases h_1 : (idxI p s) = (-1)
  · have hfe : findAt p s = s.length := by omega
    refine jQ (cB (dT h_1)) <| jC <| jF <| jH rfl (jD (v := .slice a s.length c) rfl) <| jH rfl (jG (v := .slice a s.length c) rfl) <| jE <| jB <| jK <| jO <| jN (.inl rfl) rfl (jJ (v := .slice a s.length c) rfl) (List.Sublist.refl _) ?_
    exact ⟨_, _, by rw [del_none hfe], by rw [del_none hfe]; rfl⟩
  have hfl : findAt p s < s.length := by omega
  have hie : idxI p s = ((findAt p s : Nat) : Int) := by omega
  refine jL (cB (dF h_1)) <| jM <| jB <| jC <| jC <| jF <| jH rfl (jD (v := iv ((findAt p s : Nat) : Int)) (congrArg (Value.int .i64) hie)) <| jH rfl (jT (c := (((findAt p s) + 1 : Nat) : Int)) rfl rfl (wr (by omega))) <| jH rfl (jG (v := iv (((findAt p s) + 1 : Nat) : Int)) rfl) <| jE ?_
  refine jB <| jZ <| jo (fun k_ e_ L_ => ∃ i : Nat, ∃ j : Nat, ∃ X : List Cell, (j ≤ s.length) ∧ (i < j) ∧ (X.length = s.length) ∧ (X.take i = (s.take j).filter (fun c => !p c)) ∧ (X.drop j = s.drop j) ∧ e_ 0 = .slice a s.length c ∧ e_ 1 = .func (.func fp) #[] #[.pointer (some ⟨kb, 0, none⟩)] ∧ e_ 4 = .slice none 0 0 ∧ e_ 5 = nv i ∧ e_ 6 = nv j ∧ L_ = [bk kb 9 [str key], Res.row (.slice a s.length c) 62 2 s.length (X.flatMap encC)] ∧ k_ = s.length - j) _ ⟨findAt p s, (findAt p s + 1), s, by omega, by omega, rfl, (del_start hfl), rfl, rfl, rfl, rfl, (congrArg (Value.int .i64) hie), rfl, rfl, rfl⟩ ?_
  rintro _ e_2 _ ⟨i, j, X, hj, hij, hX, hXi, hXj, he_3, he_4, he_5, he_6, he_7, rfl, rfl⟩
  refine jC <| jC <| jF <| jH rfl (jD (v := nv j) he_7) <| jH rfl (jD (v := .slice a s.length c) he_3) <| jH rfl (jh kD rfl) <| jH rfl (jb rfl rfl) <| jE <| jB ?_
  by_cases h_8 : ((j : Nat) : Int) < ((s.length : Nat) : Int)
  · have hlt : j < s.length := by omega
    refine jQ (cB (dT h_8)) <| jM <| jB <| jC <| jZ <| jC <| jF <| jH rfl (jD (v := .slice a s.length c) he_3) <| jH rfl (jD (v := nv j) he_7) ?_
    refine JL.facts fun hst => ?_
    obtain ⟨hr_9, hr_9b, -⟩ := row_some 1 rfl (by omega) hst
    refine jH rfl (jV (i := j) kD kG hr_9 hr_9b rfl rfl (by omega)) <| JL.ld rfl (LO.loadRK 1 (vs := [str ((X.getD j c0).1), str ((X.getD j c0).2)]) rfl rfl Tryz.isAgg62 kG (atC (by omega)) rfl (by decide)) ?_
    refine jI rfl (JO.alloc (z := .agg #[str [], str []]) (cs := [str [], str []]) kW rfl) ?_
    rintro _ _ ⟨b_10, rfl, rfl⟩
    refine jI rfl (JO.store 0 (vs := [str ((X.getD j c0).1), str ((X.getD j c0).2)]) (cs' := [str ((X.getD j c0).1), str ((X.getD j c0).2)]) rfl rfl rfl rfl kG rfl rfl (lb rfl) rfl) ?_
    rintro _ _ rfl
    refine jE <| jB <| jC <| jF <| jH rfl (jD (v := .func (.func fp) #[] #[.pointer (some ⟨kb, 0, none⟩)]) he_4) <| JL.ld rfl (jr 0 (vs := [str ((X.getD j c0).1), str ((X.getD j c0).2)]) rfl rfl Tryz.isAgg62 kG rfl rfl) ?_
    refine jI rfl (JO.callV [1] hcf rfl (hp (X.getD j c0)) rfl rfl (fun _ _ => trivial)) ?_
    rintro _ _ ⟨_, ⟨rfl, rfl⟩, rfl⟩
    refine jH rfl (jq rfl) <| jE <| jB ?_
    rcases Bool.eq_false_or_eq_true (p (X.getD j c0)) with h_11 | h_11
    · have hpj := h_11
      refine jL (cB (cN h_11)) <| jM <| jk <| jB <| jF <| jH rfl (jD (v := nv j) he_7) <| jH rfl (jT (c := ((j + 1 : Nat) : Int)) rfl rfl (wr (by omega))) <| jH rfl (jG (v := iv ((j + 1 : Nat) : Int)) rfl) <| jE <| JQ.pick [0, 1] (A := [bk kb 9 [str key], Res.row (.slice a s.length c) 62 2 s.length (X.flatMap encC)]) rfl ?_
      refine jl (s.length - (j + 1)) (by omega) ⟨i, j + 1, X, by omega, by omega, hX, (del_skip c0 hXj hlt hpj hXi), (drop_more hXj), he_3, he_4, he_5, he_6, rfl, rfl, rfl⟩
    have hpj := h_11
    refine jQ (cB (cN h_11)) <| jC <| jF <| jH rfl (jD (v := .slice a s.length c) he_3) <| jH rfl (jD (v := nv i) he_6) <| JL.ld rfl (jr 1 (vs := [str ((X.getD j c0).1), str ((X.getD j c0).2)]) rfl rfl Tryz.isAgg62 kG rfl rfl) <| jH rfl (jV (i := i) kD kG hr_9 hr_9b rfl rfl (by omega)) ?_
    refine jI rfl (ju 2 (vs := [str ((X.getD j c0).1), str ((X.getD j c0).2)]) (cs' := (X.set i ((X.getD j c0).1, (X.getD j c0).2)).flatMap encC) rfl rfl rfl rfl kG rfl rfl (by decide) (by rw [lenC]; omega) (setC (by omega))) ?_
    rintro _ _ rfl
    refine jE <| jB <| jF <| jH rfl (jD (v := nv i) he_6) <| jH rfl (jT (c := ((i + 1 : Nat) : Int)) rfl rfl (wr (by omega))) <| jH rfl (jG (v := iv ((i + 1 : Nat) : Int)) rfl) <| jE <| jk <| jB <| jF ?_
    refine jH rfl (jD (v := nv j) he_7) <| jH rfl (jT (c := ((j + 1 : Nat) : Int)) rfl rfl (wr (by omega))) <| jH rfl (jG (v := iv ((j + 1 : Nat) : Int)) rfl) <| jE <| JQ.pick [0, 1] (A := [bk kb 9 [str key], Res.row (.slice a s.length c) 62 2 s.length ((X.set i ((X.getD j c0).1, (X.getD j c0).2)).flatMap encC)]) rfl ?_
    refine jl (s.length - (j + 1)) (by omega) ⟨i + 1, j + 1, X.set i (X.getD j c0), by omega, by omega, (by rw [List.length_set]; exact hX), (del_keep c0 hXj hlt hX hij hpj hXi), (del_keepD hXj hij _), he_3, he_4, he_5, rfl, rfl, rfl, rfl⟩
  refine jL (cB (dF h_8)) <| jm <| jY <| jY <| jn <| jB <| jC <| jF <| jH rfl (jD (v := .slice a s.length c) he_3) <| jH rfl (jD (v := nv i) he_6) ?_
  refine JL.facts fun hst => ?_
  obtain ⟨hf_12m, hf_12x, hf_12s, hf_12l⟩ := fits_of hst (i := 1) rfl
  refine jH rfl (PO.sliceVl (i := i) kD kG hf_12s rfl rfl (by omega)) ?_
  refine jI rfl (JO.clear 1 (k := 2) (lo := i) (z := .agg #[str [], str []]) rfl kD kW rfl (by decide) rfl (by decide) (by omega) (by omega)) ?_
  rintro _ _ ⟨zs_13, hzs_13, rfl⟩
  refine jE <| jB <| jC <| JC.narrow 1 i (cs' := (s.filter (fun c => !p c)).flatMap encC) rfl (by omega) (by rw [takeC (by omega), del_done (by omega) hXi]) <| jF <| jH rfl (jD (v := .slice a s.length c) he_3) <| jH rfl (jD (v := nv i) he_6) <| jH rfl (PO.sliceVh (j := i) kD kG hf_12s rfl rfl (by omega)) <| jH rfl (jG (v := .slice a i c) rfl) <| jE ?_
  refine jB <| jK <| jN (.inl rfl) rfl (jJ (v := .slice a i c) rfl) (List.Sublist.refl _) ?_
  have hln := del_len hX (by omega) (del_done (by omega) hXi)
  exact ⟨_, _, by rw [hln], by rw [hln]; rfl⟩

theorem C_idxS (fp : FuncId) (hcf : ∀ args w, (callFunc fp args).run Tryz.prog w = .ok (.enter fp args) w) (kb : Nat) (key : Str) (p : Str → Bool) (hp : ∀ x : Str, Ct Tryz.prog fp [str x, .pointer (some ⟨kb, 0, none⟩)] [bk kb 9 [str key]] (fun _ => True) (fun v A' => v = .bool (p x) ∧ A' = [bk kb 9 [str key]])) (a : Option Addr) (c : Nat) (s : List Str) (hn : s.length ≤ 1000000000000) :
    Ct Tryz.prog 90 [.slice a s.length c, .func (.func fp) #[] #[.pointer (some ⟨kb, 0, none⟩)]] [bk kb 9 [str key]] (fun w_ => Sees w_ (.slice a s.length c) 1 s.length (s.map str) ∧ (∀ b, (Value.slice a s.length c).ownBlock = some b → b ≠ kb)) (fun v A' => v = .int .i64 (idxI p s) ∧ A' = [bk kb 9 [str key]]) := by
  refine Ct.intro Tryz.func90 rfl Tryz.ntmps90 (lb rfl) fun w0 hpre => ?_
  have hs_a : Sees w0 _ _ _ _ := hpre.1
  refine jC <| jF <| jH rfl (jG (v := iv 0) rfl) <| jE <| jB <| jC <| jC <| jF <| jH rfl (jD (v := .slice a s.length c) rfl) <| jH rfl (jh kF rfl) ?_
  refine jH rfl (jD (v := iv 0) rfl) <| jE <| jB <| jZ <| jo (fun k_ e_ L_ => ∃ j : Nat, (j ≤ s.length) ∧ (∀ i, i < j → p (s.getD i []) = false) ∧ e_ 0 = .slice a s.length c ∧ e_ 1 = .func (.func fp) #[] #[.pointer (some ⟨kb, 0, none⟩)] ∧ e_ 7 = nv s.length ∧ e_ 8 = nv j ∧ L_ = [bk kb 9 [str key]] ∧ k_ = s.length - j) _ ⟨0, by omega, (fun i hi => absurd hi (Nat.not_lt_zero i)), rfl, rfl, rfl, rfl, rfl, rfl⟩ ?_
  rintro _ e_1 _ ⟨j, hj, hN, he_2, he_3, he_4, he_5, rfl, rfl⟩
  refine jC <| jF <| jH rfl (jb he_5 he_4) <| jE <| jB <| jC ?_
  by_cases h_6 : ((j : Nat) : Int) < ((s.length : Nat) : Int)
  · have hlt : j < s.length := by omega
    refine jQ (cB (dT h_6)) <| jM <| jB <| jC <| jZ <| jC <| jF <| jH rfl (jD (v := nv j) he_5) <| jH rfl (jG (v := nv j) rfl) <| jE ?_
    refine jB <| jC <| jF <| jH rfl (jD (v := .func (.func fp) #[] #[.pointer (some ⟨kb, 0, none⟩)]) he_3) <| jH rfl (jD (v := .slice a s.length c) he_2) <| jH rfl (jD (v := nv j) rfl) ?_
    obtain ⟨hr_7, hr_7b, -⟩ := sees_some hs_a (by omega)
    refine jH rfl (jV (i := j) kF kI hr_7 hr_7b rfl rfl (by omega)) <| JL.ld rfl (ji (v := str (s.getD j [])) hs_a (notin_bk hpre.2) rfl kH (atS (by omega))) ?_
    refine jI rfl (JO.callV [0] hcf rfl (hp (s.getD j [])) rfl rfl (fun _ _ => trivial)) ?_
    rintro _ _ ⟨_, ⟨rfl, rfl⟩, rfl⟩
    refine jE <| jB ?_
    rcases Bool.eq_false_or_eq_true (p (s.getD j [])) with h_8 | h_8
    · have hpj := h_8
      refine jQ (cB h_8) <| jC <| jF <| jH rfl (jD (v := nv j) rfl) <| jH rfl (jG (v := nv j) rfl) <| jE <| jB <| jK <| je <| jO ?_
      refine jO <| je <| jO <| jN (.inl rfl) rfl (jJ (v := nv j) rfl) (List.Sublist.refl _) ?_
      refine ⟨?_, rfl⟩
      rw [idxI_found [] hlt hN hpj]
    have hpj := h_8
    refine jL (cB h_8) <| jM <| jk <| jB <| jF <| jH rfl (jT (c := ((j + 1 : Nat) : Int)) he_5 rfl (wr (by omega))) <| jH rfl (jD (v := iv ((j + 1 : Nat) : Int)) rfl) <| jE ?_
    refine jl (s.length - (j + 1)) (by omega) ⟨j + 1, by omega, (fun i hi => if h : i = j then h ▸ hpj else hN i (by omega)), he_2, he_3, he_4, rfl, rfl, rfl⟩
  refine jL (cB (dF h_6)) <| jm <| jY <| jY <| jn <| jB <| jC <| jF <| jH rfl (jG (v := iv (-1)) rfl) <| jE ?_
  refine jB <| jK <| jN (.inl rfl) rfl (jJ (v := iv (-1)) rfl) (List.Sublist.refl _) ?_
  refine ⟨?_, rfl⟩
  rw [idxI_none [] (by omega) hN]

theorem C_insS (a va : Option Addr) (c : Nat) (s : List Str) (i : Nat) (x : Str) (hi : i ≤ s.length) (hn : s.length ≤ 1000000000000) (hcl : (s.map str).length = s.length * 1) :
    Ct Tryz.prog 92 [.slice a s.length c, .int .i64 ((i : Nat) : Int), .slice va 1 1] [Res.row (.slice a s.length c) 9 1 s.length (s.map str), Res.row (.slice va 1 1) 9 1 1 ([x].map str)] (fun _ => True) (fun v A' => ∃ a' c', v = .slice a' (insertAt i x s).length c' ∧ A' = [.row (.slice a' (insertAt i x s).length c') 9 1 (insertAt i x s).length ((insertAt i x s).map str)]) := by
  refine Ct.intro Tryz.func92 rfl Tryz.ntmps92 (lb rfl) fun w0 hpre => ?_
  refine jC <| jF <| jH rfl (jG (v := .slice none 0 0) rfl) <| jE <| jB <| jC <| jF <| jH rfl (jD (v := .slice a s.length c) rfl) <| jH rfl (jD (v := nv i) rfl) ?_
  refine JL.facts fun hst => ?_
  obtain ⟨hf_1m, hf_1x, hf_1s, hf_1l⟩ := fits_of hst (i := 0) rfl
  refine jH rfl (PO.sliceVl (i := i) kF kI hf_1s rfl rfl (by omega)) <| jE <| jB <| jC <| jF <| jH rfl (jD (v := .slice va 1 1) rfl) <| jH rfl (jh kF rfl) <| jH rfl (jG (v := nv 1) rfl) <| jE <| jB ?_
  refine jC <| jC <| jF <| jH rfl (jD (v := nv 1) rfl) <| jH rfl (PO.eqlI rfl rfl) <| jE <| jB ?_
  by_cases h_2 : ((1 : Nat) : Int) = 0
  · exfalso; omega
  refine jL (cB (dF h_2)) <| jM <| jB <| jC <| jF <| jH rfl (jD (v := .slice a s.length c) rfl) <| jH rfl (jh kF rfl) <| jH rfl (jG (v := nv s.length) rfl) <| jE <| jB ?_
  refine jC <| jC <| jF <| jH rfl (jD (v := nv i) rfl) <| jH rfl (jD (v := nv s.length) rfl) <| jH rfl (PO.eqlI rfl rfl) <| jE <| jB ?_
  by_cases h_3 : ((i : Nat) : Int) = ((s.length : Nat) : Int)
  · refine jQ (cB (dT h_3)) <| jC <| jF <| jH rfl (jD (v := .slice a s.length c) rfl) <| jH rfl (jD (v := .slice va 1 1) rfl) ?_
    refine jI rfl (JO.append' 0 (q := 1) (news := [x].map str) (n' := (s ++ [x]).length) (cs' := (s ++ [x]).map str) rfl kF kF Tryz.typeInfo9 rfl (by' := 16) rfl rfl rfl rfl rfl (fun w hw => Src.sees (hw.see (i := 1) rfl) (oneS _)) (by (try simp only [LE]); omega) (by (try simp only [LE]); omega) (by simp only [List.length_append, List.length_take, List.length_drop, List.length_cons, List.length_nil] <;> first | rfl | omega) (by simp only [List.map_append])) ?_
    rintro _ _ ⟨a_4, c_5, rfl, rfl⟩
    refine jH rfl (jG (v := .slice a_4 ((s ++ [x]).length) c_5) rfl) <| jE <| jB <| jK <| jO <| jN (.inl rfl) rfl (jJ (v := .slice a_4 ((s ++ [x]).length) c_5) rfl) (sL [Res.row (.slice a_4 ((s ++ [x]).length) c_5) 9 1 ((s ++ [x]).length) ((s ++ [x]).map str)] [Res.row (.slice va 1 1) 9 1 1 ([x].map str)]) ?_
    have hin : i = s.length := by omega
    exact ⟨_, _, by rw [ins_end hin], by rw [ins_end hin]⟩
  refine jL (cB (dF h_3)) <| jM <| jB <| jC <| jC <| jF <| jH rfl (jD (v := nv s.length) rfl) <| jH rfl (jD (v := nv 1) rfl) <| jH rfl (jT (c := ((s.length + 1 : Nat) : Int)) rfl rfl (wr (by omega))) <| jH rfl (jD (v := .slice a s.length c) rfl) ?_
  refine jH rfl (PO.capV kF rfl) <| jH rfl (PO.gtr rfl rfl) <| jE <| jB ?_
  by_cases h_6 : ((c : Nat) : Int) < ((s.length + 1 : Nat) : Int)
  · refine jQ (cB (dT h_6)) <| jC <| jF <| jH rfl (jD (v := .slice a s.length c) rfl) <| jH rfl (jD (v := nv i) rfl) <| jH rfl (PO.sliceVh (j := i) kF kI hf_1s rfl rfl (by omega)) <| jH rfl (jD (v := nv s.length) rfl) <| jH rfl (jD (v := nv 1) rfl) <| jH rfl (jT (c := ((s.length + 1 : Nat) : Int)) rfl rfl (wr (by omega))) <| jH rfl (jD (v := nv i) rfl) ?_
    refine jH rfl (PO.sub (c := ((s.length + 1 - i : Nat) : Int)) rfl rfl (wr (by omega))) ?_
    refine jI rfl (JO.appendMake' 0 (i := i) (r := s.length + 1 - i) (by' := 16) (n' := s.length + 1) rfl kF Tryz.underlying3 Tryz.typeInfo9 rfl (by decide) rfl rfl rfl rfl rfl (by omega) (by omega) (by omega) (by omega) (by decide) (by omega)) ?_
    rintro _ _ ⟨a_7, c_8, zs_9, rfl, hzs_9c, hzs_9, rfl⟩
    refine jH rfl (jG (v := .slice a_7 (s.length + 1) c_8) rfl) <| jE <| jB <| jC <| jF <| jH rfl (jD (v := .slice a_7 (s.length + 1) c_8) rfl) <| jH rfl (jD (v := nv i) rfl) ?_
    refine JL.facts fun hst => ?_
    obtain ⟨hf_10m, hf_10x, hf_10s, hf_10l⟩ := fits_of hst (i := 0) rfl
    refine jH rfl (PO.sliceVl (i := i) kF kI hf_10s rfl rfl (by omega)) <| jH rfl (jD (v := .slice va 1 1) rfl) ?_
    refine jI rfl (JO.copy 0 (k := 1) (lo := i) (q := 1) (news := [str x]) (cs' := ((s.map str).take (i * 1) ++ zs_9).take (i * 1) ++ [str x] ++ ((s.map str).take (i * 1) ++ zs_9).drop (i * 1 + [str x].length)) rfl kF kI rfl rfl (by show min _ _ = _; omega) (by omega) (by omega) (by decide) (by omega) (fun w hw => Fst.sees (hw.see (i := 2) rfl) (Nat.le_refl _)) rfl (oneS [x]) (rfl)) ?_
    rintro _ _ rfl
    refine jE <| jB <| jC <| jv [] 0 mixed (by simp) <| jc 0 rfl (by kernel_rfl) (NP.th (NP.th NP.body)) (by kernel_rfl) (by kernel_rfl) rfl (jD (v := .slice a_7 (s.length + 1) c_8) rfl) <| jc 1 rfl (by kernel_rfl) (NP.th (NP.th NP.body)) (by kernel_rfl) (by kernel_rfl) rfl (jD (v := nv i) rfl) <| jc 2 rfl (by kernel_rfl) (NP.th (NP.th NP.body)) (by kernel_rfl) (by kernel_rfl) rfl (jD (v := nv 1) rfl) <| jc 3 rfl (by kernel_rfl) (NP.th (NP.th NP.body)) (by kernel_rfl) (by kernel_rfl) rfl (jT (c := ((i + 1 : Nat) : Int)) rfl rfl (wr (by omega))) <| jc 4 rfl (by kernel_rfl) (NP.th (NP.th NP.body)) (by kernel_rfl) (by kernel_rfl) rfl (PO.sliceVl (i := (i + 1)) kF kI hf_10s rfl rfl (by omega)) <| jc 5 rfl (by kernel_rfl) (NP.th (NP.th NP.body)) (by kernel_rfl) (by kernel_rfl) rfl (jD (v := .slice a s.length c) rfl) ?_
    refine jc 6 rfl (by kernel_rfl) (NP.th (NP.th NP.body)) (by kernel_rfl) (by kernel_rfl) rfl (jD (v := nv i) rfl) <| jc 7 rfl (by kernel_rfl) (NP.th (NP.th NP.body)) (by kernel_rfl) (by kernel_rfl) rfl (PO.sliceVl (i := i) kF kI hf_1s rfl rfl (by omega)) <| JA.one (i := 8) (by kernel_rfl) ?_
    refine JX.last rfl rfl (by decide) (by kernel_rfl) (JO.copy 0 (k := 1) (lo := (i + 1)) (q := s.length - i) (news := (s.map str).drop (i * 1)) (cs' := (insertAt i x s).map str) rfl kF kI rfl rfl (by show min _ _ = _; omega) (by omega) (by omega) (by decide) (by omega) (fun w hw => Fst.mid (hw.see (i := 1) rfl) (by omega) (by omega) (tail1 hcl)) (by rw [List.length_drop, hcl]; omega) (fun u hu => oneS s u (List.mem_of_mem_drop hu)) ((by rw [show (i + 1) * 1 = i * 1 + 1 by omega]; exact (ins_grow (k := 1) (by rw [hcl]; omega) (by rw [hcl]; omega) rfl).trans insS))) ?_
    rintro _ _ rfl
    refine jB <| jC <| jF <| jH rfl (jD (v := .slice a_7 (s.length + 1) c_8) rfl) <| jH rfl (jG (v := .slice a_7 (s.length + 1) c_8) rfl) <| jE <| jB <| jK <| jO <| jN (.inl rfl) rfl (jJ (v := .slice a_7 (s.length + 1) c_8) rfl) (sL [Res.row (.slice a_7 (s.length + 1) c_8) 9 1 (s.length + 1) ((insertAt i x s).map str)] [Res.row (.slice a s.length c) 9 1 s.length (s.map str), Res.row (.slice va 1 1) 9 1 1 ([x].map str)]) ?_
    exact ⟨_, _, by rw [insertAt_length i x s hi], by rw [insertAt_length i x s hi]⟩
  refine jL (cB (dF h_6)) <| jM <| jB <| jC <| jF <| jH rfl (jD (v := .slice a s.length c) rfl) <| jH rfl (jD (v := nv s.length) rfl) <| jH rfl (jD (v := nv 1) rfl) <| jH rfl (jT (c := ((s.length + 1 : Nat) : Int)) rfl rfl (wr (by omega))) <| jH rfl (PO.sliceVh (j := (s.length + 1)) kF kI hf_1s rfl rfl (by omega)) ?_
  refine jH rfl (jG (v := .slice a (s.length + 1) c) rfl) <| jE <| jB <| jC <| jC ?_
  refine JC.widen 0 1 (m := s.length) rfl (by omega) fun zs_11 hzs_11 => ?_
  refine jF <| jH rfl (jD (v := .slice va 1 1) rfl) <| jH rfl (jD (v := .slice a (s.length + 1) c) rfl) <| jH rfl (jD (v := nv i) rfl) <| jH rfl (jD (v := nv 1) rfl) <| jH rfl (jT (c := ((i + 1 : Nat) : Int)) rfl rfl (wr (by omega))) <| jH rfl (PO.sliceVl (i := (i + 1)) kF kI hf_1s rfl rfl (by omega)) ?_
  refine jI rfl (JO.overlaps 1 0 (by decide) (k := 1) (lo := i + 1) rfl rfl (run_ov (tS := 30) (tR := 4) Tryz.func103 (by kernel_rfl) (by kernel_rfl) (by kernel_rfl) (by kernel_rfl)) kF kI rfl rfl (by decide) (by omega) (by decide) (by decide)) ?_
  rintro _ _ ⟨rfl, rfl⟩
  refine jH rfl (jq rfl) <| jE <| jB <| jQ (cB rfl) <| jC <| jv [] 0 mixed (by simp) <| jc 0 rfl (by kernel_rfl) (NP.th (NP.th NP.body)) (by kernel_rfl) (by kernel_rfl) rfl (jD (v := .slice a (s.length + 1) c) rfl) <| jc 1 rfl (by kernel_rfl) (NP.th (NP.th NP.body)) (by kernel_rfl) (by kernel_rfl) rfl (jD (v := nv i) rfl) <| jc 2 rfl (by kernel_rfl) (NP.th (NP.th NP.body)) (by kernel_rfl) (by kernel_rfl) rfl (jD (v := nv 1) rfl) <| jc 3 rfl (by kernel_rfl) (NP.th (NP.th NP.body)) (by kernel_rfl) (by kernel_rfl) rfl (jT (c := ((i + 1 : Nat) : Int)) rfl rfl (wr (by omega))) ?_
  refine jc 4 rfl (by kernel_rfl) (NP.th (NP.th NP.body)) (by kernel_rfl) (by kernel_rfl) rfl (PO.sliceVl (i := (i + 1)) kF kI hf_1s rfl rfl (by omega)) <| jc 5 rfl (by kernel_rfl) (NP.th (NP.th NP.body)) (by kernel_rfl) (by kernel_rfl) rfl (jD (v := .slice a (s.length + 1) c) rfl) <| jc 6 rfl (by kernel_rfl) (NP.th (NP.th NP.body)) (by kernel_rfl) (by kernel_rfl) rfl (jD (v := nv i) rfl) <| jc 7 rfl (by kernel_rfl) (NP.th (NP.th NP.body)) (by kernel_rfl) (by kernel_rfl) rfl (PO.sliceVl (i := i) kF kI hf_1s rfl rfl (by omega)) <| JA.one (i := 8) (by kernel_rfl) ?_
  refine JX.last rfl rfl (by decide) (by kernel_rfl) (JO.copy 0 (k := 1) (lo := (i + 1)) (q := s.length - i) (news := (s.map str).drop (i * 1)) (cs' := ((s.map str ++ zs_11)).take (i * 1 + 1) ++ (s.map str).drop (i * 1) ++ ((s.map str ++ zs_11)).drop (i * 1 + 1 + ((s.map str).drop (i * 1)).length)) rfl kF kI rfl rfl (by show min _ _ = _; omega) (by omega) (by omega) (by decide) (by omega) (fun w hw => Fst.mid (hw.see (i := 0) rfl) (by omega) (by omega) (tail2 hcl hi)) (by rw [List.length_drop, hcl]; omega) (fun u hu => oneS s u (List.mem_of_mem_drop hu)) ((by rw [show (i + 1) * 1 = i * 1 + 1 by omega]))) ?_
  rintro _ _ rfl
  refine jB <| jC <| jF <| jH rfl (jD (v := .slice a (s.length + 1) c) rfl) <| jH rfl (jD (v := nv i) rfl) <| jH rfl (PO.sliceVl (i := i) kF kI hf_1s rfl rfl (by omega)) <| jH rfl (jD (v := .slice va 1 1) rfl) ?_
  refine jI rfl (JO.copy 0 (k := 1) (lo := i) (q := 1) (news := [str x]) (cs' := (insertAt i x s).map str) rfl kF kI rfl rfl (by show min _ _ = _; omega) (by omega) (by omega) (by decide) (by omega) (fun w hw => Fst.sees (hw.see (i := 1) rfl) (Nat.le_refl _)) rfl (oneS [x]) ((ins_room (k := 1) (by rw [hcl]; omega) (by omega) rfl).trans insS)) ?_
  rintro _ _ rfl
  refine jE <| jB <| jC <| jF <| jH rfl (jD (v := .slice a (s.length + 1) c) rfl) <| jH rfl (jG (v := .slice a (s.length + 1) c) rfl) <| jE <| jB <| jK <| jO ?_
  refine jN (.inl rfl) rfl (jJ (v := .slice a (s.length + 1) c) rfl) (sL [Res.row (.slice a (s.length + 1) c) 9 1 (s.length + 1) ((insertAt i x s).map str)] [Res.row (.slice va 1 1) 9 1 1 ([x].map str)]) ?_
  exact ⟨_, _, by rw [insertAt_length i x s hi], by rw [insertAt_length i x s hi]⟩

end Go.Proofs.YtkmpmjficoohkaaGreatDoor

set_option linter.unusedSimpArgs false
set_option linter.unusedVariables false
set_option linter.unnecessarySimpa false
namespace Go.Proofs.YtkmpmjficoohkaaGreatDoor
open Go Go.RowKit

@[reducible] def rC (a : Option Addr) (c : Nat) (s : List Cell) : Res := .row (.slice a s.length c) 62 2 s.length (s.flatMap encC)
@[reducible] def rS (a : Option Addr) (c : Nat) (l : List Str) : Res := .row (.slice a l.length c) 9 1 l.length (l.map str)
@[reducible] def rI (a : Option Addr) (c : Nat) (l : List Int) : Res := .row (.slice a l.length c) 3 1 l.length (l.map (Value.int .i64))

theorem Ct.weak {P : Program} {f : FuncId} {args : List Value} {A : List Res} {Pre Pre' : World → Prop} {Post Post' : Value → List Res → Prop} (h : Ct P f args A Pre Post) (hp : ∀ w, Pre' w → Pre w) (hq : ∀ v A', Post v A' → Post' v A') : Ct P f args A Pre' Post' :=
  fun w hA hw => (h w hA (hp w hw)).mono fun _ _ ⟨v, A', he, hv, hs⟩ => ⟨v, A', he, hq v A' hv, hs⟩

/-- A nil slice is a row that nobody owns a block for. -/
theorem St.nilRow {w0 w : World} {D : List Nat} {L : List Res} (hw : St w0 D L w) (t k : Nat) : St w0 D (.row (.slice none 0 0) t k 0 [] :: L) w := by
  have e : idsOf (.row (.slice none 0 0) t k 0 [] :: L) = idsOf L := by rw [idsOf_cons]; simp [Res.ids, Value.ownBlock]
  refine ⟨⟨fun r hr => ?_, by rw [e]; exact hw.nodup, by rw [e]; exact hw.low, hw.room, hw.glob⟩, hw.os, hw.tape, hw.output, hw.size, by rw [e]; exact hw.fresh, hw.keep⟩
  simp only [List.mem_cons] at hr
  rcases hr with rfl | hr
  · exact ⟨by simp, .inl ⟨rfl, rfl⟩⟩
  · exact hw.holds r hr
theorem JL.nilRow {P : Program} {ops : Array Oper} {Q : Exit → Act → World → Prop} {n : Nat} {w0 : World} {D : List Nat} {L : List Res} {e : Env} {l : List Oper} (t k : Nat) (h : JL P ops Q n w0 D (.row (.slice none 0 0) t k 0 [] :: L) l e) : JL P ops Q n w0 D L l e := fun w hw => h w (hw.nilRow t k)
theorem JC.nilRow {P : Program} {Q : Exit → Act → World → Prop} {n : Nat} {w0 : World} {D : List Nat} {L : List Res} {e : Env} {c : Code} (t k : Nat) (h : JC P Q n w0 D (.row (.slice none 0 0) t k 0 [] :: L) c e) : JC P Q n w0 D L c e := fun w hw => h w (hw.nilRow t k)

theorem JQ.nilRow {Q : Exit → Act → World → Prop} {x : Exit} {n : Nat} {w0 : World} {D : List Nat} {L : List Res} {e : Env} (t k : Nat) (h : JQ Q x n w0 D (.row (.slice none 0 0) t k 0 [] :: L) e) : JQ Q x n w0 D L e := fun w hw => h w (hw.nilRow t k)
theorem JA.nilRow {P : Program} {ops : Array Oper} {Q : Exit → Act → World → Prop} {n : Nat} {w0 : World} {D : List Nat} {L M : List Res} {e : Env} {z fuel : Nat} {listed : Array Bool} (t k : Nat) (h : JA P ops Q n w0 D M z fuel listed (.row (.slice none 0 0) t k 0 [] :: L) e) : JA P ops Q n w0 D M z fuel listed L e := fun w hw hq => h w (hw.nilRow t k) hq

section
variable {P : Program} {ops : Array Oper} {Q : Exit → Act → World → Prop} {n : Nat} {w0 : World} {D : List Nat} {L M : List Res} {e : Env} {z fuel : Nat} {listed : Array Bool}
/-- A guard that was itself not asked. -/
theorem JL.guardOffU {o : Oper} {rest : List Oper} {j : Nat} {b : Bool} {t : Tmp} (hg : o.guard = some (j, b)) (hj : (ops[j]?).bind (·.dst) = some t) (ht : Nat.blt t n = true) (hv : e t = undef)
    (h : JL P ops Q n w0 D L rest (updO e o.dst undef)) : JL P ops Q n w0 D L (o :: rest) e := fun w hw => by
  have hlt : t < n := (Nat.blt_eq (x := t) (y := n)) ▸ ht
  have hy : yielded ops (act n e).tmps j = none := by simp [yielded, hj, act, hlt, hv, undef]
  refine wpList_step fun K hK => ?_
  rw [if_neg (by simp [Region.wanted, hg, hy]), act_put]
  exact hK _ _ (h w hw)
theorem JA.takeOffU (i : Nat) {oi : Oper} {j : Nat} {b : Bool} {t : Tmp} (hi : ops[i]? = some oi) (hs : Region.noSelect ops = true) (hQ : NP Q) (hf : Region.free .any ops listed i = true) (hr : (Region.ready .any ops listed).contains i = true)
    (hg : oi.guard = some (j, b)) (hj : (ops[j]?).bind (·.dst) = some t) (ht : Nat.blt t n = true) (hv : e t = undef) (h : JA P ops Q n w0 D M z fuel (listed.setIfInBounds i true) L (updO e oi.dst undef)) :
    JA P ops Q n w0 D M z (fuel + 1) listed L e := fun w hw hq => by
  have hlt : t < n := (Nat.blt_eq (x := t) (y := n)) ▸ ht
  have hyy : yielded ops (act n e).tmps j = none := by simp [yielded, hj, act, hlt, hv, undef]
  exact anyC.firstP hi hs hQ fuel listed (act n e) w (Region.free_spec hi hf) (by simpa using hr) (.inr ⟨by simp [Region.wanted, hg, hyy], rfl⟩) (by rw [act_put]; exact h w hw hq)
end
end Go.Proofs.YtkmpmjficoohkaaGreatDoor

set_option linter.unusedSimpArgs false
set_option linter.unusedVariables false
set_option linter.unnecessarySimpa false
namespace Go.Proofs.YtkmpmjficoohkaaGreatDoor
open Go Go.RowKit

/-- Bounds of a machine: how many cells, how many spans on each list, how long a cell's texts. -/
def MS.ok (S T : Nat) (m : MS) : Prop := m.s.length ≤ S ∧ m.r.length ≤ T ∧ m.w.length ≤ T ∧ ∀ c ∈ m.s, c.1.length ≤ 1048576 ∧ c.2.length ≤ 1048576
theorem MS.ok.mono {S T S' T' : Nat} {m : MS} (h : m.ok S T) (hS : S ≤ S') (hT : T ≤ T') : m.ok S' T' := ⟨by have := h.1; omega, by have := h.2.1; omega, by have := h.2.2.1; omega, h.2.2.2⟩
theorem getKey_mem {s : List Cell} {key : Str} : getKey s key = [] ∨ ∃ c ∈ s, c.1 = key ∧ c.2 = getKey s key := by
  induction s with
  | nil => exact .inl rfl
  | cons c s ih =>
    unfold getKey
    by_cases hc : c.1 = key
    · exact .inr ⟨c, by simp, hc, by simp [hc]⟩
    · rw [if_neg hc]
      rcases ih with h | ⟨c', h, h2⟩
      · exact .inl h
      · exact .inr ⟨c', by simp [h], h2⟩
theorem MS.ok.getKey {S T : Nat} {m : MS} (h : m.ok S T) (key : Str) : (getKey m.s key).length ≤ 1048576 := by
  rcases getKey_mem (s := m.s) (key := key) with h0 | ⟨c, hc, _, h2⟩
  · rw [h0]; simp
  · rw [← h2]; exact (h.2.2.2 c hc).2
theorem insertAt_mem {α : Type} {i : Nat} {x y : α} {l : List α} (h : y ∈ insertAt i x l) : y = x ∨ y ∈ l := by
  unfold insertAt at h
  simp only [List.mem_append, List.mem_cons] at h
  rcases h with h | h | h
  · exact .inr (List.mem_of_mem_take h)
  · exact .inl h
  · exact .inr (List.mem_of_mem_drop h)
theorem putKey_mem {s : List Cell} {key val : Str} {c : Cell} (h : c ∈ putKey s key val) : c ∈ s ∨ (c = (key, val) ∧ key.length ≤ 40 ∧ val.length ≤ 60) := by
  unfold putKey at h
  split at h
  · exact .inl h
  · rename_i hk
    simp only [Bool.or_eq_true, Bool.not_eq_true', decide_eq_true_eq, not_or, Bool.not_eq_false] at hk
    simp only at h
    split at h
    · exact .inl (List.mem_filter.1 h).1
    · rcases insertAt_mem h with h | h
      · refine .inr ⟨h, ?_, by omega⟩
        have := hk.1
        simp only [keyOk, Bool.and_eq_true, decide_eq_true_eq] at this
        exact this.2
      · exact .inl (List.mem_filter.1 h).1
theorem putKey_nil_len (s : List Cell) (key : Str) : (putKey s key []).length ≤ s.length := by
  unfold putKey
  simp only
  split
  · exact Nat.le_refl _
  · rw [if_pos trivial]; exact List.length_filter_le _ _
theorem MS.ok.look {S T : Nat} {m : MS} (h : m.ok S T) (key : Str) : (m.look key).1.ok S (T + 1) := by
  have := look_len m key
  exact ⟨by have := h.1; omega, by have := h.2.1; omega, by have := h.2.2.1; omega, h.2.2.2⟩
theorem MS.ok.lay {S T : Nat} {m : MS} (h : m.ok S T) (key val : Str) : (m.lay key val).ok (S + 1) (T + 1) := by
  have := lay_len m key val
  refine ⟨by have := h.1; omega, by have := h.2.1; omega, by have := h.2.2.1; omega, fun c hc => ?_⟩
  rcases putKey_mem (s := m.s) hc with hc | ⟨rfl, h1, h2⟩
  · exact h.2.2.2 c hc
  · exact ⟨by simp only; omega, by simp only; omega⟩
theorem MS.ok.layNil {S T : Nat} {m : MS} (h : m.ok S T) (key : Str) : (m.lay key []).ok S (T + 1) := by
  have h1 := lay_len m key []
  have h2 := putKey_nil_len m.s key
  refine ⟨Nat.le_trans h2 h.1, by have := h.2.1; omega, by have := h.2.2.1; omega, fun c hc => ?_⟩
  rcases putKey_mem (s := m.s) hc with hc | ⟨rfl, h1, h2⟩
  · exact h.2.2.2 c hc
  · exact ⟨by simp only; omega, by simp only; omega⟩
theorem num_lo (m : MS) (key : Str) : 0 ≤ (m.num key).2 ∧ (m.num key).2 ≤ 999 := numOf_lo _
theorem bump_lo (m : MS) (key : Str) : 0 ≤ (m.bump key).2 ∧ (m.bump key).2 ≤ 999 := by
  have h := num_lo m key
  unfold MS.bump
  split
  · exact ⟨by simp, by simp⟩
  · exact ⟨by simp only; omega, by simp only; omega⟩
theorem MS.ok.bump {S T : Nat} {m : MS} (h : m.ok S T) (key : Str) : (m.bump key).1.ok (S + 1) (T + 1) := by
  have h1 := h.look key
  unfold MS.bump
  split
  · exact h1.mono (by omega) (by omega)
  · have h2 := h.lay key (if 1 ≤ (m.num key).2 + 1 ∧ (m.num key).2 + 1 ≤ 999 then dec ((m.num key).2 + 1) else [])
    exact ⟨h2.1, h1.2.1, h2.2.2.1, h2.2.2.2⟩
theorem dec_len21 {n : Int} (h0 : -9223372036854775808 ≤ n) (h1 : n ≤ 9223372036854775807) : (dec n).length ≤ 21 := Lib.itoa_length_le n h0 h1
theorem keyNum_len {h t : Str} {n : Int} {a b : Nat} (h0 : -9223372036854775808 ≤ n) (h1 : n ≤ 9223372036854775807) (ha : h.length ≤ a) (hb : t.length ≤ b) : (keyNum h n t).length ≤ a + 21 + b := by
  have := dec_len21 h0 h1
  unfold keyNum
  simp only [List.length_append]
  omega
/-- A list of texts: how many, how long. -/
def okL (n k : Nat) (l : List Str) : Prop := l.length ≤ n ∧ ∀ j, j < l.length → k ≤ (l.getD j []).length ∧ (l.getD j []).length ≤ 1048576
theorem getD_mem {α : Type} {l : List α} {j : Nat} {d : α} (h : j < l.length) : l.getD j d ∈ l := by
  rw [List.getD_eq_getElem?_getD, List.getElem?_eq_getElem h]
  exact List.getElem_mem h
theorem keysUnder_ok {S T : Nat} {m : MS} (h : m.ok S T) (p : Str) : okL S p.length (keysUnder m.s p) := by
  refine ⟨?_, fun j hj => ?_⟩
  · unfold keysUnder
    rw [List.length_map]
    exact Nat.le_trans (List.length_filter_le _ _) h.1
  · have hm := getD_mem (d := ([] : Str)) hj
    unfold keysUnder at hm
    obtain ⟨c, hc, he⟩ := List.mem_map.1 hm
    obtain ⟨hc1, hc2⟩ := List.mem_filter.1 hc
    have e : (keysUnder m.s p).getD j [] = c.1 := he.symm
    rw [e]
    simp only [prefixB, Bool.and_eq_true, decide_eq_true_eq] at hc2
    exact ⟨hc2.1, (h.2.2.2 c hc1).1⟩
theorem MS.ok.under {S T : Nat} {m : MS} (h : m.ok S T) (p : Str) : (m.under p).1.ok S (T + 1) := by
  have := addSpan_len m.r (p ++ [42])
  refine ⟨h.1, ?_, by have := h.2.2.1; show m.w.length ≤ T + 1; omega, h.2.2.2⟩
  show (addSpan m.r (p ++ [42])).length ≤ T + 1
  have := h.2.1
  omega

/- names -/
def nameByte (c : UInt8) : Bool := (decide (97 ≤ c.toNat) && decide (c.toNat ≤ 122)) || (decide (48 ≤ c.toNat) && decide (c.toNat ≤ 57)) || decide (c.toNat = 46) || decide (c.toNat = 45)
def nameOk (s : Str) : Bool := s.all nameByte && decide (1 ≤ s.length) && decide (s.length ≤ 12)
theorem nameOk_bad {key : Str} {j : Nat} (h : j < key.length) (hb : nameByte (key.getD j 0) = false) : nameOk key = false := by
  have : key.all nameByte = false := by
    rw [List.all_eq_false]
    exact ⟨key.getD j 0, getD_mem h, by rw [hb]; simp⟩
  simp [nameOk, this]
theorem nameOk_good {key : Str} {j : Nat} (h : key.length ≤ j) (hb : ∀ i, i < j → i < key.length → nameByte (key.getD i 0) = true) : nameOk key = (decide (1 ≤ key.length) && decide (key.length ≤ 12)) := by
  have : key.all nameByte = true := by
    rw [List.all_eq_true]
    intro x hx
    obtain ⟨i, hi, rfl⟩ := List.getElem_of_mem hx
    have := hb i (by omega) hi
    rwa [List.getD_eq_getElem?_getD, List.getElem?_eq_getElem hi] at this
  simp [nameOk, this]

/- hexadecimal texts -/
def hexFig (x : Nat) : UInt8 := if x < 10 then UInt8.ofNat (48 + x) else UInt8.ofNat (87 + x)
def hexB : Str → Str
  | [] => []
  | c :: s => hexFig (c.toNat / 16) :: hexFig (c.toNat % 16) :: hexB s
def hexS (s : Str) : Str := if 20000 < s.length then [] else hexB s
def hexVal (c : UInt8) : Option Nat := if 48 ≤ c.toNat ∧ c.toNat ≤ 57 then some (c.toNat - 48) else if 97 ≤ c.toNat ∧ c.toNat ≤ 102 then some (c.toNat - 87) else none
def unhexL : Str → Option Str
  | [] => some []
  | [_] => none
  | a :: b :: t => match hexVal a, hexVal b, unhexL t with
    | some h, some l, some r => some (UInt8.ofNat (16 * h + l) :: r)
    | _, _, _ => none
def unhex (t : Str) : Str × Bool := if 40000 < t.length then ([], false) else match unhexL t with
  | some r => (r, true)
  | none => ([], false)
theorem hexB_len : ∀ s : Str, (hexB s).length = 2 * s.length
  | [] => rfl
  | c :: s => by simp only [hexB, List.length_cons, hexB_len s]; omega
theorem hexS_len (s : Str) : (hexS s).length ≤ 40000 := by
  unfold hexS
  split
  · simp
  · rw [hexB_len]; omega
theorem unhexL_len : ∀ (t r : Str), unhexL t = some r → 2 * r.length = t.length
  | [], r, h => by simp only [unhexL, Option.some.injEq] at h; subst h; rfl
  | [_], r, h => by simp [unhexL] at h
  | a :: b :: t, r, h => by
    unfold unhexL at h
    split at h
    · rename_i hh ll rr h1 h2 h3
      simp only [Option.some.injEq] at h
      subst h
      have := unhexL_len t rr h3
      simp only [List.length_cons]
      omega
    · cases h
theorem unhex_len (t : Str) : (unhex t).1.length ≤ 20000 := by
  unfold unhex
  split
  · simp
  · split
    · rename_i r h
      have := unhexL_len t r h
      simp only
      omega
    · simp
def messageOf (v : Str) : Str := match v with
  | [] => []
  | c :: t => if c = 45 then (unhex t).1 else []
theorem messageOf_len (v : Str) : (messageOf v).length ≤ 20000 := by
  unfold messageOf
  split
  · simp
  · split
    · exact unhex_len _
    · simp

/-- The keys behind their first signs. -/
def dropAcc (k : Nat) : List Str → List Str → List Str
  | [], out => out
  | x :: l, out => dropAcc k l (out ++ [x.drop k])
namespace MS
def message (m : MS) (key : Str) : MS × Str := match m.look key with | (m, v) => (m, messageOf v)
def fileOf (m : MS) (name : Str) : MS × Int := if nameOk name = true then m.num (([110, 47] : Str) ++ name) else (m, 0)
def makeName (m : MS) (name : Str) : MS × Int × Int :=
  if nameOk name = true then
    match m.fileOf name with
    | (m, id) => if id = 0 then
        match m.num ([99, 47, 102, 105, 108, 101] : Str) with
        | (m, n) => if 20 ≤ n then (m, 0, 3) else
          match m.bump ([99, 47, 102, 105, 108, 101] : Str) with
          | (m, id) => ((m.setNum (([110, 47] : Str) ++ name) id).setNum (keyNum ([105, 47] : Str) id ([47, 108] : Str)) 1, id, 0)
      else (m, 0, 1)
  else (m, 0, 4)
def linkName (m : MS) (from_ to_ : Str) : MS × Int :=
  if nameOk from_ = true then
    if nameOk to_ = true then
      match m.fileOf from_ with
      | (m, id) => if id = 0 then (m, 2) else
        match m.fileOf to_ with
        | (m, o) => if o = 0 then
            match m.num (keyNum ([105, 47] : Str) id ([47, 108] : Str)) with
            | (m, n) => if 4 ≤ n then (m, 3) else
              ((m.setNum (([110, 47] : Str) ++ to_) id).setNum (keyNum ([105, 47] : Str) id ([47, 108] : Str)) (n + 1), 0)
          else (m, 1)
    else (m, 4)
  else (m, 4)
/-- What wipe does with the keys that it finds. -/
def wipeL : List Str → MS → MS
  | [], m => m
  | k :: l, m => wipeL l (m.lay k [])
def wipe' (m : MS) (p : Str) : MS := match m.under p with | (m, l) => wipeL l m
def unlinkName (m : MS) (name : Str) : MS × Int :=
  if nameOk name = true then
    match m.fileOf name with
    | (m, id) => if id = 0 then (m, 2) else
      match (m.lay (([110, 47] : Str) ++ name) []).num (keyNum ([105, 47] : Str) id ([47, 108] : Str)) with
      | (m, n) => if 1 < n then (m.setNum (keyNum ([105, 47] : Str) id ([47, 108] : Str)) (n - 1), 0) else (m.wipe' (keyNum ([105, 47] : Str) id ([47] : Str)), 0)
  else (m, 4)
def renameName (m : MS) (from_ to_ : Str) : MS × Int :=
  if nameOk from_ = true then
    if nameOk to_ = true then
      match m.fileOf from_ with
      | (m, id) => if id = 0 then (m, 2) else
        match m.fileOf to_ with
        | (m, o) => if o = id then (m, 0) else
          if o = 0 then ((m.setNum (([110, 47] : Str) ++ to_) id).lay (([110, 47] : Str) ++ from_) [], 0) else
            match m.unlinkName to_ with
            | (m, _) => ((m.setNum (([110, 47] : Str) ++ to_) id).lay (([110, 47] : Str) ++ from_) [], 0)
    else (m, 4)
  else (m, 4)
def names (m : MS) : MS × List Str := match m.under ([110, 47] : Str) with | (m, l) => (m, dropAcc 2 l [])

/- files -/
def sizeOf (m : MS) (id : Int) : MS × Int := m.num (keyNum ([105, 47] : Str) id ([47, 115] : Str))
def block (m : MS) (id place : Int) : MS × Str := match m.look (keyNum (keyNum ([105, 47] : Str) id ([47, 98, 47] : Str)) place []) with | (m, v) => (m, (unhex v).1)

/- pipes -/
def makePipe (m : MS) : MS × Int × Int :=
  match m.num ([99, 47, 112, 105, 112, 101] : Str) with
  | (m, n) => if 8 ≤ n then (m, 0, 3) else
    match m.bump ([99, 47, 112, 105, 112, 101] : Str) with
    | (m, id) => (m.setNum (keyNum ([112, 47] : Str) id ([47, 111] : Str)) 1, id, 0)
def isPipe (m : MS) (id : Int) : MS × Bool := match m.num (keyNum ([112, 47] : Str) id ([47, 111] : Str)) with | (m, n) => (m, decide (n = 1))
def putPipe (m : MS) (id : Int) (text : Str) : MS × Int :=
  match m.isPipe id with
  | (m, b) => if b = true then
      if 20 < (text.length : Int) then (m, 4) else
      match m.num (keyNum ([112, 47] : Str) id ([47, 116] : Str)) with
      | (m, t) => match m.num (keyNum ([112, 47] : Str) id ([47, 104] : Str)) with
        | (m, h) => if 4 ≤ t - h then (m, 5) else if 999 ≤ t then (m, 3) else
          ((m.setNum (keyNum ([112, 47] : Str) id ([47, 116] : Str)) (t + 1)).lay (keyNum (keyNum ([112, 47] : Str) id ([47, 113, 47] : Str)) (t + 1) []) (([45] : Str) ++ hexS text), 0)
    else (m, 2)
def lenPipe (m : MS) (id : Int) : MS × Int := match m.num (keyNum ([112, 47] : Str) id ([47, 116] : Str)) with | (m, t) => match m.num (keyNum ([112, 47] : Str) id ([47, 104] : Str)) with | (m, h) => (m, t - h)
def takePipe (m : MS) (id : Int) : MS × Str × Int :=
  match m.isPipe id with
  | (m, b) => if b = true then
      match m.num (keyNum ([112, 47] : Str) id ([47, 104] : Str)) with
      | (m, h) => match m.num (keyNum ([112, 47] : Str) id ([47, 116] : Str)) with
        | (m, t) => if t = h then (m, [], 5) else
          match m.message (keyNum (keyNum ([112, 47] : Str) id ([47, 113, 47] : Str)) (h + 1) []) with
          | (m, x) => ((m.lay (keyNum (keyNum ([112, 47] : Str) id ([47, 113, 47] : Str)) (h + 1) []) []).setNum (keyNum ([112, 47] : Str) id ([47, 104] : Str)) (h + 1), x, 0)
    else (m, [], 2)

/- processes -/
def state (m : MS) (id : Int) : MS × Int := m.num (keyNum ([114, 47] : Str) id ([47, 115] : Str))
def spawn (m : MS) (parent : Int) : MS × Int × Int :=
  match m.num ([99, 47, 112, 114, 111, 99] : Str) with
  | (m, n) => if 12 ≤ n then (m, 0, 3) else
    match m.bump ([99, 47, 112, 114, 111, 99] : Str) with
    | (m, id) => ((m.setNum (keyNum ([114, 47] : Str) id ([47, 115] : Str)) 1).setNum (keyNum ([114, 47] : Str) id ([47, 112] : Str)) parent, id, 0)
def endProc (m : MS) (id n : Int) : MS × Int :=
  match m.state id with
  | (m, s) => if s = 1 then
      if 0 ≤ n ∧ n ≤ 100 then ((m.setNum (keyNum ([114, 47] : Str) id ([47, 115] : Str)) 2).setNum (keyNum ([114, 47] : Str) id ([47, 120] : Str)) (n + 1), 0) else (m, 4)
    else (m, 2)
def reap (m : MS) (parent id : Int) : MS × Int × Int :=
  match m.num (keyNum ([114, 47] : Str) id ([47, 112] : Str)) with
  | (m, own) => if own = 0 then (m, 0, 2) else if own = parent then
      match m.state id with
      | (m, s) => if s = 1 then (m, 0, 5) else if s = 2 then
          match m.num (keyNum ([114, 47] : Str) id ([47, 120] : Str)) with
          | (m, n) => (m.wipe' (keyNum ([114, 47] : Str) id ([47] : Str)), n - 1, 0)
        else (m, 0, 2)
    else (m, 0, 2)
def isKid (k : Str) : Bool := decide (5 ≤ k.length) && decide (k.drop (k.length - 2) = ([47, 112] : Str))
def kidsL (parent : Int) : List Str → MS → List Int → MS × List Int
  | [], m, out => (m, out)
  | k :: l, m, out => if isKid k = true then
      match m.num k with
      | (m, n) => if n = parent then kidsL parent l m (out ++ [numOf ((k.take (k.length - 2)).drop 2)]) else kidsL parent l m out
    else kidsL parent l m out
def kids (m : MS) (parent : Int) : MS × List Int := match m.under ([114, 47] : Str) with | (m, l) => kidsL parent l m []

/- signals -/
def send (m : MS) (to_ n : Int) : MS × Int :=
  match m.state to_ with
  | (m, s) => if s = 1 then
      if 1 ≤ n ∧ n ≤ 31 then
        match m.num (keyNum ([103, 47] : Str) to_ ([47, 116] : Str)) with
        | (m, t) => match m.num (keyNum ([103, 47] : Str) to_ ([47, 104] : Str)) with
          | (m, h) => if 4 ≤ t - h then (m, 5) else if 999 ≤ t then (m, 3) else
            ((m.setNum (keyNum ([103, 47] : Str) to_ ([47, 116] : Str)) (t + 1)).setNum (keyNum (keyNum ([103, 47] : Str) to_ ([47, 113, 47] : Str)) (t + 1) []) n, 0)
      else (m, 4)
    else (m, 2)
def takeSignal (m : MS) (id : Int) : MS × Int × Int :=
  match m.num (keyNum ([103, 47] : Str) id ([47, 104] : Str)) with
  | (m, h) => match m.num (keyNum ([103, 47] : Str) id ([47, 116] : Str)) with
    | (m, t) => if t = h then (m, 0, 5) else
      match m.num (keyNum (keyNum ([103, 47] : Str) id ([47, 113, 47] : Str)) (h + 1) []) with
      | (m, n) => ((m.lay (keyNum (keyNum ([103, 47] : Str) id ([47, 113, 47] : Str)) (h + 1) []) []).setNum (keyNum ([103, 47] : Str) id ([47, 104] : Str)) (h + 1), n, 0)
def setTimer (m : MS) (id at_ : Int) : MS × Int := if 0 ≤ at_ ∧ at_ ≤ 999 then (m.setNum (keyNum ([116, 47] : Str) id []) at_, 0) else (m, 4)
def tickL (clock : Int) : List Str → MS → Int → MS × Int
  | [], m, k => (m, k)
  | x :: l, m, k => match m.num x with
    | (m, n) => if clock < n then tickL clock l m k else
      match (m.lay x []).send (numOf (x.drop 2)) 14 with
      | (m, _) => tickL clock l m (k + 1)
def tick (m : MS) (n : Int) : MS × Int × Int :=
  if n < 1 then (m, 0, 4) else
    match m.num ([99, 47, 99, 108, 111, 99, 107] : Str) with
    | (m, c) => if 999 - c < n then (m, 0, 3) else
      match (m.setNum ([99, 47, 99, 108, 111, 99, 107] : Str) (c + n)).under ([116, 47] : Str) with
      | (m, l) => match tickL (c + n) l m 0 with
        | (m, k) => (m, k, 0)

/- pages -/
def storePage (m : MS) (id page : Int) (text : Str) : MS × Int :=
  if 0 ≤ page ∧ page ≤ 3 then
    if 20 < (text.length : Int) then (m, 4) else
      (m.lay (keyNum (keyNum ([109, 47] : Str) id ([47] : Str)) page []) (if text = [] then [] else ([45] : Str) ++ hexS text), 0)
  else (m, 4)
def loadPage (m : MS) (id page : Int) : MS × Str × Int :=
  if 0 ≤ page ∧ page ≤ 3 then
    match m.message (keyNum (keyNum ([109, 47] : Str) id ([47] : Str)) page []) with
    | (m, x) => (m, x, 0)
  else (m, [], 4)
def forkL (k : Nat) (to_ : Int) : List Str → MS → MS
  | [], m => m
  | x :: l, m => match m.look x with
    | (m, v) => forkL k to_ l (m.lay (keyNum ([109, 47] : Str) to_ ([47] : Str) ++ x.drop k) v)
def forkPages (m : MS) (from_ to_ : Int) : MS := match m.under (keyNum ([109, 47] : Str) from_ ([47] : Str)) with | (m, l) => forkL (keyNum ([109, 47] : Str) from_ ([47] : Str)).length to_ l m
def dropPages (m : MS) (id : Int) : MS := m.wipe' (keyNum ([109, 47] : Str) id ([47] : Str))

/- output -/
def putOut (m : MS) (text : Str) : MS × Int :=
  if 1 ≤ (text.length : Int) ∧ (text.length : Int) ≤ 20 then
    match m.num ([100, 47, 110] : Str) with
    | (m, n) => if 40 ≤ n then (m, 3) else ((m.setNum ([100, 47, 110] : Str) (n + 1)).lay (keyNum ([100, 47] : Str) (n + 1) []) (([45] : Str) ++ hexS text), 0)
  else (m, 4)
end MS
end Go.Proofs.YtkmpmjficoohkaaGreatDoor

set_option linter.unusedSimpArgs false
set_option linter.unusedVariables false
set_option linter.unnecessarySimpa false
namespace Go.Proofs.YtkmpmjficoohkaaGreatDoor
open Go Go.RowKit

/-- A call; what it is answered. -/
structure CL where
  kind : Int
  name : Str
  to_ : Str
  a : Int
  b : Int
  text : Str
structure AN where
  code : Int
  n : Int
  text : Str
structure CL.ok (c : CL) (B : Nat) : Prop where
  h1 : -9223372036854775808 ≤ c.kind ∧ c.kind ≤ 9223372036854775807
  h2 : -9223372036854775808 ≤ c.a ∧ c.a ≤ 9223372036854775807
  h3 : -9223372036854775808 ≤ c.b ∧ c.b ≤ 9223372036854775807
  h4 : c.name.length ≤ B
  h5 : c.to_.length ≤ B
  h6 : c.text.length ≤ B
def szCallF (c : CL) (l : Int) : Int :=
  if l - (c.name.length : Int) < 0 then -1 else if l - (c.name.length : Int) - (c.to_.length : Int) < 0 then -1 else
  if l - (c.name.length : Int) - (c.to_.length : Int) - (c.text.length : Int) < 0 then -1 else l - (c.name.length : Int) - (c.to_.length : Int) - (c.text.length : Int)
theorem szCall_ok {c : CL} {l : Int} (h : ¬ szCallF c l < 0) : (c.name.length : Int) ≤ l ∧ (c.to_.length : Int) ≤ l ∧ (c.text.length : Int) ≤ l := by
  unfold szCallF at h
  split at h
  · omega
  · split at h
    · omega
    · split at h <;> omega
def bro (x : Int) (y : Nat) : Nat := min x.toNat y
theorem bro_le (x : Int) (y : Nat) : bro x y ≤ y := Nat.min_le_right _ _
end Go.Proofs.YtkmpmjficoohkaaGreatDoor

set_option linter.unusedSimpArgs false
set_option linter.unusedVariables false
set_option linter.unnecessarySimpa false
namespace Go.Proofs.YtkmpmjficoohkaaGreatDoor
open Go Go.RowKit
theorem szMach_le (m : MS) : szMach m 1048576 ≤ 1048576 := by
  unfold szMach
  split
  · omega
  · rename_i h1
    have hs := szCellS_le m.s 1048576 (by omega)
    split
    · omega
    · unfold szTouch
      split
      · omega
      · rename_i h3
        have hr := szStringS_le m.r (szCellS m.s 1048576) (by omega)
        split
        · omega
        · have hw := szStringS_le m.w (szStringS m.r (szCellS m.s 1048576)) (by omega)
          omega
attribute [local irreducible] JL JC JQ JO LO PO JA JX Ct

theorem N_eqAnswer (a : AN) :
    Ct Tryz.prog 75 [.agg #[.int .i64 a.code, .int .i64 a.n, str a.text], .agg #[.int .i64 a.code, .int .i64 a.n, str a.text]] [] (fun _ => True) (fun v A' => v = .bool true ∧ A' = []) := by
  refine Ct.intro Tryz.func75 rfl Tryz.ntmps75 (lb rfl) fun w0 hpre => ?_
  refine jC <| jF ?_
  refine jI rfl (jp (cs := [iv a.code, iv a.n, str a.text]) rfl rfl) ?_
  rintro _ _ ⟨b_1, rfl, rfl⟩
  refine jI rfl (jp (cs := [iv a.code, iv a.n, str a.text]) rfl rfl) ?_
  rintro _ _ ⟨b_2, rfl, rfl⟩
  refine jA (jG (v := .bool false) rfl) <| jE <| jB <| jC <| jC <| jF <| jA (jS fo99_0 rfl) <| jP (jU 1 (v := iv a.code) rfl rfl kE rfl) <| jA (jS fo99_0 rfl) <| jP (jU 0 (v := iv a.code) rfl rfl kE rfl) ?_
  refine jA (jf rfl rfl) <| jE <| jB <| jL (cB (cN (dT rfl))) <| jM <| jB <| jC <| jC <| jF <| jA (jS fo99_1 rfl) ?_
  refine jP (jU 1 (v := iv a.n) rfl rfl kE rfl) <| jA (jS fo99_1 rfl) <| jP (jU 0 (v := iv a.n) rfl rfl kE rfl) <| jA (jf rfl rfl) <| jE <| jB <| jL (cB (cN (dT rfl))) <| jM <| jB <| jC ?_
  refine jC <| jF <| jA (jS fo99_2 rfl) <| jP (jU 1 (v := str a.text) rfl rfl kH rfl) <| jA (jS fo99_2 rfl) <| jP (jU 0 (v := str a.text) rfl rfl kH rfl) <| jA (kA rfl rfl) <| jE <| jB <| jL (cB (cN (dT rfl))) ?_
  refine jM <| jB <| jC <| jF <| jA (jG (v := .bool true) rfl) <| jE <| jB <| jK <| jN (.inl rfl) rfl (jJ (v := .bool true) rfl) (List.nil_sublist _) ?_
  exact ⟨rfl, rfl⟩

end Go.Proofs.YtkmpmjficoohkaaGreatDoor

set_option linter.unusedSimpArgs false
set_option linter.unusedVariables false
set_option linter.unnecessarySimpa false
namespace Go.Proofs.YtkmpmjficoohkaaGreatDoor
open Go Go.RowKit
/-- A step: who, which call. -/
structure SP where
  proc : Int
  call : CL
def k0 : CL := ⟨0, [], [], 0, 0, []⟩
def a0_ : AN := ⟨0, 0, []⟩
def p0_ : SP := ⟨0, k0⟩
def encK (c : CL) : List Value := [.int .i64 c.kind, str c.name, str c.to_, .int .i64 c.a, .int .i64 c.b, str c.text]
def encA (a : AN) : List Value := [.int .i64 a.code, .int .i64 a.n, str a.text]
def encP (p : SP) : List Value := [.int .i64 p.proc, .int .i64 p.call.kind, str p.call.name, str p.call.to_, .int .i64 p.call.a, .int .i64 p.call.b, str p.call.text]
theorem encK_len (c : CL) : (encK c).length = 6 := rfl
theorem encA_len (a : AN) : (encA a).length = 3 := rfl
theorem encP_len (p : SP) : (encP p).length = 7 := rfl
section
variable {α : Type} {enc : α → List Value} {k : Nat}
theorem flat_one (h : ∀ x, ∀ u ∈ enc x, u.oneCell' = true) (l : List α) : ∀ u ∈ l.flatMap enc, u.oneCell' = true := fun u hu => by
  obtain ⟨c, _, hc⟩ := List.mem_flatMap.1 hu
  exact h c u hc
theorem flat_sub (hk : ∀ x, (enc x).length = k) {w : World} {a : Option Addr} {c : Nat} {s : List α} (h : Sees w (.slice a s.length c) k s.length (s.flatMap enc)) (lo hi : Nat) (h1 : lo ≤ hi) (h2 : hi ≤ s.length) :
    Sees w (.slice (subA k a c lo) (hi - lo) (c - lo)) k (hi - lo) (((s.drop lo).take (hi - lo)).flatMap enc) := by
  have := h.sub lo hi h1 h2
  rw [flat_dropN hk, flat_takeN hk] at this
  exact this
theorem flat_hi (hk : ∀ x, (enc x).length = k) {w : World} {a : Option Addr} {c : Nat} {s : List α} (h : Sees w (.slice a s.length c) k s.length (s.flatMap enc)) (hi : Nat) (h2 : hi ≤ s.length) : Sees w (.slice a hi c) k hi ((s.take hi).flatMap enc) := by
  have := h.hi hi h2
  rw [flat_takeN hk] at this
  exact this
theorem flat_make (x : α) (m : Nat) : (List.replicate m (enc x)).flatten = (List.replicate m x).flatMap enc := by
  induction m with
  | zero => rfl
  | succ m ih => rw [List.replicate_succ, List.flatten_cons, ih, List.replicate_succ, List.flatMap_cons]
theorem flat_part (hk : ∀ x, (enc x).length = k) (d : α) (xs : List α) (i f m : Nat) (hi : i < xs.length) (hf : f + m ≤ k) : ((xs.flatMap enc).drop (i * k + f)).take m = ((enc (xs.getD i d)).drop f).take m := by
  rw [← flat_take hk d xs i hi, ← List.drop_drop, List.drop_take, List.take_take, Nat.min_eq_left (by omega)]
theorem flat_set1 (hk : ∀ x, (enc x).length = k) (d : α) {s : List α} {i f : Nat} {v : Value} {y : α} (h : i < s.length) (hf : f < k) (hy : (enc (s.getD i d)).set f v = enc y) :
    (s.flatMap enc).take (i * k + f) ++ [v] ++ (s.flatMap enc).drop (i * k + f + 1) = (s.set i y).flatMap enc := by
  have hl := flat_length hk s
  have hx : (s.flatMap enc) = (s.flatMap enc).take (i * k) ++ enc (s.getD i d) ++ (s.flatMap enc).drop (i * k + k) := by
    have h1 := flat_take hk d s i h
    have h2 : (s.flatMap enc) = (s.flatMap enc).take (i * k) ++ (s.flatMap enc).drop (i * k) := (List.take_append_drop _ _).symm
    have h3 : (s.flatMap enc).drop (i * k) = ((s.flatMap enc).drop (i * k)).take k ++ ((s.flatMap enc).drop (i * k)).drop k := (List.take_append_drop _ _).symm
    rw [h1, List.drop_drop] at h3
    rw [List.append_assoc, ← h3]
    exact h2
  have hle : i * k + k ≤ s.length * k := by
    have : (i + 1) * k ≤ s.length * k := Nat.mul_le_mul_right k h
    rwa [Nat.succ_mul] at this
  have hlen : ((s.flatMap enc).take (i * k)).length = i * k := by rw [List.length_take, hl]; omega
  have hset : (s.flatMap enc).set (i * k + f) v = (s.set i y).flatMap enc := by
    rw [← flat_set hk s i y h, ← hy]
    conv => lhs; rw [hx]
    rw [List.append_assoc, List.set_append_right _ _ (by omega), hlen, show i * k + f - i * k = f by omega, List.set_append_left _ _ (by rw [hk]; exact hf), List.append_assoc]
  rw [← hset, List.set_eq_take_append_cons_drop, if_pos (by rw [hl]; omega)]
  simp
theorem flat_set1s (hk : ∀ x, (enc x).length = k) (d : α) {s : List α} {i f : Nat} {v : Value} {x y : α} (h : i < s.length) (hf : f < k) (hy : (enc x).set f v = enc y) :
    ((s.set i x).flatMap enc).take (i * k + f) ++ [v] ++ ((s.set i x).flatMap enc).drop (i * k + f + 1) = (s.set i y).flatMap enc := by
  have hx : (s.set i x).getD i d = x := by rw [List.getD_eq_getElem?_getD, List.getElem?_set_self h]; rfl
  have := flat_set1 hk d (s := s.set i x) (i := i) (f := f) (v := v) (y := y) (by rw [List.length_set]; exact h) hf (by rw [hx]; exact hy)
  rwa [List.set_set] at this
end
theorem oneK (l : List CL) : ∀ u ∈ l.flatMap encK, u.oneCell' = true := flat_one (fun c u hu => by
  simp only [encK, List.mem_cons, List.not_mem_nil, or_false] at hu
  rcases hu with rfl | rfl | rfl | rfl | rfl | rfl <;> rfl) l
theorem oneA (l : List AN) : ∀ u ∈ l.flatMap encA, u.oneCell' = true := flat_one (fun c u hu => by
  simp only [encA, List.mem_cons, List.not_mem_nil, or_false] at hu
  rcases hu with rfl | rfl | rfl <;> rfl) l
theorem oneP (l : List SP) : ∀ u ∈ l.flatMap encP, u.oneCell' = true := flat_one (fun c u hu => by
  simp only [encP, List.mem_cons, List.not_mem_nil, or_false] at hu
  rcases hu with rfl | rfl | rfl | rfl | rfl | rfl | rfl <;> rfl) l
theorem subK {w : World} {a : Option Addr} {c : Nat} {s : List CL} (h : Sees w (.slice a s.length c) 6 s.length (s.flatMap encK)) (lo hi : Nat) (h1 : lo ≤ hi) (h2 : hi ≤ s.length) : Sees w (.slice (subA 6 a c lo) (hi - lo) (c - lo)) 6 (hi - lo) (((s.drop lo).take (hi - lo)).flatMap encK) := flat_sub encK_len h lo hi h1 h2
theorem hiK {w : World} {a : Option Addr} {c : Nat} {s : List CL} (h : Sees w (.slice a s.length c) 6 s.length (s.flatMap encK)) (hi : Nat) (h2 : hi ≤ s.length) : Sees w (.slice a hi c) 6 hi ((s.take hi).flatMap encK) := flat_hi encK_len h hi h2
theorem subA' {w : World} {a : Option Addr} {c : Nat} {s : List AN} (h : Sees w (.slice a s.length c) 3 s.length (s.flatMap encA)) (lo hi : Nat) (h1 : lo ≤ hi) (h2 : hi ≤ s.length) : Sees w (.slice (subA 3 a c lo) (hi - lo) (c - lo)) 3 (hi - lo) (((s.drop lo).take (hi - lo)).flatMap encA) := flat_sub encA_len h lo hi h1 h2
theorem hiA {w : World} {a : Option Addr} {c : Nat} {s : List AN} (h : Sees w (.slice a s.length c) 3 s.length (s.flatMap encA)) (hi : Nat) (h2 : hi ≤ s.length) : Sees w (.slice a hi c) 3 hi ((s.take hi).flatMap encA) := flat_hi encA_len h hi h2
theorem subP {w : World} {a : Option Addr} {c : Nat} {s : List SP} (h : Sees w (.slice a s.length c) 7 s.length (s.flatMap encP)) (lo hi : Nat) (h1 : lo ≤ hi) (h2 : hi ≤ s.length) : Sees w (.slice (subA 7 a c lo) (hi - lo) (c - lo)) 7 (hi - lo) (((s.drop lo).take (hi - lo)).flatMap encP) := flat_sub encP_len h lo hi h1 h2
theorem hiP {w : World} {a : Option Addr} {c : Nat} {s : List SP} (h : Sees w (.slice a s.length c) 7 s.length (s.flatMap encP)) (hi : Nat) (h2 : hi ≤ s.length) : Sees w (.slice a hi c) 7 hi ((s.take hi).flatMap encP) := flat_hi encP_len h hi h2

/- measures, marks, equality -/
def szL {α : Type} (f : α → Int → Int) : List α → Int → Int
  | [], l => l
  | x :: s, l => if f x l < 0 then -1 else szL f s (f x l)
def szLS {α : Type} (f : α → Int → Int) (s : List α) (l : Int) : Int := if l - s.length < 0 then -1 else szL f s (l - s.length)
def szAnsF (a : AN) (l : Int) : Int := if l - (a.text.length : Int) < 0 then -1 else l - (a.text.length : Int)
def szStepF (p : SP) (l : Int) : Int := if szCallF p.call l < 0 then -1 else szCallF p.call l
theorem szL_step {α : Type} {f : α → Int → Int} {s : List α} {j : Nat} (d : α) (h : j < s.length) (l : Int) : szL f (s.drop j) l = if f (s.getD j d) l < 0 then -1 else szL f (s.drop (j + 1)) (f (s.getD j d) l) := by
  rw [drop_at (getD_some (d := d) h), szL]
theorem szCallF_le (c : CL) (l : Int) (h : 0 ≤ l) : szCallF c l ≤ l ∧ -1 ≤ szCallF c l := by
  unfold szCallF
  split
  · omega
  · split
    · omega
    · split <;> omega
theorem szAnsF_le (a : AN) (l : Int) (h : 0 ≤ l) : szAnsF a l ≤ l ∧ -1 ≤ szAnsF a l := by
  unfold szAnsF
  split <;> omega
theorem szStepF_le (p : SP) (l : Int) (h : 0 ≤ l) : szStepF p l ≤ l ∧ -1 ≤ szStepF p l := by
  have := szCallF_le p.call l h
  unfold szStepF
  split <;> omega
theorem szL_le {α : Type} {f : α → Int → Int} (hf : ∀ x l, 0 ≤ l → f x l ≤ l ∧ -1 ≤ f x l) : ∀ (s : List α) (l : Int), 0 ≤ l → szL f s l ≤ l ∧ -1 ≤ szL f s l
  | [], l, h => by simp only [szL]; omega
  | x :: s, l, h => by
    have h1 := hf x l h
    unfold szL
    split
    · omega
    · have := szL_le hf s (f x l) (by omega)
      omega
theorem szLS_le {α : Type} {f : α → Int → Int} (hf : ∀ x l, 0 ≤ l → f x l ≤ l ∧ -1 ≤ f x l) (s : List α) (l : Int) (h : 0 ≤ l) : szLS f s l ≤ l ∧ -1 ≤ szLS f s l := by
  unfold szLS
  split
  · omega
  · have := szL_le hf s (l - s.length) (by omega)
    omega
theorem szL_mem {α : Type} {f : α → Int → Int} (hf : ∀ x l, 0 ≤ l → f x l ≤ l ∧ -1 ≤ f x l) : ∀ (s : List α) (l : Int), ¬ szL f s l < 0 → 0 ≤ l → ∀ c ∈ s, ∃ q, 0 ≤ q ∧ q ≤ l ∧ ¬ f c q < 0
  | [], l, _, _, c, hc => by simp at hc
  | d :: s, l, h, h0, c, hc => by
    unfold szL at h
    split at h
    · omega
    · rename_i hd
      have h1 := hf d l h0
      simp only [List.mem_cons] at hc
      rcases hc with rfl | hc
      · exact ⟨l, h0, by omega, hd⟩
      · obtain ⟨q, h2, h3, h4⟩ := szL_mem hf s _ h (by omega) c hc
        exact ⟨q, h2, by omega, h4⟩
theorem szLS_mem {α : Type} {f : α → Int → Int} (hf : ∀ x l, 0 ≤ l → f x l ≤ l ∧ -1 ≤ f x l) {s : List α} {l : Int} (h : ¬ szLS f s l < 0) : (s.length : Int) ≤ l ∧ ∀ c ∈ s, ∃ q, 0 ≤ q ∧ q ≤ l ∧ ¬ f c q < 0 := by
  unfold szLS at h
  split at h
  · omega
  · refine ⟨by omega, fun c hc => ?_⟩
    obtain ⟨q, h1, h2, h3⟩ := szL_mem hf s _ h (by omega) c hc
    exact ⟨q, h1, by omega, h3⟩
def markG {α : Type} (mk : Nat → α) (m : Nat) : List α → Nat → List α
  | [], _ => []
  | _ :: l, k => mk k :: markG mk m l (k + m)
theorem markG_len {α : Type} (mk : Nat → α) (m : Nat) : ∀ (l : List α) (k : Nat), (markG mk m l k).length = l.length
  | [], _ => rfl
  | _ :: l, k => by simp [markG, markG_len mk m l]
theorem markG_get {α : Type} (mk : Nat → α) (m : Nat) (d : α) : ∀ (l : List α) (k j : Nat), j < l.length → (markG mk m l k).getD j d = mk (k + m * j)
  | [], k, j, h => by simp at h
  | x :: l, k, 0, _ => by simp [markG]
  | x :: l, k, j + 1, h => by
    have := markG_get mk m d l (k + m) j (by simpa using h)
    simp only [markG, List.getD_cons_succ, this]
    congr 1
    rw [Nat.mul_add]
    omega
theorem markG_step {α : Type} (mk : Nat → α) (m : Nat) {l : List α} {k j : Nat} (h : j < l.length) : ((markG mk m l k).take j ++ l.drop j).set j (mk (k + m * j)) = (markG mk m l k).take (j + 1) ++ l.drop (j + 1) := by
  have hj : ((markG mk m l k).take j).length = j := by rw [List.length_take, markG_len]; omega
  rw [List.set_append_right _ _ (by omega), hj, Nat.sub_self, List.drop_eq_getElem_cons h, List.set_cons_zero, List.take_add_one]
  have hg : (markG mk m l k)[j]? = some (mk (k + m * j)) := by
    rw [← markG_get mk m (mk 0) l k j h]
    exact getD_some (by rw [markG_len]; exact h)
  rw [hg]
  simp
theorem markG_lenj {α : Type} (mk : Nat → α) (m : Nat) {l : List α} {k j : Nat} (h : j ≤ l.length) : ((markG mk m l k).take j ++ l.drop j).length = l.length := by
  rw [List.length_append, List.length_take, markG_len, List.length_drop]; omega
def mkK (k : Nat) : CL := ⟨((k : Nat) : Int), mt (k + 1), mt (k + 2), ((k + 3 : Nat) : Int), ((k + 4 : Nat) : Int), mt (k + 5)⟩
def mkA (k : Nat) : AN := ⟨((k : Nat) : Int), ((k + 1 : Nat) : Int), mt (k + 2)⟩
def mkP (k : Nat) : SP := ⟨((k : Nat) : Int), mkK (k + 1)⟩
instance decCL : DecidableEq CL := fun a b => decidable_of_iff (a.kind = b.kind ∧ a.name = b.name ∧ a.to_ = b.to_ ∧ a.a = b.a ∧ a.b = b.b ∧ a.text = b.text) (by cases a; cases b; simp)
instance decAN : DecidableEq AN := fun a b => decidable_of_iff (a.code = b.code ∧ a.n = b.n ∧ a.text = b.text) (by cases a; cases b; simp)
instance decSP : DecidableEq SP := fun a b => decidable_of_iff (a.proc = b.proc ∧ a.call = b.call) (by cases a; cases b; simp)
end Go.Proofs.YtkmpmjficoohkaaGreatDoor
