/-
  Lists, for slices.DeleteFunc. No program in sight.
-/
import Derived.Test.YtkmpmjficoohkaaGreatSlIns
set_option linter.unusedSimpArgs false
set_option linter.unusedVariables false
set_option linter.unnecessarySimpa false
namespace Go.Proofs.YtkmpmjficoohkaaGreat
open Go Go.RowKit

section
variable {α : Type} {p : α → Bool}
theorem del_start : ∀ {s : List α}, findAt p s < s.length → s.take (findAt p s) = (s.take (findAt p s + 1)).filter (fun c => !p c)
  | [], h => by simp at h
  | x :: l, h => by
    unfold findAt at h ⊢
    by_cases hx : p x = true
    · simp [hx]
    · simp only [hx] at h ⊢
      have ih := del_start (s := l) (by simpa using h)
      simp only [Bool.false_eq_true, if_false, List.take_succ_cons]
      rw [List.filter_cons_of_pos (by simp [hx]), ← ih]
theorem del_none : ∀ {s : List α}, findAt p s = s.length → s.filter (fun c => !p c) = s
  | [], _ => rfl
  | x :: l, h => by
    unfold findAt at h
    by_cases hx : p x = true
    · simp [hx] at h
    · simp only [hx, Bool.false_eq_true, if_false, List.length_cons, Nat.add_right_cancel_iff] at h
      rw [List.filter_cons_of_pos (by simp [hx]), del_none h]
variable {s X : List α} {i j : Nat} (d : α)
theorem getD_of_drop (h : X.drop j = s.drop j) : X.getD j d = s.getD j d := by
  have := congrArg (fun l => l[0]?) h
  simp only [List.getElem?_drop, Nat.add_zero] at this
  rw [List.getD_eq_getElem?_getD, List.getD_eq_getElem?_getD, this]
theorem drop_more (h : X.drop j = s.drop j) : X.drop (j + 1) = s.drop (j + 1) := by
  have := congrArg (fun l => l.drop 1) h
  simpa [List.drop_drop] using this
theorem del_skip (h : X.drop j = s.drop j) (hj : j < s.length) (hp : p (X.getD j d) = true) (hi : X.take i = (s.take j).filter (fun c => !p c)) : X.take i = (s.take (j + 1)).filter (fun c => !p c) := by
  rw [take_at (getD_some (d := d) hj), List.filter_append, ← hi, ← getD_of_drop d h, List.filter_cons_of_neg (by rw [hp]; simp), List.filter_nil, List.append_nil]
theorem del_keep (h : X.drop j = s.drop j) (hj : j < s.length) (hl : X.length = s.length) (hij : i < j) (hp : p (X.getD j d) = false) (hi : X.take i = (s.take j).filter (fun c => !p c)) : (X.set i (X.getD j d)).take (i + 1) = (s.take (j + 1)).filter (fun c => !p c) := by
  have hx : (X.set i (X.getD j d))[i]? = some (X.getD j d) := by rw [List.getElem?_set_self (by omega)]
  rw [take_at hx, take_at (getD_some (d := d) hj), List.filter_append, ← hi, List.take_set_of_le (Nat.le_refl i)]
  congr 1
  rw [← getD_of_drop d h, List.filter_cons_of_pos (by rw [hp]; rfl), List.filter_nil]
theorem del_keepD (h : X.drop j = s.drop j) (hij : i < j) (y : α) : (X.set i y).drop (j + 1) = s.drop (j + 1) := by
  rw [List.drop_set_of_lt (by omega)]
  exact drop_more h
theorem del_done (hj : s.length ≤ j) (hi : X.take i = (s.take j).filter (fun c => !p c)) : X.take i = s.filter (fun c => !p c) := by
  rw [hi, List.take_of_length_le hj]
theorem del_len (hl : X.length = s.length) (hi : i ≤ s.length) (h : X.take i = s.filter (fun c => !p c)) : (s.filter (fun c => !p c)).length = i := by
  rw [← h, List.length_take]; omega
end
theorem takeC {X : List Cell} {i : Nat} {zs : List Value} (h : i ≤ X.length) : ((X.flatMap encC).take (i * 2) ++ zs).take (i * 2) = (X.take i).flatMap encC := by
  have hl : ((X.flatMap encC).take (i * 2)).length = i * 2 := by rw [List.length_take, lenC]; omega
  rw [List.take_append_of_le_length (by omega), List.take_take, Nat.min_self, flat_takeN encC_len]
theorem takeS {X : List Str} {i : Nat} {zs : List Value} (h : i ≤ X.length) : ((X.map str).take (i * 1) ++ zs).take (i * 1) = (X.take i).map str := by
  have hl : ((X.map str).take (i * 1)).length = i * 1 := by rw [List.length_take, List.length_map]; omega
  rw [List.take_append_of_le_length (by omega), List.take_take, Nat.min_self, ← List.map_take, Nat.mul_one]
/-- A cut: what stands behind is told once, whatever way led there. -/
def Cut (n : Nat) (w0 : World) (D : List Nat) (I : Env → List Res → Prop) : Exit → Act → World → Prop := fun x a w => x = .normal ∧ ∃ e' L', a = act n e' ∧ St w0 D L' w ∧ I e' L'
section
variable {P : Program} {Q : Exit → Act → World → Prop} {n : Nat} {w0 : World} {D : List Nat} {L : List Res} {e : Env} {I : Env → List Res → Prop}
theorem NP.cut : NP (Cut n w0 D I) := fun c a w h => by cases h.1
theorem JQ.cut (h : I e L) : JQ (Cut n w0 D I) .normal n w0 D L e := fun _ hw => ⟨rfl, e, L, rfl, hw, h⟩
theorem JC.cut {c : Code} (I : Env → List Res → Prop) (h1 : JC P (Cut n w0 D I) n w0 D L c e) (h2 : ∀ e' L', I e' L' → JQ Q .normal n w0 D L' e') : JC P Q n w0 D L c e := fun w hw =>
  wp_mono (h1 w hw) fun x a w' hq => by
    obtain ⟨rfl, e', L', rfl, hst, hI⟩ := hq
    exact h2 e' L' hI w' hst
end
/- the same with what can be found left out -/
section
variable {P : Program} {ops : Array Oper} {Q : Exit → Act → World → Prop} {n : Nat} {w0 : World} {D : List Nat} {L M : List Res} {e : Env} {z fuel : Nat} {listed : Array Bool}
theorem JA.tk (i : Nat) {oi : Oper} {v : Value} (hi : ops[i]? = some oi) (hy : LO P n w0 D M e oi v) (h : JA P ops Q n w0 D M z fuel (listed.setIfInBounds i true) L (updO e oi.dst v))
    (hQ : NP Q := by repeat (first | with_reducible refine NP.th ?_ | with_reducible refine NP.bl ?_ | with_reducible exact NP.body | with_reducible exact NP.cut)) (hs : Region.noSelect ops = true := by kernel_rfl) (hz : lateB ops z i = true := by kernel_rfl) (hf : Region.free .any ops listed i = true := by kernel_rfl)
    (hr : (Region.ready .any ops listed).contains i = true := by kernel_rfl) (hg : oi.guard = none := by rfl) : JA P ops Q n w0 D M z (fuel + 1) listed L e := JA.take i hi hs hQ hz hf hr hg hy h
theorem JA.tkP (i : Nat) {oi : Oper} {v : Value} (hi : ops[i]? = some oi) (hy : PO P n e oi v) (h : JA P ops Q n w0 D M z fuel (listed.setIfInBounds i true) L (updO e oi.dst v))
    (hQ : NP Q := by repeat (first | with_reducible refine NP.th ?_ | with_reducible refine NP.bl ?_ | with_reducible exact NP.body | with_reducible exact NP.cut)) (hs : Region.noSelect ops = true := by kernel_rfl) (hf : Region.free .any ops listed i = true := by kernel_rfl)
    (hr : (Region.ready .any ops listed).contains i = true := by kernel_rfl) (hg : oi.guard = none := by rfl) : JA P ops Q n w0 D M z (fuel + 1) listed L e := JA.takeP i hi hs hQ hf hr hg hy h
theorem JA.on {i : Nat} (h : JX P ops Q n w0 D M z fuel listed L e i) (hr : Region.ready .any ops listed = [i] := by kernel_rfl) : JA P ops Q n w0 D M z (fuel + 1) listed L e := JA.one hr h
theorem JX.ls {i : Nat} {o : Oper} {Φ : Value → List Res → Prop} (hi : ops[i]? = some o) (ho : JO P n w0 D L e o Φ) (h : ∀ v L', Φ v L' → JQ Q .normal n w0 D L' (updO e o.dst v))
    (hg : o.guard = none := by rfl) (hiz : z ≤ i := by decide) (hr : Region.ready .any ops (listed.setIfInBounds i true) = [] := by kernel_rfl) : JX P ops Q n w0 D M z fuel listed L e i := JX.last hi hg hiz hr ho h
theorem JX.lt {i : Nat} {o : Oper} {Φ : Value → List Res → Prop} (hi : ops[i]? = some o) (ho : JO P n w0 D L e o Φ) (h : ∀ v L', Φ v L' → JA P ops Q n w0 D [] z fuel (listed.setIfInBounds i true) L' (updO e o.dst v))
    (hg : o.guard = none := by rfl) (hiz : z ≤ i := by decide) (hl : ((List.range listed.size).all fun k => Nat.ble z k || listed.getD k true) = true := by kernel_rfl) : JX P ops Q n w0 D M z fuel listed L e i := JX.late hi hg hiz hl ho h
theorem JL.o {o : Oper} {rest : List Oper} {Φ : Value → List Res → Prop} (ho : JO P n w0 D L e o Φ) (h : ∀ v L', Φ v L' → JL P ops Q n w0 D L' rest (updO e o.dst v)) (hg : o.guard = none := by rfl) : JL P ops Q n w0 D L (o :: rest) e := JL.op hg ho h
theorem JL.pu {o : Oper} {rest : List Oper} {v : Value} (ho : PO P n e o v) (h : JL P ops Q n w0 D L rest (updO e o.dst v)) (hg : o.guard = none := by rfl) : JL P ops Q n w0 D L (o :: rest) e := JL.pure hg ho h
theorem JL.lo {o : Oper} {rest : List Oper} {v : Value} (ho : LO P n w0 D L e o v) (h : JL P ops Q n w0 D L rest (updO e o.dst v)) (hg : o.guard = none := by rfl) : JL P ops Q n w0 D L (o :: rest) e := JL.ld hg ho h
end
end Go.Proofs.YtkmpmjficoohkaaGreat
