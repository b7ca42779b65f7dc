/-
  Lists, for slices.DeleteFunc. No program in sight.
-/
import Derived.Test.YtenfajgpdhgknaaGreatDoorSlIns
set_option linter.unusedSimpArgs false
set_option linter.unusedVariables false
set_option linter.unnecessarySimpa false
namespace Go.Proofs.YtenfajgpdhgknaaGreatDoor
open Go Go.RowKit

section
variable {α : Type} {p : α → Bool}
theorem del_start : ∀ {s : List α}, findAt p s < s.length → s.take (findAt p s) = (s.take (findAt p s + 1)).filter (fun c => !p c)
  | [], h => by simp at h
  | x :: l, h => by
    unfold findAt at h ⊢
    by_cases hx : p x = true
    · simp [hx]
    · simp only [hx] at h ⊢
      have ih := del_start (s := l) (by simpa using h)
      simp only [Bool.false_eq_true, if_false, List.take_succ_cons]
      rw [List.filter_cons_of_pos (by simp [hx]), ← ih]
theorem del_none : ∀ {s : List α}, findAt p s = s.length → s.filter (fun c => !p c) = s
  | [], _ => rfl
  | x :: l, h => by
    unfold findAt at h
    by_cases hx : p x = true
    · simp [hx] at h
    · simp only [hx, Bool.false_eq_true, if_false, List.length_cons, Nat.add_right_cancel_iff] at h
      rw [List.filter_cons_of_pos (by simp [hx]), del_none h]
variable {s X : List α} {i j : Nat} (d : α)
theorem getD_of_drop (h : X.drop j = s.drop j) : X.getD j d = s.getD j d := by
  have := congrArg (fun l => l[0]?) h
  simp only [List.getElem?_drop, Nat.add_zero] at this
  rw [List.getD_eq_getElem?_getD, List.getD_eq_getElem?_getD, this]
theorem drop_more (h : X.drop j = s.drop j) : X.drop (j + 1) = s.drop (j + 1) := by
  have := congrArg (fun l => l.drop 1) h
  simpa [List.drop_drop] using this
theorem del_skip (h : X.drop j = s.drop j) (hj : j < s.length) (hp : p (X.getD j d) = true) (hi : X.take i = (s.take j).filter (fun c => !p c)) : X.take i = (s.take (j + 1)).filter (fun c => !p c) := by
  rw [take_at (getD_some (d := d) hj), List.filter_append, ← hi, ← getD_of_drop d h, List.filter_cons_of_neg (by rw [hp]; simp), List.filter_nil, List.append_nil]
theorem del_keep (h : X.drop j = s.drop j) (hj : j < s.length) (hl : X.length = s.length) (hij : i < j) (hp : p (X.getD j d) = false) (hi : X.take i = (s.take j).filter (fun c => !p c)) : (X.set i (X.getD j d)).take (i + 1) = (s.take (j + 1)).filter (fun c => !p c) := by
  have hx : (X.set i (X.getD j d))[i]? = some (X.getD j d) := by rw [List.getElem?_set_self (by omega)]
  rw [take_at hx, take_at (getD_some (d := d) hj), List.filter_append, ← hi, List.take_set_of_le (Nat.le_refl i)]
  congr 1
  rw [← getD_of_drop d h, List.filter_cons_of_pos (by rw [hp]; rfl), List.filter_nil]
theorem del_keepD (h : X.drop j = s.drop j) (hij : i < j) (y : α) : (X.set i y).drop (j + 1) = s.drop (j + 1) := by
  rw [List.drop_set_of_lt (by omega)]
  exact drop_more h
theorem del_done (hj : s.length ≤ j) (hi : X.take i = (s.take j).filter (fun c => !p c)) : X.take i = s.filter (fun c => !p c) := by
  rw [hi, List.take_of_length_le hj]
theorem del_len (hl : X.length = s.length) (hi : i ≤ s.length) (h : X.take i = s.filter (fun c => !p c)) : (s.filter (fun c => !p c)).length = i := by
  rw [← h, List.length_take]; omega
end
theorem takeC {X : List Cell} {i : Nat} {zs : List Value} (h : i ≤ X.length) : ((X.flatMap encC).take (i * 2) ++ zs).take (i * 2) = (X.take i).flatMap encC := by
  have hl : ((X.flatMap encC).take (i * 2)).length = i * 2 := by rw [List.length_take, lenC]; omega
  rw [List.take_append_of_le_length (by omega), List.take_take, Nat.min_self, flat_takeN encC_len]
theorem takeS {X : List Str} {i : Nat} {zs : List Value} (h : i ≤ X.length) : ((X.map str).take (i * 1) ++ zs).take (i * 1) = (X.take i).map str := by
  have hl : ((X.map str).take (i * 1)).length = i * 1 := by rw [List.length_take, List.length_map]; omega
  rw [List.take_append_of_le_length (by omega), List.take_take, Nat.min_self, ← List.map_take, Nat.mul_one]
/-- A cut: what stands behind is told once, whatever way led there. -/
def Cut (n : Nat) (w0 : World) (D : List Nat) (I : Env → List Res → Prop) : Exit → Act → World → Prop := fun x a w => x = .normal ∧ ∃ e' L', a = act n e' ∧ St w0 D L' w ∧ I e' L'
section
variable {P : Program} {Q : Exit → Act → World → Prop} {n : Nat} {w0 : World} {D : List Nat} {L : List Res} {e : Env} {I : Env → List Res → Prop}
theorem NP.cut : NP (Cut n w0 D I) := fun c a w h => by cases h.1
theorem JQ.cut (h : I e L) : JQ (Cut n w0 D I) .normal n w0 D L e := fun _ hw => ⟨rfl, e, L, rfl, hw, h⟩
theorem JC.cut {c : Code} (I : Env → List Res → Prop) (h1 : JC P (Cut n w0 D I) n w0 D L c e) (h2 : ∀ e' L', I e' L' → JQ Q .normal n w0 D L' e') : JC P Q n w0 D L c e := fun w hw =>
  wp_mono (h1 w hw) fun x a w' hq => by
    obtain ⟨rfl, e', L', rfl, hst, hI⟩ := hq
    exact h2 e' L' hI w' hst
end
end Go.Proofs.YtenfajgpdhgknaaGreatDoor
