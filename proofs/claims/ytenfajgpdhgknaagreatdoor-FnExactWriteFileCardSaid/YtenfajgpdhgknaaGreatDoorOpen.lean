/-
  Arguments that come in, as lists: slices of strings and of cells. No program in sight.
-/
import Derived.Test.YtenfajgpdhgknaaGreatDoorS04MACH
import Derived.Test.YtenfajgpdhgknaaGreatDoorDatB
import Derived.Deep.SlicePairs
import Derived.ProofKit
import Derived.Deep.Slices
import Derived.Deep.DeepHandedRow
set_option linter.unusedSimpArgs false
set_option linter.unusedVariables false
set_option linter.unnecessarySimpa false
namespace Go.Proofs.YtenfajgpdhgknaaGreatDoor
open Go Go.RowKit Go.ChangeShapes Go.WideShapes Go.ChangeAt

theorem list_of {α : Type} (d : α) {p : Nat → α → Prop} : ∀ n, (∀ i, i < n → ∃ s, p i s) → ∃ l : List α, l.length = n ∧ ∀ i, i < n → p i (l.getD i d)
  | 0, _ => ⟨[], rfl, fun i hi => absurd hi (Nat.not_lt_zero i)⟩
  | n + 1, h => by
    obtain ⟨l, hl, hp⟩ := list_of d n (fun i hi => h i (by omega))
    obtain ⟨s, hs⟩ := h n (by omega)
    refine ⟨l ++ [s], by simp [hl], fun i hi => ?_⟩
    by_cases hin : i < n
    · have : (l ++ [s]).getD i d = l.getD i d := by
        rw [List.getD_eq_getElem?_getD, List.getD_eq_getElem?_getD, List.getElem?_append_left (by omega)]
      rw [this]; exact hp i hin
    · have hi' : i = l.length := by omega
      have : (l ++ [s]).getD i d = s := by subst hi'; simp
      rw [this]
      have : i = n := by omega
      subst this
      exact hs

section
variable {H : Type} {enc : TypeId × Value → H} {P : Program} {w : World} {base : Nat} {sp : Nat → Bool} {hd : Bool}

theorem trod_str {e fuel : Nat} {cs : List Value} {x : DataW H × List MemPlace} (he : P.underlying e = some .string) (h : DataW.trod enc P w base sp hd fuel e cs = some x) : ∃ s : Str, cs = [str s] ∧ s.length ≤ maxLen := by
  obtain ⟨s, rfl, _, hs⟩ := DataW.trod_string he h
  refine ⟨s.data.toList, by simp [str], ?_⟩
  have : s.size = s.data.toList.length := Array.length_toList.symm
  omega

theorem openS {t e fuel : Nat} {v : Value} {x : DataW H × List MemPlace} (ht : P.underlying t = some (.slice e)) (he : P.underlying e = some .string) (ce : P.cellsOf e = 1) (hsp : ∀ a n c, v = .slice (some a) n c → a.spot = none ∧ a.block < w.heap.size)
    (h : DataW.trod enc P w base sp hd fuel t [v] = some x) : ∃ a c, ∃ l : List Str, v = .slice a l.length c ∧ Sees w (.slice a l.length c) 1 l.length (l.map str) ∧ okS l := by
  rcases Deep.open_slice ht h with ⟨hv, _⟩ | ⟨a, len, cap, m, n, D, Pl, hv, hb, hl, hm, hmm, _, hc⟩
  · simp only [List.cons.injEq, and_true] at hv
    exact ⟨none, 0, [], hv, sees_nil 1, by simp [okS]⟩
  · simp only [List.cons.injEq, and_true] at hv
    obtain ⟨hs, hlt⟩ := hsp _ _ _ hv
    obtain ⟨b, o, s⟩ := a
    simp only at hs hlt
    subst hs
    have hle : len ≤ m := by rw [hmm]; split <;> omega
    obtain ⟨l, hll, hp⟩ := list_of (p := fun i s => w.cell? ⟨b, o + i, none⟩ = some (str s) ∧ s.length ≤ maxLen) ([] : Str) len (fun i hi => by
      obtain ⟨cs', h1, h2⟩ := hc i (by omega)
      obtain ⟨s, rfl, hs⟩ := trod_str he h2
      refine ⟨s, ?_, hs⟩
      rw [ce] at h1
      unfold World.cells? at h1
      split at h1
      · simp only [List.range_succ, List.range_zero, List.nil_append, List.mapM_cons, List.mapM_nil, Option.bind_eq_bind, Option.pure_def] at h1
        rw [add_lit, add_lit, Nat.mul_one, Nat.add_zero] at h1
        cases hq : w.cell? ⟨b, o + i, none⟩ with
        | none => rw [hq] at h1; simp at h1
        | some u => rw [hq] at h1; simp at h1; rw [h1]
      · cases h1)
    subst hll
    refine ⟨some ⟨b, o, none⟩, cap, l, hv, ⟨by simp, .inr ⟨b, o, cap, rfl, hl, hm, hlt, fun j u hj => ?_⟩⟩, by unfold maxLen at *; omega, fun j hj => by have := (hp j hj).2; unfold maxLen at this; omega⟩
    have hjl : j < l.length := by
      have := (List.getElem?_eq_some_iff.1 hj).1
      simpa using this
    rw [List.getElem?_map, getD_some (d := []) hjl] at hj
    simp only [Option.map_some, Option.some.injEq] at hj
    rw [← hj]
    exact (hp j hjl).1

theorem openC {t e fuel : Nat} {f0 f1 : Field} {v : Value} {x : DataW H × List MemPlace} (ht : P.underlying t = some (.slice e)) (he : P.underlying e = some (.struct #[f0, f1])) (ce : P.cellsOf e = 2) (o0 : f0.offset = 0) (o1 : f1.offset = 1) (c0' : P.cellsOf f0.type = 1) (c1' : P.cellsOf f1.type = 1)
    (s0 : P.underlying f0.type = some .string) (s1 : P.underlying f1.type = some .string) (hsp : ∀ a n c, v = .slice (some a) n c → a.spot = none ∧ a.block < w.heap.size)
    (h : DataW.trod enc P w base sp hd fuel t [v] = some x) : ∃ a c, ∃ l : List Cell, v = .slice a l.length c ∧ Sees w (.slice a l.length c) 2 l.length (l.flatMap encC) ∧ okC l := by
  rcases Deep.open_slice_pairs ht he ce o0 o1 c0' c1' h with ⟨hv, _⟩ | ⟨a, len, cap, m, n, V0, V1, D0, D1, P0, P1, hv, hb, hl, hm, hmm, _, hc⟩
  · simp only [List.cons.injEq, and_true] at hv
    exact ⟨none, 0, [], hv, sees_nil 2, by simp [okC]⟩
  · simp only [List.cons.injEq, and_true] at hv
    obtain ⟨hs, hlt⟩ := hsp _ _ _ hv
    obtain ⟨b, o, s⟩ := a
    simp only at hs hlt
    subst hs
    have hle : len ≤ m := by rw [hmm]; split <;> omega
    obtain ⟨l, hll, hp⟩ := list_of (p := fun i (s : Cell) => w.cell? ⟨b, o + i * 2, none⟩ = some (str s.1) ∧ w.cell? ⟨b, o + (i * 2 + 1), none⟩ = some (str s.2) ∧ s.1.length ≤ maxLen ∧ s.2.length ≤ maxLen) c0 len (fun i hi => by
      obtain ⟨h1, h2, h3, h4⟩ := hc i (by omega)
      obtain ⟨k, hk, hkl⟩ := trod_str s0 h3
      obtain ⟨u, hu, hul⟩ := trod_str s1 h4
      simp only [List.cons.injEq, and_true] at hk hu
      rw [add_lit, hk] at h1
      rw [add_lit, hu] at h2
      exact ⟨(k, u), h1, h2, hkl, hul⟩)
    subst hll
    refine ⟨some ⟨b, o, none⟩, cap, l, hv, ⟨lenC l, .inr ⟨b, o, cap, rfl, hl, hm, hlt, fun j u hj => ?_⟩⟩, by unfold maxLen at *; omega, fun j hj => by have := (hp j hj).2.2; unfold maxLen at this; omega⟩
    have hjl : j < l.length * 2 := by
      have := (List.getElem?_eq_some_iff.1 hj).1
      rwa [lenC] at this
    obtain ⟨q, hq⟩ : ∃ q, j = q * 2 ∨ j = q * 2 + 1 := ⟨j / 2, by omega⟩
    rcases hq with rfl | rfl
    · rw [atC1 (by omega)] at hj
      simp only [Option.some.injEq] at hj
      rw [← hj]
      exact (hp q (by omega)).1
    · rw [atC2 (by omega)] at hj
      simp only [Option.some.injEq] at hj
      rw [← hj]
      exact (hp q (by omega)).2.1
end

/-- What is known of the addresses of slices that come in. -/
theorem spot_of {P : Program} {w : World} {t e : TypeId} {v : Value} {b0 : Nat} {r : Reach} (ht : P.underlying t = some (.slice e)) (h : Cell.okWide P w r b0 t v) : ∀ a n c, v = .slice (some a) n c → a.spot = none ∧ a.block < w.heap.size := fun a n c hv => by
  subst hv
  have h1 : Cell.ok P w r b0 t (.slice (some a) n c) := by
    unfold Cell.okWide at h
    rw [ht] at h
    exact h
  unfold Cell.ok at h1
  rw [ht] at h1
  obtain ⟨_, _, _, hs, row, cells, hsh, _⟩ := h1
  refine ⟨hs, ?_⟩
  unfold World.shape? at hsh
  cases hg : w.heap[a.block]? with
  | none => rw [hg] at hsh; cases hsh
  | some o => exact (Array.getElem?_eq_some_iff.1 hg).1
end Go.Proofs.YtenfajgpdhgknaaGreatDoor
