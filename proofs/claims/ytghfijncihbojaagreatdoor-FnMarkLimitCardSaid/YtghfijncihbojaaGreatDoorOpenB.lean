/-
  An argument that is a row of bytes, as a list. No program in sight.
-/
import Derived.Test.YtghfijncihbojaaGreatDoorMo
import Derived.ChangeSlices
import Derived.OpenShut
set_option linter.unusedSimpArgs false
set_option linter.unusedVariables false
set_option linter.unnecessarySimpa false
namespace Go.Proofs.YtghfijncihbojaaGreatDoor
open Go Go.RowKit Go.ChangeShapes Go.WideShapes Go.ChangeAt

theorem openB {H : Type} {enc : TypeId × Value → H} {P : Program} {w : World} {base : Nat} {sp : Nat → Bool} {hd : Bool} {t e fuel : Nat} {v : Value} {x : DataW H × List MemPlace} (ht : P.underlying t = some (.slice e)) (he : P.underlying e = some (.int .u8)) (ce : P.cellsOf e = 1)
    (hsp : ∀ a n c, v = .slice (some a) n c → a.spot = none ∧ a.block < w.heap.size) (h : DataW.trod enc P w base sp hd fuel t [v] = some x) :
    ∃ a c, ∃ l : Str, v = .slice a l.length c ∧ Sees w (.slice a l.length c) 1 l.length (l.map encB) ∧ l.length ≤ 9223372036854775807 := by
  rcases open_ints ht he ce h with ⟨hv, _⟩ | ⟨a, len, cap, zs, hv, _, hl, hm, hz, _, hcell, hwz⟩
  · simp only [List.cons.injEq, and_true] at hv
    exact ⟨none, 0, [], hv, sees_nil 1, by simp⟩
  · simp only [List.cons.injEq, and_true] at hv
    obtain ⟨hs, hlt⟩ := hsp _ _ _ hv
    obtain ⟨b, o, s⟩ := a
    simp only at hs hlt
    subst hs
    have hle : len ≤ zs.length := by rw [hz]; split <;> omega
    obtain ⟨l, hll, hp⟩ := list_of (p := fun i (c : UInt8) => w.cell? ⟨b, o + i, none⟩ = some (.int .u8 ((c.toNat : Nat) : Int))) (0 : UInt8) len (fun i hi => by
      have h1 := hcell i (by omega)
      have h2 := range_u8 hwz i
      rw [add_lit] at h1
      refine ⟨UInt8.ofNat (zs.getD i 0).toNat, ?_⟩
      rw [List.getD_eq_getElem?_getD] at h1 ⊢
      rw [h1, UInt8.toNat_ofNat_of_lt' (by show _ < 256; omega), Int.toNat_of_nonneg h2.1])
    subst hll
    refine ⟨some ⟨b, o, none⟩, cap, l, hv, ⟨by simp, .inr ⟨b, o, cap, rfl, hl, hm, hlt, fun j u hj => ?_⟩⟩, by unfold maxLen at *; omega⟩
    have hjl : j < l.length := by
      have := (List.getElem?_eq_some_iff.1 hj).1
      simpa using this
    rw [List.getElem?_map, getD_some (d := 0) hjl] at hj
    simp only [Option.map_some, Option.some.injEq] at hj
    rw [← hj]
    exact hp j hjl
theorem cellWide {P : Program} {w : World} {r : Reach} {base : Nat} {t e : TypeId} {v : Value} (ht : P.underlying t = some (.slice e)) (h : Value.okWide P w r base t v) : Cell.okWide P w r base t v := by
  simp only [Value.okWide, ht] at h
  exact h
theorem openBytesG {H : Type} {enc : TypeId × Value → H} {P : Program} {W : World} {base : Nat} {sp : Nat → Bool} {hd : Bool} {b0 : Nat} {r : Reach} {v : Value} {d : DataW H} {ps : List MemPlace} {t e : TypeId} (ht : P.underlying t = some (.slice e)) (he : P.underlying e = some (.int .u8)) (ce : P.cellsOf e = 1)
    (hv : Value.okWide P W r b0 t v) (h : DataW.Trod enc P W base sp hd t v d ps) :
    ∃ a c, ∃ l : Str, v = .slice a l.length c ∧ Sees W (.slice a l.length c) 1 l.length (l.map encB) ∧ l.length ≤ 9223372036854775807 := by
  obtain ⟨a, len, cap, rfl⟩ := okWide_slice ht hv
  have hc := cellWide ht hv
  obtain ⟨fuel, hf⟩ := h
  exact openB ht he ce (spot_of ht hc) hf
theorem cellsB : Tryz.prog.cellsOf 5 = 1 := by kernel_rfl
attribute [local irreducible] Value.okWide DataW.Trod in
theorem open_bytes {H : Type} {enc : TypeId × Value → H} {W : World} {base : Nat} {sp : Nat → Bool} {hd : Bool} {b0 : Nat} {r : Reach} {v : Value} {d : DataW H} {ps : List MemPlace} (hv : Value.okWide Tryz.prog W r b0 22 v) (h : DataW.Trod enc Tryz.prog W base sp hd 22 v d ps) :
    ∃ a c, ∃ l : Str, v = .slice a l.length c ∧ Sees W (.slice a l.length c) 1 l.length (l.map encB) ∧ l.length ≤ 9223372036854775807 :=
  openBytesG (P := Tryz.prog) (H := H) (enc := enc) (W := W) (base := base) (sp := sp) (hd := hd) (b0 := b0) (r := r) (v := v) (d := d) (ps := ps) (t := 22) (e := 5) Tryz.underlying22 Tryz.underlying5 cellsB hv h
end Go.Proofs.YtghfijncihbojaaGreatDoor
