/-
  Texts of the walk, joined: what each one proves stands at its theorems.
-/
import Derived.Test.YtghfijncihbojaaGreatDatX
import Derived.ChangeMaps5
import Derived.ChangeArms
import Derived.ChangeSlices
import Derived.Deep.SlicePairs
import Derived.ProofKit
import Derived.Deep.Slices
import Derived.Deep.DeepHandedRow
import Derived.OpenShut
import Derived.WalkKit
import Derived.Test.YtghfijncihbojaaGreatDatC
set_option linter.unusedSimpArgs false
set_option linter.unusedVariables false
set_option linter.unnecessarySimpa false
namespace Go.Proofs.YtghfijncihbojaaGreat
open Go Go.RowKit Go.ChangeShapes Go.WideShapes Go.ChangeAt
theorem post_belowN {H : Type} {enc : TypeId × Value → H} {P : Program} {f : Func} {s : ChangeSpec} {apart fresh handsOn again : Bool} {W W' : World} {args : Array Value} {v : Value} {ds gs : List (DataW H)} {before pa pv : List MemPlace}
    (hW : DataW.Whole enc P f.params.toList s.vars apart W args.toList ds gs before)
    (hres : ∀ (b : Nat) (sp : Nat → Bool) (hd : Bool), DataW.TrodAll enc P W' b sp hd f.resultTypes.toList (v.resultList f.resultTypes.size) (s.fn H (ds ++ gs)).results [])
    (hargs : ∀ sp : Nat → Bool, (∀ p ∈ before, sp p.block = true) → DataW.TrodAll enc P W' 0 sp true f.params.toList args.toList (s.fn H (ds ++ gs)).args pa)
    (hvars : ∀ sp : Nat → Bool, (∀ p ∈ before, sp p.block = true) → DataW.TrodVars enc P W' sp s.vars (s.fn H (ds ++ gs)).vars pv)
    (hps : before = pa ++ pv) (hb : Below W.heap.size W W')
    (hok : ∀ (j : Nat) (t : TypeId) (r : Value), f.resultTypes[j]? = some t → (v.resultList f.resultTypes.size)[j]? = some r → Value.okWide P W' .any 0 t r) :
    s.post enc P f apart fresh handsOn again W args v W' := by
  have hold : ∀ p ∈ before, (fun b => decide (b < W.heap.size)) p.block = true := fun p hp => by simpa using hW.lt p hp
  have hlt := hW.lt
  refine ⟨ds, gs, before, [], pa, pv, hW, hres _ _ _, hargs _ hold, hvars _ hold, hb.frame _, fun _ => ?_⟩
  obtain ⟨_, _, _, _, _, hz, hn⟩ := hW
  refine ⟨hok, _, _, ([] ++ pa) ++ pv, ⟨[] ++ pa, pv, trodAll_append (hargs _ (fun _ _ => rfl)) (hres _ _ _), hvars _ (fun _ _ => rfl), rfl, ?_, ?_⟩, ?_⟩
  · intro b off hp
    have hp' : MemPlace.cell b off ∈ before := by rw [hps]; simpa using hp
    rw [hb.frozen (hlt _ hp')]
    exact hz b off hp'
  · intro ha
    have := hn ha
    rw [hps] at this
    simpa using this
  · intro p hp _
    rw [hps]
    simpa using hp
theorem laid_outN : laidOutB Tryz.prog = true := by kernel_rfl
theorem own_godebugN : ownKnob Tryz.prog.godebug = none := by kernel_rfl
theorem room_ofN {W : World} (h : W.ShapedOpen Tryz.prog) : GB ≤ W.heap.size := by
  have hg : Tryz.prog.globals.size = GB := by kernel_rfl
  by_cases h0 : GB = 0
  · omega
  · have hr : (if GB = 0 then true else (((begin Tryz.prog (fun _ _ => 0) default).world.heap[GB - 1]?).bind Obj.row?).isSome) = true := by kernel_rfl
    rw [if_neg h0] at hr
    cases hq : ((begin Tryz.prog (fun _ _ => 0) default).world.heap[GB - 1]?).bind Obj.row? with
    | none => rw [hq] at hr; cases hr
    | some x =>
      obtain ⟨zero, t⟩ := x
      obtain ⟨cs, hc, _⟩ := h.1 (GB - 1) zero t (by rw [hg]; omega) hq
      have := (Array.getElem?_eq_some_iff.1 hc).1
      omega
attribute [local irreducible] DataW.trod
end Go.Proofs.YtghfijncihbojaaGreat

set_option linter.unusedSimpArgs false
set_option linter.unusedVariables false
set_option linter.unnecessarySimpa false
namespace Go.Proofs.YtghfijncihbojaaGreat
open Go Go.RowKit Go.ChangeShapes Go.WideShapes Go.ChangeAt

theorem list_of {α : Type} (d : α) {p : Nat → α → Prop} : ∀ n, (∀ i, i < n → ∃ s, p i s) → ∃ l : List α, l.length = n ∧ ∀ i, i < n → p i (l.getD i d)
  | 0, _ => ⟨[], rfl, fun i hi => absurd hi (Nat.not_lt_zero i)⟩
  | n + 1, h => by
    obtain ⟨l, hl, hp⟩ := list_of d n (fun i hi => h i (by omega))
    obtain ⟨s, hs⟩ := h n (by omega)
    refine ⟨l ++ [s], by simp [hl], fun i hi => ?_⟩
    by_cases hin : i < n
    · have : (l ++ [s]).getD i d = l.getD i d := by
        rw [List.getD_eq_getElem?_getD, List.getD_eq_getElem?_getD, List.getElem?_append_left (by omega)]
      rw [this]; exact hp i hin
    · have hi' : i = l.length := by omega
      have : (l ++ [s]).getD i d = s := by subst hi'; simp
      rw [this]
      have : i = n := by omega
      subst this
      exact hs


/-- What is known of the addresses of slices that come in. -/
theorem spot_of {P : Program} {w : World} {t e : TypeId} {v : Value} {b0 : Nat} {r : Reach} (ht : P.underlying t = some (.slice e)) (h : Cell.okWide P w r b0 t v) : ∀ a n c, v = .slice (some a) n c → a.spot = none ∧ a.block < w.heap.size := fun a n c hv => by
  subst hv
  have h1 : Cell.ok P w r b0 t (.slice (some a) n c) := by
    unfold Cell.okWide at h
    rw [ht] at h
    exact h
  unfold Cell.ok at h1
  rw [ht] at h1
  obtain ⟨_, _, _, hs, row, cells, hsh, _⟩ := h1
  refine ⟨hs, ?_⟩
  unfold World.shape? at hsh
  cases hg : w.heap[a.block]? with
  | none => rw [hg] at hsh; cases hsh
  | some o => exact (Array.getElem?_eq_some_iff.1 hg).1
end Go.Proofs.YtghfijncihbojaaGreat

set_option linter.unusedSimpArgs false
set_option linter.unusedVariables false
set_option linter.unnecessarySimpa false
namespace Go.Proofs.YtghfijncihbojaaGreat
open Go Go.RowKit Go.ChangeShapes Go.WideShapes Go.ChangeAt

theorem openB {H : Type} {enc : TypeId × Value → H} {P : Program} {w : World} {base : Nat} {sp : Nat → Bool} {hd : Bool} {t e fuel : Nat} {v : Value} {x : DataW H × List MemPlace} (ht : P.underlying t = some (.slice e)) (he : P.underlying e = some (.int .u8)) (ce : P.cellsOf e = 1)
    (hsp : ∀ a n c, v = .slice (some a) n c → a.spot = none ∧ a.block < w.heap.size) (h : DataW.trod enc P w base sp hd fuel t [v] = some x) :
    ∃ a c, ∃ l : Str, v = .slice a l.length c ∧ Sees w (.slice a l.length c) 1 l.length (l.map encB) ∧ l.length ≤ 9223372036854775807 := by
  rcases open_ints ht he ce h with ⟨hv, _⟩ | ⟨a, len, cap, zs, hv, _, hl, hm, hz, _, hcell, hwz⟩
  · simp only [List.cons.injEq, and_true] at hv
    exact ⟨none, 0, [], hv, sees_nil 1, by simp⟩
  · simp only [List.cons.injEq, and_true] at hv
    obtain ⟨hs, hlt⟩ := hsp _ _ _ hv
    obtain ⟨b, o, s⟩ := a
    simp only at hs hlt
    subst hs
    have hle : len ≤ zs.length := by rw [hz]; split <;> omega
    obtain ⟨l, hll, hp⟩ := list_of (p := fun i (c : UInt8) => w.cell? ⟨b, o + i, none⟩ = some (.int .u8 ((c.toNat : Nat) : Int))) (0 : UInt8) len (fun i hi => by
      have h1 := hcell i (by omega)
      have h2 := range_u8 hwz i
      rw [add_lit] at h1
      refine ⟨UInt8.ofNat (zs.getD i 0).toNat, ?_⟩
      rw [List.getD_eq_getElem?_getD] at h1 ⊢
      rw [h1, UInt8.toNat_ofNat_of_lt' (by show _ < 256; omega), Int.toNat_of_nonneg h2.1])
    subst hll
    refine ⟨some ⟨b, o, none⟩, cap, l, hv, ⟨by simp, .inr ⟨b, o, cap, rfl, hl, hm, hlt, fun j u hj => ?_⟩⟩, by unfold maxLen at *; omega⟩
    have hjl : j < l.length := by
      have := (List.getElem?_eq_some_iff.1 hj).1
      simpa using this
    rw [List.getElem?_map, getD_some (d := 0) hjl] at hj
    simp only [Option.map_some, Option.some.injEq] at hj
    rw [← hj]
    exact hp j hjl
theorem cellWide {P : Program} {w : World} {r : Reach} {base : Nat} {t e : TypeId} {v : Value} (ht : P.underlying t = some (.slice e)) (h : Value.okWide P w r base t v) : Cell.okWide P w r base t v := by
  simp only [Value.okWide, ht] at h
  exact h
theorem openBytesG {H : Type} {enc : TypeId × Value → H} {P : Program} {W : World} {base : Nat} {sp : Nat → Bool} {hd : Bool} {b0 : Nat} {r : Reach} {v : Value} {d : DataW H} {ps : List MemPlace} {t e : TypeId} (ht : P.underlying t = some (.slice e)) (he : P.underlying e = some (.int .u8)) (ce : P.cellsOf e = 1)
    (hv : Value.okWide P W r b0 t v) (h : DataW.Trod enc P W base sp hd t v d ps) :
    ∃ a c, ∃ l : Str, v = .slice a l.length c ∧ Sees W (.slice a l.length c) 1 l.length (l.map encB) ∧ l.length ≤ 9223372036854775807 := by
  obtain ⟨a, len, cap, rfl⟩ := okWide_slice ht hv
  have hc := cellWide ht hv
  obtain ⟨fuel, hf⟩ := h
  exact openB ht he ce (spot_of ht hc) hf
theorem cellsB : Tryz.prog.cellsOf 5 = 1 := by kernel_rfl
attribute [local irreducible] Value.okWide DataW.Trod in
theorem open_bytes {H : Type} {enc : TypeId × Value → H} {W : World} {base : Nat} {sp : Nat → Bool} {hd : Bool} {b0 : Nat} {r : Reach} {v : Value} {d : DataW H} {ps : List MemPlace} (hv : Value.okWide Tryz.prog W r b0 22 v) (h : DataW.Trod enc Tryz.prog W base sp hd 22 v d ps) :
    ∃ a c, ∃ l : Str, v = .slice a l.length c ∧ Sees W (.slice a l.length c) 1 l.length (l.map encB) ∧ l.length ≤ 9223372036854775807 :=
  openBytesG (P := Tryz.prog) (H := H) (enc := enc) (W := W) (base := base) (sp := sp) (hd := hd) (b0 := b0) (r := r) (v := v) (d := d) (ps := ps) (t := 22) (e := 5) Tryz.underlying22 Tryz.underlying5 cellsB hv h
end Go.Proofs.YtghfijncihbojaaGreat
