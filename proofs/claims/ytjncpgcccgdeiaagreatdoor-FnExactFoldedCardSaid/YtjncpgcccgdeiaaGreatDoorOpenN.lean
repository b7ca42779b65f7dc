/-
  Arguments that come in, whose fields are slices of structs: as located data. What stands behind a call that turns nothing old.
-/
import Derived.Test.YtjncpgcccgdeiaaGreatDoorDatM
import Derived.ChangeMaps5
import Derived.ChangeArms
import Derived.ChangeSlices
import Derived.Deep.SlicePairs
import Derived.ProofKit
import Derived.Deep.Slices
import Derived.Deep.DeepHandedRow
import Derived.OpenShut
import Derived.WalkKit
set_option linter.unusedSimpArgs false
set_option linter.unusedVariables false
set_option linter.unnecessarySimpa false
namespace Go.Proofs.YtjncpgcccgdeiaaGreatDoor
open Go Go.RowKit Go.ChangeShapes Go.WideShapes Go.ChangeAt
theorem list_ofN {α : Type} (d : α) {p : Nat → α → Prop} : ∀ n, (∀ i, i < n → ∃ s, p i s) → ∃ l : List α, l.length = n ∧ ∀ i, i < n → p i (l.getD i d)
  | 0, _ => ⟨[], rfl, fun i hi => absurd hi (Nat.not_lt_zero i)⟩
  | n + 1, h => by
    obtain ⟨l, hl, hp⟩ := list_ofN d n (fun i hi => h i (by omega))
    obtain ⟨s, hs⟩ := h n (by omega)
    refine ⟨l ++ [s], by simp [hl], fun i hi => ?_⟩
    by_cases hin : i < n
    · have : (l ++ [s]).getD i d = l.getD i d := by
        rw [List.getD_eq_getElem?_getD, List.getD_eq_getElem?_getD, List.getElem?_append_left (by omega)]
      rw [this]; exact hp i hin
    · have hi' : i = l.length := by omega
      have : (l ++ [s]).getD i d = s := by subst hi'; simp
      rw [this]
      have : i = n := by omega
      subst this
      exact hs
section
variable {H : Type} {enc : TypeId × Value → H} {P : Program} {w : World} {base : Nat} {sp : Nat → Bool} {hd : Bool} {t e fuel : Nat} {cs : List Value} {x : DataW H × List MemPlace}
theorem op_int (ht : P.underlying t = some (.int .i64)) (h : DataW.trod enc P w base sp hd fuel t cs = some x) : ∃ n : Int, cs = [.int .i64 n] := by
  obtain ⟨n, rfl, _, _⟩ := DataW.trod_int ht h
  exact ⟨n, rfl⟩
theorem op_bool (ht : P.underlying t = some .bool) (h : DataW.trod enc P w base sp hd fuel t cs = some x) : ∃ b : Bool, cs = [.bool b] := by
  obtain ⟨b, rfl, _⟩ := DataW.trod_bool ht h
  exact ⟨b, rfl⟩
theorem op_str (ht : P.underlying t = some .string) (h : DataW.trod enc P w base sp hd fuel t cs = some x) : ∃ s : Str, cs = [str s] ∧ s.length ≤ 9223372036854775807 := by
  obtain ⟨s, rfl, _, hs⟩ := DataW.trod_string ht h
  refine ⟨s.data.toList, by simp [str], ?_⟩
  have : s.size = s.data.toList.length := Array.length_toList.symm
  unfold maxLen at hs
  omega
theorem op_fields {fs : Array Field} {k : Nat} (ht : P.underlying t = some (.struct fs)) (hk : P.cellsOf t = k) (h : DataW.trod enc P w base sp hd fuel t cs = some x) :
    cs.length = k ∧ ∃ n, ∀ (i : Nat) (f : Field), fs[i]? = some f → ∃ y, DataW.trod enc P w base sp hd n f.type ((cs.drop f.offset).take (P.cellsOf f.type)) = some y := by
  obtain ⟨xs, n, _, _, hl, hlen, hf⟩ := DataW.trod_struct ht h
  refine ⟨hl.trans hk, n, fun i f hi => ?_⟩
  have hlt : i < xs.length := by
    have := (Array.getElem?_eq_some_iff.1 hi).1
    omega
  exact ⟨xs[i], by rw [hf i f hi, List.getElem?_eq_getElem hlt]⟩
theorem op_field {fs : Array Field} {n : Nat} (hf : ∀ (i : Nat) (f : Field), fs[i]? = some f → ∃ y, DataW.trod enc P w base sp hd n f.type ((cs.drop f.offset).take (P.cellsOf f.type)) = some y)
    (i : Nat) {f : Field} {q o k : Nat} (hi : fs[i]? = some f) (hq : f.type = q) (ho : f.offset = o) (hk : P.cellsOf q = k) (cs' : List Value) (hc : (cs.drop o).take k = cs') : ∃ y, DataW.trod enc P w base sp hd n q cs' = some y := by
  subst hq ho hk hc
  exact hf i f hi
theorem op_list {α : Type} {en : α → List Value} {k : Nat} (hk : ∀ z, (en z).length = k) (k0 : 0 < k) {ok : α → Prop} (d : α) {v : Value} (ht : P.underlying t = some (.slice e)) (ce : P.cellsOf e = k)
    (hE : ∀ n cs y, DataW.trod enc P w base (fun _ => true) hd n e cs = some y → ∃ z, cs = en z ∧ ok z) (h : DataW.trod enc P w base (fun _ => true) hd fuel t [v] = some x) :
    ∃ a c, ∃ l : List α, v = .slice a l.length c ∧ SeesE w (.slice a l.length c) k l.length (l.flatMap en) ∧ l.length ≤ 9223372036854775807 ∧ ∀ z ∈ l, ok z := by
  rcases Deep.open_slice ht h with ⟨hv, _⟩ | ⟨a, len, cap, m, n, D, Pl, hv, hb, hl, hm, hmm, _, hc⟩
  · simp only [List.cons.injEq, and_true] at hv
    exact ⟨none, 0, [], hv, .inl ⟨by simp, .inl ⟨rfl, rfl⟩⟩, by simp, by simp⟩
  · simp only [List.cons.injEq, and_true] at hv
    simp only [if_true] at hmm
    subst hmm
    by_cases h0 : m = 0
    · subst h0
      have hl0 : len = 0 := by omega
      subst hl0
      exact ⟨some a, 0, [], hv, .inr ⟨⟨_, rfl⟩, rfl, rfl⟩, by simp, by simp⟩
    · rw [ce] at hc
      have hsp : a.spot = none ∧ a.block < w.heap.size := by
        obtain ⟨cs', h1, h2⟩ := hc 0 (by omega)
        unfold World.cells? at h1
        split at h1
        · have hq := mapM_some_get h1 0 0 (by simp [k0])
          have := congrArg Option.isSome hq
          cases hz : w.cell? ((a.add (0 * k)).add 0) with
          | none =>
            rw [hz] at hq
            have hlen := mapM_some_length h1
            have : (0 : Nat) < cs'.length := by rw [hlen]; simpa using k0
            rw [List.getElem?_eq_getElem this] at hq
            cases hq
          | some u =>
            have ea : (a.add (0 * k)).add 0 = a := by simp [Addr.add]
            rw [ea] at hz
            exact ⟨World.cell?_spot hz, World.block_lt_of_cell? (w := w) (a := a) hz⟩
        · cases h1
      obtain ⟨b, o, s⟩ := a
      obtain ⟨hs, hlt⟩ := hsp
      simp only at hs hlt
      subst hs
      obtain ⟨l, hll, hp⟩ := list_ofN (p := fun i z => (∀ q u, (en z)[q]? = some u → w.cell? ⟨b, o + (i * k + q), none⟩ = some u) ∧ ok z) d len (fun i hi => by
        obtain ⟨cs', h1, h2⟩ := hc i (by omega)
        obtain ⟨z, rfl, hz⟩ := hE _ _ _ h2
        refine ⟨z, fun q u hq => ?_, hz⟩
        unfold World.cells? at h1
        split at h1
        · have hqk : q < k := by
            have := (List.getElem?_eq_some_iff.1 hq).1
            rwa [hk] at this
          have h3 := mapM_some_get h1 q q (by simp [hqk])
          rw [hq, add_lit, add_lit] at h3
          rw [← h3, Nat.add_assoc]
        · cases h1)
      subst hll
      refine ⟨some ⟨b, o, none⟩, m, l, hv, .inl ⟨flat_length hk l, .inr ⟨b, o, m, rfl, hl, hm, hlt, fun j u hj => ?_⟩⟩, by unfold maxLen at *; omega, fun z hz => ?_⟩
      · have hjl : j < l.length * k := by
          have := (List.getElem?_eq_some_iff.1 hj).1
          rwa [flat_length hk] at this
        have hik : j / k < l.length := (Nat.div_lt_iff_lt_mul k0).2 hjl
        have hqk : j % k < k := Nat.mod_lt _ k0
        have hdj : j / k * k + j % k = j := by rw [Nat.mul_comm]; exact Nat.div_add_mod j k
        have h4 := flat_at hk d l (j / k) (j % k) hik hqk
        rw [hdj, hj] at h4
        have := (hp (j / k) hik).1 (j % k) u h4.symm
        rwa [hdj] at this
      · obtain ⟨i, hi, rfl⟩ := List.mem_iff_getElem.1 hz
        have := (hp i hi).2
        rwa [List.getD_eq_getElem?_getD, List.getElem?_eq_getElem hi] at this
end
theorem all_getD {α : Type} {ok : α → Prop} {l : List α} (d : α) (h : ∀ z ∈ l, ok z) : ∀ j, j < l.length → ok (l.getD j d) := fun j hj => h _ (getD_mem hj)
theorem mem_dat {α β : Type} {f : α → β} {ok : β → Prop} {l : List α} (h : ∀ z ∈ l, ok (f z)) : ∀ y ∈ l.map f, ok y := fun y hy => by
  obtain ⟨z, hz, rfl⟩ := List.mem_map.1 hy
  exact h z hz
theorem seesAE_flat {w : World} {α : Type} {f : α → List RD} {l : List α} (h : ∀ z ∈ l, SeesAE w (f z)) : SeesAE w (l.flatMap f) := fun r hr => by
  obtain ⟨z, hz, hr⟩ := List.mem_flatMap.1 hr
  exact h z hz r hr
theorem len2 {l : List Value} (h : l.length = 2) : ∃ x0 x1, l = [x0, x1] := by
  match l, h with
  | [x0, x1], _ => exact ⟨x0, x1, rfl⟩
theorem len3 {l : List Value} (h : l.length = 3) : ∃ x0 x1 x2, l = [x0, x1, x2] := by
  match l, h with
  | [x0, x1, x2], _ => exact ⟨x0, x1, x2, rfl⟩
theorem okAgg {P : Program} {w : World} {r : Reach} {b t : Nat} {v : Value} {fs : Array Field} (ht : P.underlying t = some (.struct fs)) (h : Value.okWide P w r b t v) : ∃ cs : Array Value, v = .agg cs := by
  unfold Value.okWide at h
  rw [ht] at h
  obtain ⟨cs, rfl, _⟩ := h
  exact ⟨cs, rfl⟩
theorem trod_ex {H : Type} {enc : TypeId × Value → H} {P : Program} {W : World} {base : Nat} {sp : Nat → Bool} {hd : Bool} {t : TypeId} {v : Value} {d : DataW H} {ps : List MemPlace} (h : DataW.Trod enc P W base sp hd t v d ps) : ∃ fuel, DataW.trod enc P W base sp hd fuel t v.cells.toList = some (d, ps) := h
theorem co160 : Tryz.prog.cellsOf 160 = 2 := by kernel_rfl
theorem co9 : Tryz.prog.cellsOf 9 = 1 := by kernel_rfl
theorem co118 : Tryz.prog.cellsOf 118 = 3 := by kernel_rfl
theorem co3 : Tryz.prog.cellsOf 3 = 1 := by kernel_rfl
theorem co116 : Tryz.prog.cellsOf 116 = 1 := by kernel_rfl
theorem co4 : Tryz.prog.cellsOf 4 = 1 := by kernel_rfl
theorem co26 : Tryz.prog.cellsOf 26 = 3 := by kernel_rfl
theorem co22 : Tryz.prog.cellsOf 22 = 1 := by kernel_rfl
theorem co24 : Tryz.prog.cellsOf 24 = 2 := by kernel_rfl
attribute [local irreducible] DataW.trod
section
variable {H : Type} {enc : TypeId × Value → H} {W : World} {base : Nat} {hd : Bool} {n : Nat} {cs : List Value} {y : DataW H × List MemPlace}
theorem op_C (h : DataW.trod enc Tryz.prog W base (fun _ => true) hd n 160 cs = some y) : ∃ z : Cell, cs = encC z ∧ z.1.length ≤ 9223372036854775807 ∧ z.2.length ≤ 9223372036854775807 := by
  obtain ⟨hl, n', hf⟩ := op_fields Tryz.underlying160 co160 h
  obtain ⟨x0, x1, rfl⟩ := len2 hl
  obtain ⟨_, j0⟩ := op_field hf 0 rfl rfl rfl co9 [x0] rfl
  obtain ⟨_, j1⟩ := op_field hf 1 rfl rfl rfl co9 [x1] rfl
  obtain ⟨z0, q0, m0⟩ := op_str Tryz.underlying9 j0
  obtain ⟨z1, q1, m1⟩ := op_str Tryz.underlying9 j1
  simp only [List.cons.injEq, and_true] at q0 q1
  subst q0 q1
  exact ⟨⟨z0, z1⟩, rfl, m0, m1⟩
theorem opL_C {v : Value} (h : DataW.trod enc Tryz.prog W base (fun _ => true) hd n 116 [v] = some y) : ∃ a c, ∃ l : List Cell, v = .slice a l.length c ∧ SeesE W (.slice a l.length c) 2 l.length (l.flatMap encC) ∧ okC l := by
  obtain ⟨a, c, l, hv, hs, hl, ho⟩ := op_list (en := encC) (ok := fun z => z.1.length ≤ 9223372036854775807 ∧ z.2.length ≤ 9223372036854775807) encC_len (by decide) c0 Tryz.underlying116 co160 (fun n cs y h => op_C h) h
  exact ⟨a, c, l, hv, hs, hl, all_getD _ ho⟩
theorem op_O (h : DataW.trod enc Tryz.prog W base (fun _ => true) hd n 118 cs = some y) : ∃ z : OX, cs = encO z ∧ SeesAE W (rdsO z) ∧ z.t.okz := by
  obtain ⟨hl, n', hf⟩ := op_fields Tryz.underlying118 co118 h
  obtain ⟨x0, x1, x2, rfl⟩ := len3 hl
  obtain ⟨_, j0⟩ := op_field hf 0 rfl rfl rfl co3 [x0] rfl
  obtain ⟨_, j1⟩ := op_field hf 1 rfl rfl rfl co116 [x1] rfl
  obtain ⟨_, j2⟩ := op_field hf 2 rfl rfl rfl co4 [x2] rfl
  obtain ⟨z0, q0⟩ := op_int Tryz.underlying3 j0
  obtain ⟨a1, c1, l1, q1, s1, m1⟩ := opL_C j1
  obtain ⟨z2, q2⟩ := op_bool Tryz.underlying4 j2
  simp only [List.cons.injEq, and_true] at q0 q2
  subst q0 q1 q2
  exact ⟨⟨⟨a1, c1⟩, ⟨z0, l1, z2⟩⟩, rfl, SeesAE.cons s1 SeesAE.nil, ⟨m1⟩⟩
theorem opN_O {v : Value} (h : DataW.trod enc Tryz.prog W base (fun _ => true) hd n 22 [v] = some y) : ∃ a c, ∃ l : List OX, v = .slice a l.length c ∧ SeesAE W (rdsOS a c l) ∧ l.length ≤ 9223372036854775807 ∧ ∀ z ∈ l, z.t.okz := by
  obtain ⟨a, c, l, hv, hs, hl, ho⟩ := op_list (en := encO) (ok := fun z => SeesAE W (rdsO z) ∧ SD.okz (OX.t z)) encO_len (by decide) o0 Tryz.underlying22 co118 (fun n cs y h => op_O h) h
  exact ⟨a, c, l, hv, SeesAE.cons hs (seesAE_flat fun z hz => (ho z hz).1), hl, fun z hz => (ho z hz).2⟩
theorem op_D (h : DataW.trod enc Tryz.prog W base (fun _ => true) hd n 26 cs = some y) : ∃ z : DX, cs = [.slice z.a z.l.length z.c, str z.jt, .int .i64 z.js] ∧ SeesAE W (rdsD z) ∧ z.dat.okz := by
  obtain ⟨hl, n', hf⟩ := op_fields Tryz.underlying26 co26 h
  obtain ⟨x0, x1, x2, rfl⟩ := len3 hl
  obtain ⟨_, j0⟩ := op_field hf 0 rfl rfl rfl co22 [x0] rfl
  obtain ⟨_, j1⟩ := op_field hf 1 rfl rfl rfl co24 [x1, x2] rfl
  obtain ⟨a, c, l, q0, s0, m0, m1⟩ := opN_O j0
  obtain ⟨_, n2, hg⟩ := op_fields Tryz.underlying24 co24 j1
  obtain ⟨_, g0⟩ := op_field hg 0 rfl rfl rfl co9 [x1] rfl
  obtain ⟨_, g1⟩ := op_field hg 1 rfl rfl rfl co3 [x2] rfl
  obtain ⟨z1, q1, m2⟩ := op_str Tryz.underlying9 g0
  obtain ⟨z2, q2⟩ := op_int Tryz.underlying3 g1
  simp only [List.cons.injEq, and_true] at q1 q2
  subst q0 q1 q2
  exact ⟨⟨a, c, l, z1, z2⟩, rfl, s0, ⟨by simpa only [DX.dat, List.length_map] using m0, mem_dat m1, m2⟩⟩
end
section
variable {H : Type} {enc : TypeId × Value → H} {W : World} {base : Nat} {hd : Bool} {b0 : Nat} {r : Reach} {v : Value} {d : DataW H} {ps : List MemPlace}
attribute [local irreducible] Value.okWide DataW.Trod in
theorem open_D (hv : Value.okWide Tryz.prog W r b0 26 v) (h : DataW.Trod enc Tryz.prog W base (fun _ => true) hd 26 v d ps) : ∃ z : DX, v = .agg #[.slice z.a z.l.length z.c, str z.jt, .int .i64 z.js] ∧ SeesAE W (rdsD z) ∧ z.dat.okz := by
  obtain ⟨cs, rfl⟩ := okAgg Tryz.underlying26 hv
  obtain ⟨fuel, hf⟩ := trod_ex h
  obtain ⟨z, hz, h1, h2⟩ := op_D hf
  exact ⟨z, congrArg Value.agg (Array.ext' hz), h1, h2⟩
end
end Go.Proofs.YtjncpgcccgdeiaaGreatDoor
