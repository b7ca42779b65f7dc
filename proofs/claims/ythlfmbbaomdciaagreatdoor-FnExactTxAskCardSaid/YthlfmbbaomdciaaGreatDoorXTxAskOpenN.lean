/-
Texts of the walk, joined: what each one proves stands at its theorems.
-/
import Derived.Test.YthlfmbbaomdciaaGreatDoorXTxAskS28HARN
import Derived.ChangeMaps5
import Derived.ChangeArms
import Derived.ChangeSlices
set_option linter.unusedSimpArgs false
set_option linter.unusedVariables false
set_option linter.unnecessarySimpa false
namespace Go.Proofs.YthlfmbbaomdciaaGreatDoor
open Go Go.RowKit Go.ChangeShapes Go.WideShapes Go.ChangeAt
theorem list_ofN {α : Type} (d : α) {p : Nat → α → Prop} : ∀ n, (∀ i, i < n → ∃ s, p i s) → ∃ l : List α, l.length = n ∧ ∀ i, i < n → p i (l.getD i d)
 | 0, _ => ⟨[], rfl, fun i hi => absurd hi (Nat.not_lt_zero i)⟩
 | n + 1, h => by
   obtain ⟨l, hl, hp⟩ := list_ofN d n (fun i hi => h i (by omega))
   obtain ⟨s, hs⟩ := h n (by omega)
   refine ⟨l ++ [s], by simp [hl], fun i hi => ?_⟩
   by_cases hin : i < n
   · have : (l ++ [s]).getD i d = l.getD i d := by
       rw [List.getD_eq_getElem?_getD, List.getD_eq_getElem?_getD, List.getElem?_append_left (by omega)]
     rw [this]; exact hp i hin
   · have hi' : i = l.length := by omega
     have : (l ++ [s]).getD i d = s := by subst hi'; simp
     rw [this]
     have : i = n := by omega
     subst this
     exact hs
section
variable {H : Type} {enc : TypeId × Value → H} {P : Program} {w : World} {base : Nat} {sp : Nat → Bool} {hd : Bool} {t e fuel : Nat} {cs : List Value} {x : DataW H × List MemPlace}
theorem op_int (ht : P.underlying t = some (.int .i64)) (h : DataW.trod enc P w base sp hd fuel t cs = some x) : ∃ n : Int, cs = [.int .i64 n] := by
 obtain ⟨n, rfl, _, _⟩ := DataW.trod_int ht h
 exact ⟨n, rfl⟩
theorem op_intB (ht : P.underlying t = some (.int .i64)) (h : DataW.trod enc P w base sp hd fuel t cs = some x) : ∃ n : Int, cs = [.int .i64 n] ∧ -9223372036854775808 ≤ n ∧ n ≤ 9223372036854775807 := by
 obtain ⟨n, rfl, _, hw⟩ := DataW.trod_int ht h
 exact ⟨n, rfl, bounds_i64 hw⟩
theorem op_str (ht : P.underlying t = some .string) (h : DataW.trod enc P w base sp hd fuel t cs = some x) : ∃ s : Str, cs = [str s] ∧ s.length ≤ 9223372036854775807 := by
 obtain ⟨s, rfl, _, hs⟩ := DataW.trod_string ht h
 refine ⟨s.data.toList, by simp [str], ?_⟩
 have : s.size = s.data.toList.length := Array.length_toList.symm
 unfold maxLen at hs
 omega
theorem op_fields {fs : Array Field} {k : Nat} (ht : P.underlying t = some (.struct fs)) (hk : P.cellsOf t = k) (h : DataW.trod enc P w base sp hd fuel t cs = some x) :
   cs.length = k ∧ ∃ n, ∀ (i : Nat) (f : Field), fs[i]? = some f → ∃ y, DataW.trod enc P w base sp hd n f.type ((cs.drop f.offset).take (P.cellsOf f.type)) = some y := by
 obtain ⟨xs, n, _, _, hl, hlen, hf⟩ := DataW.trod_struct ht h
 refine ⟨hl.trans hk, n, fun i f hi => ?_⟩
 have hlt : i < xs.length := by
   have := (Array.getElem?_eq_some_iff.1 hi).1
   omega
 exact ⟨xs[i], by rw [hf i f hi, List.getElem?_eq_getElem hlt]⟩
theorem op_field {fs : Array Field} {n : Nat} (hf : ∀ (i : Nat) (f : Field), fs[i]? = some f → ∃ y, DataW.trod enc P w base sp hd n f.type ((cs.drop f.offset).take (P.cellsOf f.type)) = some y)
   (i : Nat) {f : Field} {q o k : Nat} (hi : fs[i]? = some f) (hq : f.type = q) (ho : f.offset = o) (hk : P.cellsOf q = k) (cs' : List Value) (hc : (cs.drop o).take k = cs') : ∃ y, DataW.trod enc P w base sp hd n q cs' = some y := by
 subst hq ho hk hc
 exact hf i f hi
theorem op_list {α : Type} {en : α → List Value} {k : Nat} (hk : ∀ z, (en z).length = k) (k0 : 0 < k) {ok : α → Prop} (d : α) {v : Value} (ht : P.underlying t = some (.slice e)) (ce : P.cellsOf e = k)
   (hE : ∀ n cs y, DataW.trod enc P w base (fun _ => true) hd n e cs = some y → ∃ z, cs = en z ∧ ok z) (h : DataW.trod enc P w base (fun _ => true) hd fuel t [v] = some x) :
   ∃ a c, ∃ l : List α, v = .slice a l.length c ∧ SeesE w (.slice a l.length c) k l.length (l.flatMap en) ∧ l.length ≤ 9223372036854775807 ∧ ∀ z ∈ l, ok z := by
 rcases Deep.open_slice ht h with ⟨hv, _⟩ | ⟨a, len, cap, m, n, D, Pl, hv, hb, hl, hm, hmm, _, hc⟩
 · simp only [List.cons.injEq, and_true] at hv
   exact ⟨none, 0, [], hv, .inl ⟨by simp, .inl ⟨rfl, rfl⟩⟩, by simp, by simp⟩
 · simp only [List.cons.injEq, and_true] at hv
   simp only [if_true] at hmm
   subst hmm
   by_cases h0 : m = 0
   · subst h0
     have hl0 : len = 0 := by omega
     subst hl0
     exact ⟨some a, 0, [], hv, .inr ⟨⟨_, rfl⟩, rfl, rfl⟩, by simp, by simp⟩
   · rw [ce] at hc
     have hsp : a.spot = none ∧ a.block < w.heap.size := by
       obtain ⟨cs', h1, h2⟩ := hc 0 (by omega)
       unfold World.cells? at h1
       split at h1
       · have hq := mapM_some_get h1 0 0 (by simp [k0])
         have := congrArg Option.isSome hq
         cases hz : w.cell? ((a.add (0 * k)).add 0) with
         | none =>
           rw [hz] at hq
           have hlen := mapM_some_length h1
           have : (0 : Nat) < cs'.length := by rw [hlen]; simpa using k0
           rw [List.getElem?_eq_getElem this] at hq
           cases hq
         | some u =>
           have ea : (a.add (0 * k)).add 0 = a := by simp [Addr.add]
           rw [ea] at hz
           exact ⟨World.cell?_spot hz, World.block_lt_of_cell? (w := w) (a := a) hz⟩
       · cases h1
     obtain ⟨b, o, s⟩ := a
     obtain ⟨hs, hlt⟩ := hsp
     simp only at hs hlt
     subst hs
     obtain ⟨l, hll, hp⟩ := list_ofN (p := fun i z => (∀ q u, (en z)[q]? = some u → w.cell? ⟨b, o + (i * k + q), none⟩ = some u) ∧ ok z) d len (fun i hi => by
       obtain ⟨cs', h1, h2⟩ := hc i (by omega)
       obtain ⟨z, rfl, hz⟩ := hE _ _ _ h2
       refine ⟨z, fun q u hq => ?_, hz⟩
       unfold World.cells? at h1
       split at h1
       · have hqk : q < k := by
           have := (List.getElem?_eq_some_iff.1 hq).1
           rwa [hk] at this
         have h3 := mapM_some_get h1 q q (by simp [hqk])
         rw [hq, add_lit, add_lit] at h3
         rw [← h3, Nat.add_assoc]
       · cases h1)
     subst hll
     refine ⟨some ⟨b, o, none⟩, m, l, hv, .inl ⟨flat_length hk l, .inr ⟨b, o, m, rfl, hl, hm, hlt, fun j u hj => ?_⟩⟩, by unfold maxLen at *; omega, fun z hz => ?_⟩
     · have hjl : j < l.length * k := by
         have := (List.getElem?_eq_some_iff.1 hj).1
         rwa [flat_length hk] at this
       have hik : j / k < l.length := (Nat.div_lt_iff_lt_mul k0).2 hjl
       have hqk : j % k < k := Nat.mod_lt _ k0
       have hdj : j / k * k + j % k = j := by rw [Nat.mul_comm]; exact Nat.div_add_mod j k
       have h4 := flat_at hk d l (j / k) (j % k) hik hqk
       rw [hdj, hj] at h4
       have := (hp (j / k) hik).1 (j % k) u h4.symm
       rwa [hdj] at this
     · obtain ⟨i, hi, rfl⟩ := List.mem_iff_getElem.1 hz
       have := (hp i hi).2
       rwa [List.getD_eq_getElem?_getD, List.getElem?_eq_getElem hi] at this
end
theorem SeesE.flatS {w : World} {a : Option Addr} {c : Nat} {l : List Str} (h : SeesE w (.slice a l.length c) 1 l.length (l.flatMap fun s => [str s])) : SeesE w (.slice a l.length c) 1 l.length (l.map str) := by
 rwa [← mapS_flat] at h
theorem SeesE.flatI {w : World} {a : Option Addr} {c : Nat} {l : List Int} (h : SeesE w (.slice a l.length c) 1 l.length (l.flatMap fun s => [Value.int .i64 s])) : SeesE w (.slice a l.length c) 1 l.length (l.map (Value.int .i64)) := by
 have e : ∀ l : List Int, l.map (Value.int .i64) = l.flatMap fun s => [Value.int .i64 s] := fun l => by
   induction l with
   | nil => rfl
   | cons x l ih => simp [ih]
 rwa [← e] at h
theorem all_getD {α : Type} {ok : α → Prop} {l : List α} (d : α) (h : ∀ z ∈ l, ok z) : ∀ j, j < l.length → ok (l.getD j d) := fun j hj => h _ (getD_mem hj)
theorem len2 {l : List Value} (h : l.length = 2) : ∃ x0 x1, l = [x0, x1] := by
 match l, h with
 | [x0, x1], _ => exact ⟨x0, x1, rfl⟩
theorem len3 {l : List Value} (h : l.length = 3) : ∃ x0 x1 x2, l = [x0, x1, x2] := by
 match l, h with
 | [x0, x1, x2], _ => exact ⟨x0, x1, x2, rfl⟩
theorem len6 {l : List Value} (h : l.length = 6) : ∃ x0 x1 x2 x3 x4 x5, l = [x0, x1, x2, x3, x4, x5] := by
 match l, h with
 | [x0, x1, x2, x3, x4, x5], _ => exact ⟨x0, x1, x2, x3, x4, x5, rfl⟩
theorem len10 {l : List Value} (h : l.length = 10) : ∃ x0 x1 x2 x3 x4 x5 x6 x7 x8 x9, l = [x0, x1, x2, x3, x4, x5, x6, x7, x8, x9] := by
 match l, h with
 | [x0, x1, x2, x3, x4, x5, x6, x7, x8, x9], _ => exact ⟨x0, x1, x2, x3, x4, x5, x6, x7, x8, x9, rfl⟩
theorem okAgg {P : Program} {w : World} {r : Reach} {b t : Nat} {v : Value} {fs : Array Field} (ht : P.underlying t = some (.struct fs)) (h : Value.okWide P w r b t v) : ∃ cs : Array Value, v = .agg cs := by
 unfold Value.okWide at h
 rw [ht] at h
 obtain ⟨cs, rfl, _⟩ := h
 exact ⟨cs, rfl⟩
theorem trod_ex {H : Type} {enc : TypeId × Value → H} {P : Program} {W : World} {base : Nat} {sp : Nat → Bool} {hd : Bool} {t : TypeId} {v : Value} {d : DataW H} {ps : List MemPlace} (h : DataW.Trod enc P W base sp hd t v d ps) : ∃ fuel, DataW.trod enc P W base sp hd fuel t v.cells.toList = some (d, ps) := h
theorem co115 : Tryz.prog.cellsOf 115 = 6 := by kernel_rfl
theorem co3 : Tryz.prog.cellsOf 3 = 1 := by kernel_rfl
theorem co9 : Tryz.prog.cellsOf 9 = 1 := by kernel_rfl
theorem co246 : Tryz.prog.cellsOf 246 = 3 := by kernel_rfl
theorem co180 : Tryz.prog.cellsOf 180 = 2 := by kernel_rfl
theorem co114 : Tryz.prog.cellsOf 114 = 10 := by kernel_rfl
theorem co110 : Tryz.prog.cellsOf 110 = 1 := by kernel_rfl
theorem co111 : Tryz.prog.cellsOf 111 = 1 := by kernel_rfl
theorem co112 : Tryz.prog.cellsOf 112 = 2 := by kernel_rfl
theorem co33 : Tryz.prog.cellsOf 33 = 1 := by kernel_rfl
theorem co30 : Tryz.prog.cellsOf 30 = 1 := by kernel_rfl
attribute [local irreducible] DataW.trod
section
variable {H : Type} {enc : TypeId × Value → H} {W : World} {base : Nat} {hd : Bool} {n : Nat} {cs : List Value} {y : DataW H × List MemPlace}
theorem op_K (h : DataW.trod enc Tryz.prog W base (fun _ => true) hd n 115 cs = some y) : ∃ z : CL, cs = encK z ∧ z.ok 9223372036854775807 := by
 obtain ⟨hl, n', hf⟩ := op_fields Tryz.underlying115 co115 h
 obtain ⟨x0, x1, x2, x3, x4, x5, rfl⟩ := len6 hl
 obtain ⟨_, j0⟩ := op_field hf 0 rfl rfl rfl co3 [x0] rfl
 obtain ⟨_, j1⟩ := op_field hf 1 rfl rfl rfl co9 [x1] rfl
 obtain ⟨_, j2⟩ := op_field hf 2 rfl rfl rfl co9 [x2] rfl
 obtain ⟨_, j3⟩ := op_field hf 3 rfl rfl rfl co3 [x3] rfl
 obtain ⟨_, j4⟩ := op_field hf 4 rfl rfl rfl co3 [x4] rfl
 obtain ⟨_, j5⟩ := op_field hf 5 rfl rfl rfl co9 [x5] rfl
 obtain ⟨z0, q0, m0⟩ := op_intB Tryz.underlying3 j0
 obtain ⟨z1, q1, m1⟩ := op_str Tryz.underlying9 j1
 obtain ⟨z2, q2, m2⟩ := op_str Tryz.underlying9 j2
 obtain ⟨z3, q3, m3⟩ := op_intB Tryz.underlying3 j3
 obtain ⟨z4, q4, m4⟩ := op_intB Tryz.underlying3 j4
 obtain ⟨z5, q5, m5⟩ := op_str Tryz.underlying9 j5
 simp only [List.cons.injEq, and_true] at q0 q1 q2 q3 q4 q5
 subst q0 q1 q2 q3 q4 q5
 exact ⟨⟨z0, z1, z2, z3, z4, z5⟩, rfl, ⟨m0, m3, m4, m1, m2, m5⟩⟩
theorem op_A (h : DataW.trod enc Tryz.prog W base (fun _ => true) hd n 246 cs = some y) : ∃ z : AN, cs = encA z ∧ z.text.length ≤ 9223372036854775807 := by
 obtain ⟨hl, n', hf⟩ := op_fields Tryz.underlying246 co246 h
 obtain ⟨x0, x1, x2, rfl⟩ := len3 hl
 obtain ⟨_, j0⟩ := op_field hf 0 rfl rfl rfl co3 [x0] rfl
 obtain ⟨_, j1⟩ := op_field hf 1 rfl rfl rfl co3 [x1] rfl
 obtain ⟨_, j2⟩ := op_field hf 2 rfl rfl rfl co9 [x2] rfl
 obtain ⟨z0, q0⟩ := op_int Tryz.underlying3 j0
 obtain ⟨z1, q1⟩ := op_int Tryz.underlying3 j1
 obtain ⟨z2, q2, m2⟩ := op_str Tryz.underlying9 j2
 simp only [List.cons.injEq, and_true] at q0 q1 q2
 subst q0 q1 q2
 exact ⟨⟨z0, z1, z2⟩, rfl, m2⟩
theorem op_C (h : DataW.trod enc Tryz.prog W base (fun _ => true) hd n 180 cs = some y) : ∃ z : Cell, cs = encC z ∧ z.1.length ≤ 9223372036854775807 ∧ z.2.length ≤ 9223372036854775807 := by
 obtain ⟨hl, n', hf⟩ := op_fields Tryz.underlying180 co180 h
 obtain ⟨x0, x1, rfl⟩ := len2 hl
 obtain ⟨_, j0⟩ := op_field hf 0 rfl rfl rfl co9 [x0] rfl
 obtain ⟨_, j1⟩ := op_field hf 1 rfl rfl rfl co9 [x1] rfl
 obtain ⟨z0, q0, m0⟩ := op_str Tryz.underlying9 j0
 obtain ⟨z1, q1, m1⟩ := op_str Tryz.underlying9 j1
 simp only [List.cons.injEq, and_true] at q0 q1
 subst q0 q1
 exact ⟨⟨z0, z1⟩, rfl, m0, m1⟩
theorem opL_K {v : Value} (h : DataW.trod enc Tryz.prog W base (fun _ => true) hd n 110 [v] = some y) : ∃ a c, ∃ l : List CL, v = .slice a l.length c ∧ SeesE W (.slice a l.length c) 6 l.length (l.flatMap encK) ∧ okRK l := by
 obtain ⟨a, c, l, hv, hs, hl, ho⟩ := op_list (en := encK) (ok := fun z => CL.ok z 9223372036854775807) encK_len (by decide) k0 Tryz.underlying110 co115 (fun n cs y h => op_K h) h
 exact ⟨a, c, l, hv, hs, hl, all_getD _ ho⟩
theorem opL_A {v : Value} (h : DataW.trod enc Tryz.prog W base (fun _ => true) hd n 111 [v] = some y) : ∃ a c, ∃ l : List AN, v = .slice a l.length c ∧ SeesE W (.slice a l.length c) 3 l.length (l.flatMap encA) ∧ okRA l := by
 obtain ⟨a, c, l, hv, hs, hl, ho⟩ := op_list (en := encA) (ok := fun z => (AN.text z).length ≤ 9223372036854775807) encA_len (by decide) a0_ Tryz.underlying111 co246 (fun n cs y h => op_A h) h
 exact ⟨a, c, l, hv, hs, hl, all_getD _ ho⟩
theorem opL_S {v : Value} (h : DataW.trod enc Tryz.prog W base (fun _ => true) hd n 30 [v] = some y) : ∃ a c, ∃ l : List Str, v = .slice a l.length c ∧ SeesE W (.slice a l.length c) 1 l.length (l.map str) ∧ okS l := by
 obtain ⟨a, c, l, hv, hs, hl, ho⟩ := op_list (en := fun s : Str => [str s]) (ok := fun s : Str => s.length ≤ 9223372036854775807) (fun _ => rfl) (by decide) [] Tryz.underlying30 co9 (fun n cs y h => op_str Tryz.underlying9 h) h
 exact ⟨a, c, l, hv, hs.flatS, hl, all_getD _ ho⟩
theorem opL_I {v : Value} (h : DataW.trod enc Tryz.prog W base (fun _ => true) hd n 33 [v] = some y) : ∃ a c, ∃ l : List Int, v = .slice a l.length c ∧ SeesE W (.slice a l.length c) 1 l.length (l.map (Value.int .i64)) ∧ okRI l := by
 obtain ⟨a, c, l, hv, hs, hl, _⟩ := op_list (en := fun s : Int => [Value.int .i64 s]) (ok := fun _ => True) (fun _ => rfl) (by decide) 0 Tryz.underlying33 co3 (fun n cs y h => by obtain ⟨z, hz⟩ := op_int Tryz.underlying3 h; exact ⟨z, hz, trivial⟩) h
 exact ⟨a, c, l, hv, hs.flatI, hl⟩
theorem op_X (h : DataW.trod enc Tryz.prog W base (fun _ => true) hd n 114 cs = some y) : ∃ z : TX, cs = encX z ∧ SeesAE W (rdsX z) ∧ z.t.okz ∧ (-9223372036854775808 ≤ z.t.proc ∧ z.t.proc ≤ 9223372036854775807) := by
 obtain ⟨hl, n', hf⟩ := op_fields Tryz.underlying114 co114 h
 obtain ⟨x0, x1, x2, x3, x4, x5, x6, x7, x8, x9, rfl⟩ := len10 hl
 obtain ⟨_, j0⟩ := op_field hf 0 rfl rfl rfl co3 [x0] rfl
 obtain ⟨_, j1⟩ := op_field hf 1 rfl rfl rfl co3 [x1] rfl
 obtain ⟨_, j2⟩ := op_field hf 2 rfl rfl rfl co3 [x2] rfl
 obtain ⟨_, j3⟩ := op_field hf 3 rfl rfl rfl co3 [x3] rfl
 obtain ⟨_, j4⟩ := op_field hf 4 rfl rfl rfl co110 [x4] rfl
 obtain ⟨_, j5⟩ := op_field hf 5 rfl rfl rfl co111 [x5] rfl
 obtain ⟨_, j6⟩ := op_field hf 6 rfl rfl rfl co112 [x6, x7] rfl
 obtain ⟨_, j7⟩ := op_field hf 7 rfl rfl rfl co33 [x8] rfl
 obtain ⟨_, j8⟩ := op_field hf 8 rfl rfl rfl co3 [x9] rfl
 obtain ⟨z0, q0⟩ := op_int Tryz.underlying3 j0
 obtain ⟨z1, q1⟩ := op_int Tryz.underlying3 j1
 obtain ⟨z2, q2, m2⟩ := op_intB Tryz.underlying3 j2
 obtain ⟨z3, q3⟩ := op_int Tryz.underlying3 j3
 obtain ⟨a4, c4, l4, q4, s4, m4⟩ := opL_K j4
 obtain ⟨a5, c5, l5, q5, s5, m5⟩ := opL_A j5
 obtain ⟨_, n2, hg⟩ := op_fields Tryz.underlying112 co112 j6
 obtain ⟨_, g0⟩ := op_field hg 0 rfl rfl rfl co30 [x6] rfl
 obtain ⟨ag0, cg0, lg0, qg0, sg0, mg0⟩ := opL_S g0
 obtain ⟨_, g1⟩ := op_field hg 1 rfl rfl rfl co30 [x7] rfl
 obtain ⟨ag1, cg1, lg1, qg1, sg1, mg1⟩ := opL_S g1
 obtain ⟨a7, c7, l7, q7, s7, m7⟩ := opL_I j7
 obtain ⟨z8, q8⟩ := op_int Tryz.underlying3 j8
 simp only [List.cons.injEq, and_true] at q0 q1 q2 q3 q8
 subst q0 q1 q2 q3 q4 q5 qg0 qg1 q7 q8
 exact ⟨⟨⟨a4, c4, a5, c5, ag0, cg0, ag1, cg1, a7, c7⟩, ⟨z0, z1, z2, z3, l4, l5, lg0, lg1, l7, z8⟩⟩, rfl, SeesAE.cons s4 (SeesAE.cons s5 (SeesAE.cons sg0 (SeesAE.cons sg1 (SeesAE.cons s7 SeesAE.nil)))), ⟨m4, m5, mg0, mg1, m7⟩, m2⟩
theorem opL_C {v : Value} (h : DataW.trod enc Tryz.prog W base (fun _ => true) hd n 109 [v] = some y) : ∃ a c, ∃ l : List Cell, v = .slice a l.length c ∧ SeesE W (.slice a l.length c) 2 l.length (l.flatMap encC) ∧ okC l := by
 obtain ⟨a, c, l, hv, hs, hl, ho⟩ := op_list (en := encC) (ok := fun z => z.1.length ≤ 9223372036854775807 ∧ z.2.length ≤ 9223372036854775807) encC_len (by decide) c0 Tryz.underlying109 co180 (fun n cs y h => op_C h) h
 exact ⟨a, c, l, hv, hs, hl, all_getD _ ho⟩
end
section
variable {H : Type} {enc : TypeId × Value → H} {W : World} {base : Nat} {hd : Bool} {b0 : Nat} {r : Reach} {v : Value} {d : DataW H} {ps : List MemPlace}
attribute [local irreducible] Value.okWide DataW.Trod in
theorem open_X (hv : Value.okWide Tryz.prog W r b0 114 v) (h : DataW.Trod enc Tryz.prog W base (fun _ => true) hd 114 v d ps) : ∃ z : TX, v = .agg #[.int .i64 z.t.id, .int .i64 z.t.age, .int .i64 z.t.proc, .int .i64 z.t.began, .slice z.x.a0 z.t.calls.length z.x.c0, .slice z.x.a1 z.t.ans.length z.x.c1, .slice z.x.a2 z.t.rd.length z.x.c2, .slice z.x.a3 z.t.wr.length z.x.c3, .slice z.x.a4 z.t.marks.length z.x.c4, .int .i64 z.t.state] ∧ SeesAE W (rdsX z) ∧ z.t.okz ∧ (-9223372036854775808 ≤ z.t.proc ∧ z.t.proc ≤ 9223372036854775807) := by
 obtain ⟨cs, rfl⟩ := okAgg Tryz.underlying114 hv
 obtain ⟨fuel, hf⟩ := trod_ex h
 obtain ⟨z, hz, h1, h2⟩ := op_X hf
 exact ⟨z, congrArg Value.agg (Array.ext' hz), h1, h2⟩
attribute [local irreducible] Value.okWide DataW.Trod in
theorem open_C (hv : Value.okWide Tryz.prog W r b0 109 v) (h : DataW.Trod enc Tryz.prog W base (fun _ => true) hd 109 v d ps) : ∃ a c, ∃ l : List Cell, v = .slice a l.length c ∧ SeesE W (.slice a l.length c) 2 l.length (l.flatMap encC) ∧ okC l := by
 obtain ⟨a, len, cap, rfl⟩ := okWide_slice Tryz.underlying109 hv
 obtain ⟨fuel, hf⟩ := trod_ex h
 exact opL_C (v := .slice a len cap) hf
attribute [local irreducible] Value.okWide DataW.Trod in
theorem open_K (hv : Value.okWide Tryz.prog W r b0 115 v) (h : DataW.Trod enc Tryz.prog W base (fun _ => true) hd 115 v d ps) : ∃ z : CL, v = .agg #[.int .i64 z.kind, str z.name, str z.to_, .int .i64 z.a, .int .i64 z.b, str z.text] ∧ z.ok 9223372036854775807 := by
 obtain ⟨cs, rfl⟩ := okAgg Tryz.underlying115 hv
 obtain ⟨fuel, hf⟩ := trod_ex h
 obtain ⟨z, hz, h1⟩ := op_K hf
 exact ⟨z, congrArg Value.agg (Array.ext' hz), h1⟩
end
end Go.Proofs.YthlfmbbaomdciaaGreatDoor
