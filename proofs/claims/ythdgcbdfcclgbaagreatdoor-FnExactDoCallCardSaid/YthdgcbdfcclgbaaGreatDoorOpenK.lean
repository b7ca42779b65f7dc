/-
  A call that comes in.
-/
import Derived.Test.YthdgcbdfcclgbaaGreatDoorSc
import Derived.Test.YthdgcbdfcclgbaaGreatDoorS28HARN
import Derived.ChangeArms
set_option linter.unusedSimpArgs false
set_option linter.unusedVariables false
set_option linter.unnecessarySimpa false
namespace Go.Proofs.YthdgcbdfcclgbaaGreatDoor
open Go Go.RowKit Go.ChangeShapes Go.WideShapes Go.ChangeAt

theorem six {cs : Array Value} (h : cs.size = 6) : ∃ x0 x1 x2 x3 x4 x5, cs = #[x0, x1, x2, x3, x4, x5] := by
  obtain ⟨l⟩ := cs
  match l, h with
  | [x0, x1, x2, x3, x4, x5], _ => exact ⟨x0, x1, x2, x3, x4, x5, rfl⟩
section
variable {P : Program} {H : Type} {enc : TypeId × Value → H} {W : World} {base : Nat} {sp : Nat → Bool} {hd : Bool}
theorem trod_field {t : TypeId} {fs : Array Field} {fuel : Nat} {cs : List Value} {x : DataW H × List MemPlace} (ht : P.underlying t = some (.struct fs)) (h : DataW.trod enc P W base sp hd fuel t cs = some x) :
    ∃ (xs : List (DataW H × List MemPlace)) (n : Nat), x.2 = xs.flatMap (·.2) ∧ xs.length = fs.size ∧ ∀ (i : Nat) (f : Field), fs[i]? = some f → ∃ y, xs[i]? = some y ∧ DataW.trod enc P W base sp hd n f.type ((cs.drop f.offset).take (P.cellsOf f.type)) = some y := by
  obtain ⟨xs, n, _, rfl, hl, hlen, hf⟩ := DataW.trod_struct ht h
  refine ⟨xs, n, rfl, by simpa using hlen, fun i f hi => ?_⟩
  have h1 := hf i f (by simpa using hi)
  have hlt : i < xs.length := by
    have := (Array.getElem?_eq_some_iff.1 hi).1
    omega
  refine ⟨xs[i], List.getElem?_eq_getElem hlt, ?_⟩
  rw [h1, List.getElem?_eq_getElem hlt]
theorem openCall {v : Value} {d : DataW H} {ps : List MemPlace} {b0 : Nat} {r : Reach} {t ti ts : TypeId} {f0 f1 f2 f3 f4 f5 : Field} {tl : List TypeId} (ut : P.underlying t = some (.struct #[f0, f1, f2, f3, f4, f5])) (ui : P.underlying ti = some (.int .i64)) (us : P.underlying ts = some .string)
    (hf0 : f0.type = ti ∧ f0.offset = 0) (hf1 : f1.type = ts ∧ f1.offset = 1) (hf2 : f2.type = ts ∧ f2.offset = 2) (hf3 : f3.type = ti ∧ f3.offset = 3) (hf4 : f4.type = ti ∧ f4.offset = 4) (hf5 : f5.type = ts ∧ f5.offset = 5)
    (ct : P.cellsOf t = 6) (ci : P.cellsOf ti = 1) (cs' : P.cellsOf ts = 1) (hts : P.cellTypes P.depth t = some tl) (hv : Value.okWide P W r b0 t v) (h : DataW.Trod enc P W base sp hd t v d ps) :
    ∃ c : CL, v = .agg #[.int .i64 c.kind, str c.name, str c.to_, .int .i64 c.a, .int .i64 c.b, str c.text] ∧ ps = [] ∧ c.ok 9223372036854775807 := by
  obtain ⟨cs, rfl, hsz, -⟩ := okRow ut hts hv
  obtain ⟨x0, x1, x2, x3, x4, x5, rfl⟩ := six (hsz.trans ct)
  obtain ⟨fuel, hf⟩ := h
  obtain ⟨xs, n, hps, hlen, hfs⟩ := trod_field ut hf
  obtain ⟨y0, e0, j0⟩ := hfs 0 f0 rfl
  obtain ⟨y1, e1, j1⟩ := hfs 1 f1 rfl
  obtain ⟨y2, e2, j2⟩ := hfs 2 f2 rfl
  obtain ⟨y3, e3, j3⟩ := hfs 3 f3 rfl
  obtain ⟨y4, e4, j4⟩ := hfs 4 f4 rfl
  obtain ⟨y5, e5, j5⟩ := hfs 5 f5 rfl
  rw [hf0.1, hf0.2, ci] at j0
  rw [hf1.1, hf1.2, cs'] at j1
  rw [hf2.1, hf2.2, cs'] at j2
  rw [hf3.1, hf3.2, ci] at j3
  rw [hf4.1, hf4.2, ci] at j4
  rw [hf5.1, hf5.2, cs'] at j5
  obtain ⟨k0, q0, rfl, w0⟩ := DataW.trod_int ui j0
  obtain ⟨k1, q1, rfl, w1⟩ := DataW.trod_string us j1
  obtain ⟨k2, q2, rfl, w2⟩ := DataW.trod_string us j2
  obtain ⟨k3, q3, rfl, w3⟩ := DataW.trod_int ui j3
  obtain ⟨k4, q4, rfl, w4⟩ := DataW.trod_int ui j4
  obtain ⟨k5, q5, rfl, w5⟩ := DataW.trod_string us j5
  simp only [Value.cells, List.drop_zero, List.drop_succ_cons, List.take_succ_cons, List.take_zero, List.cons.injEq, and_true] at q0 q1 q2 q3 q4 q5
  subst q0 q1 q2 q3 q4 q5
  have hb : ∀ k : Int, (Lit.int .i64 k).wf = true → -9223372036854775808 ≤ k ∧ k ≤ 9223372036854775807 := fun k hk => bounds_i64 hk
  have hl : ∀ s : ByteArray, s.size ≤ maxLen → s.data.toList.length ≤ 9223372036854775807 := fun s hs => by
    have : s.size = s.data.toList.length := Array.length_toList.symm
    unfold maxLen at hs
    omega
  refine ⟨⟨k0, k1.data.toList, k2.data.toList, k3, k4, k5.data.toList⟩, by simp [str], ?_, ⟨hb _ w0, hb _ w3, hb _ w4, hl _ w1, hl _ w2, hl _ w5⟩⟩
  match xs, hlen, e0, e1, e2, e3, e4, e5 with
  | [a0, a1, a2, a3, a4, a5], _, e0, e1, e2, e3, e4, e5 =>
    simp only [List.getElem?_cons_zero, List.getElem?_cons_succ, Option.some.injEq] at e0 e1 e2 e3 e4 e5
    subst e0 e1 e2 e3 e4 e5
    simpa using hps
end
section
variable {H : Type} {enc : TypeId × Value → H} {W : World} {base : Nat} {sp : Nat → Bool} {hd : Bool}
theorem ck6 : Tryz.prog.cellsOf 29 = 6 := by kernel_rfl
theorem cki : Tryz.prog.cellsOf 3 = 1 := by kernel_rfl
theorem ckt : Tryz.prog.cellTypes Tryz.prog.depth 29 = some [3, 9, 9, 3, 3, 9] := by kernel_rfl
attribute [local irreducible] Value.okWide DataW.Trod in
theorem open_call {b0 : Nat} {r : Reach} {v : Value} {d : DataW H} {ps : List MemPlace} (hv : Value.okWide Tryz.prog W r b0 29 v) (h : DataW.Trod enc Tryz.prog W base sp hd 29 v d ps) :
    ∃ c : CL, v = .agg #[.int .i64 c.kind, str c.name, str c.to_, .int .i64 c.a, .int .i64 c.b, str c.text] ∧ ps = [] ∧ c.ok 9223372036854775807 :=
  openCall (P := Tryz.prog) (H := H) (enc := enc) (W := W) (base := base) (sp := sp) (hd := hd) (b0 := b0) (r := r) (v := v) (d := d) (ps := ps) (t := 29) (ti := 3) (ts := 9) Tryz.underlying29 Tryz.underlying3 Tryz.underlying9
    ⟨rfl, rfl⟩ ⟨rfl, rfl⟩ ⟨rfl, rfl⟩ ⟨rfl, rfl⟩ ⟨rfl, rfl⟩ ⟨rfl, rfl⟩ ck6 cki c3 ckt hv h
end
end Go.Proofs.YthdgcbdfcclgbaaGreatDoor
