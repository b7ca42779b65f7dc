/-
  A transaction, as data. No program in sight.
-/
import Derived.Test.YtkmpmjficoohkaaGreatDatL0
set_option linter.unusedSimpArgs false
set_option linter.unusedVariables false
set_option linter.unnecessarySimpa false
namespace Go.Proofs.YtkmpmjficoohkaaGreat
open Go Go.RowKit
/-- A transaction; where its five rows lie. -/
structure TD where
  id : Int
  age : Int
  proc : Int
  began : Int
  calls : List CL
  ans : List AN
  rd : List Str
  wr : List Str
  marks : List Int
  state : Int
structure TA where
  a0 : Option Addr
  c0 : Nat
  a1 : Option Addr
  c1 : Nat
  a2 : Option Addr
  c2 : Nat
  a3 : Option Addr
  c3 : Nat
  a4 : Option Addr
  c4 : Nat
def TD.new (a b c : Int) : TD := ⟨a, b, c, 0, [], [], [], [], [], 1⟩
def TD.mark (t : TD) : TD × Int :=
  if t.state = 1 ∧ (t.marks.length : Int) < 4 then ({ t with marks := t.marks ++ [(t.calls.length : Int)] }, ((t.marks.length + 1 : Nat) : Int)) else (t, 0)
def TD.back (t : TD) (k : Int) : TD × Bool :=
  if t.state = 1 ∧ 1 ≤ k ∧ k ≤ (t.marks.length : Int) then
    ({ t with calls := t.calls.take (bro (t.marks.getD (k - 1).toNat 0) t.calls.length), ans := t.ans.take (bro (t.marks.getD (k - 1).toNat 0) t.ans.length), marks := t.marks.take (k - 1).toNat }, true)
  else (t, false)
def TD.since (t : TD) (k : Int) : List CL :=
  if 1 ≤ k ∧ k ≤ (t.marks.length : Int) then t.calls.drop (bro (t.marks.getD (k - 1).toNat 0) t.calls.length) else []
def sortedI : List Int → Bool
  | [] => true
  | [_] => true
  | a :: b :: l => decide (a ≤ b) && sortedI (b :: l)
def TD.marksOk (t : TD) : Bool := decide ((t.marks.length : Int) ≤ 4) && (sortedI t.marks && t.marks.all fun n => decide (0 ≤ n) && decide (n ≤ (t.calls.length : Int)))
structure TD.ok (t : TD) (n : Nat) : Prop where
  h1 : -9223372036854775808 ≤ t.id ∧ t.id ≤ 9223372036854775807
  h2 : -9223372036854775808 ≤ t.age ∧ t.age ≤ 9223372036854775807
  h3 : -9223372036854775808 ≤ t.proc ∧ t.proc ≤ 9223372036854775807
  h4 : -9223372036854775808 ≤ t.began ∧ t.began ≤ 9223372036854775807
  h5 : -9223372036854775808 ≤ t.state ∧ t.state ≤ 9223372036854775807
  hc : t.calls.length ≤ n
  ha : t.ans.length ≤ n
  hr : t.rd.length ≤ n
  hw : t.wr.length ≤ n
  hm : t.marks.length ≤ n
theorem TD.mark_ok {t t' : TD} {n : Nat} {k : Int} (h : t.ok n) (e : t.mark = (t', k)) : t'.ok (n + 1) ∧ 0 ≤ k ∧ k ≤ 4 := by
  obtain ⟨h1, h2, h3, h4, h5, hc, ha, hr, hw, hm⟩ := h
  unfold TD.mark at e
  split at e
  · rename_i hif
    simp only [Prod.mk.injEq] at e
    obtain ⟨rfl, rfl⟩ := e
    refine ⟨⟨h1, h2, h3, h4, h5, ?_, ?_, ?_, ?_, ?_⟩, by omega, by omega⟩ <;> simp only [List.length_append, List.length_cons, List.length_nil] <;> omega
  · simp only [Prod.mk.injEq] at e
    obtain ⟨rfl, rfl⟩ := e
    exact ⟨⟨h1, h2, h3, h4, h5, by omega, by omega, by omega, by omega, by omega⟩, by omega, by omega⟩
theorem TD.back_ok {t t' : TD} {n : Nat} {k : Int} {b : Bool} (h : t.ok n) (e : t.back k = (t', b)) : t'.ok n := by
  obtain ⟨h1, h2, h3, h4, h5, hc, ha, hr, hw, hm⟩ := h
  unfold TD.back at e
  split at e
  · simp only [Prod.mk.injEq] at e
    obtain ⟨rfl, rfl⟩ := e
    refine ⟨h1, h2, h3, h4, h5, ?_, ?_, hr, hw, ?_⟩ <;> simp only [List.length_take] <;> omega
  · simp only [Prod.mk.injEq] at e
    obtain ⟨rfl, rfl⟩ := e
    exact ⟨h1, h2, h3, h4, h5, hc, ha, hr, hw, hm⟩
end Go.Proofs.YtkmpmjficoohkaaGreat
