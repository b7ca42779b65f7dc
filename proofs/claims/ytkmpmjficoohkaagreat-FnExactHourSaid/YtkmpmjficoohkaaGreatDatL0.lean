/-
  Calls and answers, as data. No program in sight.
-/
import Derived.Test.YtkmpmjficoohkaaGreatDatC
set_option linter.unusedSimpArgs false
set_option linter.unusedVariables false
set_option linter.unnecessarySimpa false
namespace Go.Proofs.YtkmpmjficoohkaaGreat
open Go Go.RowKit

/-- A call; what it is answered. -/
structure CL where
  kind : Int
  name : Str
  to_ : Str
  a : Int
  b : Int
  text : Str
structure AN where
  code : Int
  n : Int
  text : Str
structure CL.ok (c : CL) (B : Nat) : Prop where
  h1 : -9223372036854775808 ≤ c.kind ∧ c.kind ≤ 9223372036854775807
  h2 : -9223372036854775808 ≤ c.a ∧ c.a ≤ 9223372036854775807
  h3 : -9223372036854775808 ≤ c.b ∧ c.b ≤ 9223372036854775807
  h4 : c.name.length ≤ B
  h5 : c.to_.length ≤ B
  h6 : c.text.length ≤ B
def szCallF (c : CL) (l : Int) : Int :=
  if l - (c.name.length : Int) < 0 then -1 else if l - (c.name.length : Int) - (c.to_.length : Int) < 0 then -1 else
  if l - (c.name.length : Int) - (c.to_.length : Int) - (c.text.length : Int) < 0 then -1 else l - (c.name.length : Int) - (c.to_.length : Int) - (c.text.length : Int)
theorem szCall_ok {c : CL} {l : Int} (h : ¬ szCallF c l < 0) : (c.name.length : Int) ≤ l ∧ (c.to_.length : Int) ≤ l ∧ (c.text.length : Int) ≤ l := by
  unfold szCallF at h
  split at h
  · omega
  · split at h
    · omega
    · split at h <;> omega
def bro (x : Int) (y : Nat) : Nat := min x.toNat y
theorem bro_le (x : Int) (y : Nat) : bro x y ≤ y := Nat.min_le_right _ _
end Go.Proofs.YtkmpmjficoohkaaGreat
