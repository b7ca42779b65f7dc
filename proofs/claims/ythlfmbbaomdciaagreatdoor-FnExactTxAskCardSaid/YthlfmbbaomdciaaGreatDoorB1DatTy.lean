/-
Texts of the walk, joined: what each one proves stands at its theorems.
-/
import Derived.Test.YthlfmbbaomdciaaGreatDoorB0DatHo
set_option linter.unusedSimpArgs false
set_option linter.unusedVariables false
set_option linter.unnecessarySimpa false
set_option maxHeartbeats 4000000
set_option maxRecDepth 4000
namespace Go.Proofs.YthlfmbbaomdciaaGreatDoor
open Go Go.RowKit
attribute [local irreducible] JL JC JQ JO LO PO JA JX Ct
/-- The strings of a list are short enough to be counted. -/
def okS (s : List Str) : Prop := s.length ≤ 9223372036854775807 ∧ ∀ j, j < s.length → (s.getD j []).length ≤ 9223372036854775807
end Go.Proofs.YthlfmbbaomdciaaGreatDoor
namespace Go.Proofs.YthlfmbbaomdciaaGreatDoor
open Go Go.RowKit
def encX (p : TX) : List Value := [.int .i64 p.t.id, .int .i64 p.t.age, .int .i64 p.t.proc, .int .i64 p.t.began, .slice p.x.a0 p.t.calls.length p.x.c0, .slice p.x.a1 p.t.ans.length p.x.c1, .slice p.x.a2 p.t.rd.length p.x.c2, .slice p.x.a3 p.t.wr.length p.x.c3, .slice p.x.a4 p.t.marks.length p.x.c4, .int .i64 p.t.state]
def x0 : TX := ⟨⟨none, 0, none, 0, none, 0, none, 0, none, 0⟩, ⟨0, 0, 0, 0, [], [], [], [], [], 0⟩⟩
theorem okW.okS {l : List Str} (h : okW l) (hl : l.length ≤ 1000000000) : okS l := ⟨by omega, fun j hj => by have := h _ (getD_mem (d := ([] : Str)) hj); omega⟩
end Go.Proofs.YthlfmbbaomdciaaGreatDoor
