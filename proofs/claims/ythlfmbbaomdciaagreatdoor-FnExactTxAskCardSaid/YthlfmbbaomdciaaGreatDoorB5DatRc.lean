/-
Texts of the walk, joined: what each one proves stands at its theorems.
-/
import Derived.Test.YthlfmbbaomdciaaGreatDoorB1DatTy
set_option linter.unusedSimpArgs false
set_option linter.unusedVariables false
set_option linter.unnecessarySimpa false
set_option maxHeartbeats 4000000
set_option maxRecDepth 4000
namespace Go.Proofs.YthlfmbbaomdciaaGreatDoor
open Go Go.RowKit
attribute [local irreducible] JL JC JQ JO LO PO JA JX Ct
def okC (s : List Cell) : Prop := s.length ≤ 9223372036854775807 ∧ ∀ j, j < s.length → (s.getD j c0).1.length ≤ 9223372036854775807 ∧ (s.getD j c0).2.length ≤ 9223372036854775807
end Go.Proofs.YthlfmbbaomdciaaGreatDoor
namespace Go.Proofs.YthlfmbbaomdciaaGreatDoor
open Go Go.RowKit
section
variable {w0 w : World} {D : List Nat} {L F : List Res} {rs A B C : List RD} {r : RD}
theorem SeesA.left (h : SeesA w (A ++ B)) : SeesA w A := fun q hq => h q (List.mem_append_left _ hq)
theorem SeesE.full {v : Value} {k m : Nat} {cs : List Value} (h : SeesE w v k m cs) (h0 : 0 < m) : Sees w v k m cs := by
 rcases h with h | ⟨_, h, _⟩
 · exact h
 · omega
theorem SeesAE.left (h : SeesAE w (A ++ B)) : SeesAE w A := fun q hq => h q (List.mem_append_left _ hq)
end
section
variable {P : Program} {ops : Array Oper} {Q : Exit → Act → World → Prop} {n : Nat} {w0 : World} {D : List Nat} {L L' : List Res} {e : Env}
end
theorem mark_eq {i : Nat} {t : TD} (h : mkInv i t) (hi : i < 4) : t.mark = ({ t with marks := t.marks ++ [((i : Nat) : Int)] }, ((i + 1 : Nat) : Int)) := by
 have hm := h.ml
 have hn := h.n
 rw [TD.mark, if_pos ⟨h.s, by omega⟩, hm, hn]
end Go.Proofs.YthlfmbbaomdciaaGreatDoor
