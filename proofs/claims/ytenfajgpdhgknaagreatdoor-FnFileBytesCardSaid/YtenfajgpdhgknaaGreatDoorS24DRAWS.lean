/-
  Laws that draw: helpers (part 24).
-/
import Derived.Test.YtenfajgpdhgknaaGreatDoorS22MACH
import Derived.Test.YtenfajgpdhgknaaGreatDoorS23SAME
import Derived.Test.YtenfajgpdhgknaaGreatDoorDatG
import Derived.Laws.Small
set_option linter.unusedSimpArgs false
set_option linter.unusedVariables false
set_option linter.unnecessarySimpa false
namespace Go.Proofs.YtenfajgpdhgknaaGreatDoor
open Go Go.RowKit
section
variable {P : Program} {ops : Array Oper} {Q : Exit → Act → World → Prop} {n : Nat} {w0 : World} {D : List Nat} {L M : List Res} {e : Env} {z fuel : Nat} {listed : Array Bool}
theorem JX.opOn {i : Nat} {o : Oper} {Φ : Value → List Res → Prop} {j : Nat} {b : Bool} {t : Tmp} (hi : ops[i]? = some o) (hg : o.guard = some (j, b)) (hj : (ops[j]?).bind (·.dst) = some t) (ht : Nat.blt t n = true) (hv : e t = .bool b) (ho : JO P n w0 D L e o Φ)
    (h : ∀ v L', Φ v L' → (∀ r ∈ M, r ∈ L') ∧ JA P ops Q n w0 D M z fuel (listed.setIfInBounds i true) L' (updO e o.dst v)) : JX P ops Q n w0 D M z fuel listed L e i := fun w hw => by
  have hlt : t < n := (Nat.blt_eq (x := t) (y := n)) ▸ ht
  have hyy : yielded ops (act n e).tmps j = some b := by simp [yielded, hj, act, hlt, hv]
  unfold wpOp
  simp only [hi]
  rw [if_pos (by simp [Region.wanted, hg, hyy])]
  refine .inl (ho w hw _ Q fun v L' w' hΦ hw' => ?_)
  obtain ⟨h1, h2⟩ := h v L' hΦ
  have hq := hw'.qw.sub h1
  exact ⟨fun _ => .inr hq, h2 w' hw' hq⟩
end
section
variable {P : Program} {n : Nat} {e : Env} {d : Option Tmp} {ty : TypeId} {pos : String} {aft : Array Edge} {gd : Option (Nat × Bool)}
theorem PO.eqlB {x y : Operand} {a b : Bool} {t u : TypeId} (ht : P.underlying t = some .bool) (hx : rd n e x = .bool a) (hy : rd n e y = .bool b) : PO P n e ⟨d, .binOp .eql t x y u, ty, pos, aft, gd⟩ (.bool (decide (a = b))) := fun w => by
  have h := run_eql_bool (P := P) w t a b ht
  simp [execOp, hx, hy, eqGuard, h, beq_dec]
theorem PO.neqB {x y : Operand} {a b : Bool} {t u : TypeId} (ht : P.underlying t = some .bool) (hx : rd n e x = .bool a) (hy : rd n e y = .bool b) : PO P n e ⟨d, .binOp .neq t x y u, ty, pos, aft, gd⟩ (.bool (!decide (a = b))) := fun w => by
  have h := run_equal_bool (P := P) w t a b ht
  simp [execOp, hx, hy, eqGuard, binOp, h, beq_dec]
end
theorem bump_num {m m1 m2 : MS} {key : Str} {n1 n2 : Int} (h1 : m.bump key = (m1, n1)) (h2 : m.num key = (m2, n2)) : n1 = 0 ∨ n1 = n2 + 1 := by
  unfold MS.bump at h1
  rw [h2] at h1
  simp only at h1
  split at h1
  · simp only [Prod.mk.injEq] at h1; exact .inl h1.2.symm
  · simp only [Prod.mk.injEq] at h1; exact .inr h1.2.symm
attribute [local irreducible] JL JC JQ JO LO PO JA JX Ct

theorem N_big (pa : Option Addr) (pc : Nat) (p : Str) :
    Ct Tryz.prog 26 [.slice pa p.length pc] [] (fun _ => True) (fun v A' => v = .bool (decide (1048576 < ((p.length : Nat) : Int))) ∧ A' = []) := by
  refine Ct.intro Tryz.func26 rfl Tryz.ntmps26 (Nat.le_of_ble_eq_true rfl) fun w0 hpre => ?_
  refine JC.seq ?_
  refine JC.region ?_
  refine JL.pure rfl (PO.assign (v := .bool false) rfl) ?_
  refine JL.nil ?_
  refine JQ.seq ?_
  refine JC.seq ?_
  refine JC.region ?_
  refine JL.pure rfl (PO.move (v := .slice pa p.length pc) rfl) ?_
  refine JL.pure rfl (PO.lenV Tryz.underlying44 rfl) ?_
  refine JL.pure rfl (PO.gtr rfl rfl) ?_
  refine JL.pure rfl (PO.assign (v := .bool (decide (1048576 < ((p.length : Nat) : Int)))) rfl) ?_
  refine JL.nil ?_
  refine JQ.seq ?_
  refine JC.ret ?_
  refine Done.one (.inl rfl) rfl (RV.tmp (v := .bool (decide (1048576 < ((p.length : Nat) : Int)))) rfl) (List.nil_sublist _) ?_
  exact ⟨rfl, rfl⟩

end Go.Proofs.YtenfajgpdhgknaaGreatDoor
