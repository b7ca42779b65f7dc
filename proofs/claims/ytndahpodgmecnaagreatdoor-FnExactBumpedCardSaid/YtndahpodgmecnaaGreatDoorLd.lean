/-
  What the list of package-level variables gives to the small logic.
-/
import Derived.Test.YtndahpodgmecnaaGreatDoorMo
set_option linter.unusedSimpArgs false
set_option linter.unusedVariables false
set_option linter.unnecessarySimpa false
namespace Go.Proofs.YtndahpodgmecnaaGreatDoor
open Go Go.RowKit Go.ChangeShapes Go.WideShapes Go.ChangeAt

def OneLaid (P : Program) (w : World) (n : String) (d : DataW Unit) : Prop :=
  ∃ g t cs fuel p, P.globalNamed n = some g ∧ (P.globals[g]?).map (·.type) = some t ∧ w.var? P n = some cs ∧ DataW.trod (fun _ => ()) P w 0 (fun _ => true) false fuel t cs.toList = some (d, p)
section
variable {P : Program} {w : World}
theorem laid5 {n1 n2 n3 n4 n5 : String} {d1 d2 d3 d4 d5 : DataW Unit} (h : laidMet P [(n1, d1), (n2, d2), (n3, d3), (n4, d4), (n5, d5)] w) : OneLaid P w n1 d1 ∧ OneLaid P w n2 d2 ∧ OneLaid P w n3 d3 ∧ OneLaid P w n4 d4 ∧ OneLaid P w n5 d5 := by
  obtain ⟨_, ⟨g1, t1, cs1, f1, p1, _, a1, b1, e1, h1, ⟨g2, t2, cs2, f2, p2, _, a2, b2, e2, h2, ⟨g3, t3, cs3, f3, p3, _, a3, b3, e3, h3, ⟨g4, t4, cs4, f4, p4, _, a4, b4, e4, h4, ⟨g5, t5, cs5, f5, p5, _, a5, b5, e5, h5, _⟩, _⟩, _⟩, _⟩, _⟩, _⟩ := h
  exact ⟨⟨_, _, _, _, _, a1, b1, e1, h1⟩, ⟨_, _, _, _, _, a2, b2, e2, h2⟩, ⟨_, _, _, _, _, a3, b3, e3, h3⟩, ⟨_, _, _, _, _, a4, b4, e4, h4⟩, ⟨_, _, _, _, _, a5, b5, e5, h5⟩⟩
theorem OneLaid.room {n : String} {d : DataW Unit} {g : Nat} (h : OneLaid P w n d) (hg : P.globalNamed n = some g) : g < w.heap.size := by
  obtain ⟨g', t, cs, fuel, p, h1, _, h3, _⟩ := h
  obtain rfl := Option.some.inj (hg.symm.trans h1)
  unfold World.var? at h3
  rw [h1, Option.bind_some] at h3
  cases hq : w.heap[g]? with
  | none => rw [hq] at h3; simp at h3
  | some o => exact (Array.getElem?_eq_some_iff.1 hq).1
theorem OneLaid.tab {n : String} {k : IntKind} {zs : List Int} {g t e m : Nat} (h : OneLaid P w n (Lib.tabData k zs)) (hg : P.globalNamed n = some g) (hty : (P.globals[g]?).map (·.type) = some t) (ht : P.underlying t = some (.array m e)) (he : P.underlying e = some (.int k)) (hce : P.cellsOf e = 1) (hct : P.cellsOf t = m) : Lib.TabIs P w n k zs := by
  obtain ⟨g', t', cs, fuel, p, h1, h2, h3, h4⟩ := h
  obtain rfl := Option.some.inj (hg.symm.trans h1)
  obtain rfl := Option.some.inj (hty.symm.trans h2)
  unfold Lib.TabIs
  rw [h3, ← Lib.cells_of_tab ht he hce hct h4]
theorem OneLaid.iface {n s : String} {x : DataW Unit} {g t : Nat} {ms : Array (String × TypeId)} (h : OneLaid P w n (.iface s x)) (hg : P.globalNamed n = some g) (hty : (P.globals[g]?).map (·.type) = some t) (ht : P.underlying t = some (.interface ms)) : ∃ tp p, w.var? P n = some #[.iface tp p] := by
  obtain ⟨g', t', cs, fuel, p, h1, h2, h3, h4⟩ := h
  obtain rfl := Option.some.inj (hg.symm.trans h1)
  obtain rfl := Option.some.inj (hty.symm.trans h2)
  cases fuel with
  | zero => simp [DataW.trod] at h4
  | succ fuel =>
    unfold DataW.trod at h4
    rw [ht] at h4
    split at h4 <;> simp_all
    rename_i u v _ hcs
    exact ⟨u, v, Array.ext' hcs⟩
end
end Go.Proofs.YtndahpodgmecnaaGreatDoor
