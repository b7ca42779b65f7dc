/-
  What the list of package-level variables gives to the small logic.
-/
import Derived.Test.YtenfajgpdhgknaaGreatDoorMo
set_option linter.unusedSimpArgs false
set_option linter.unusedVariables false
set_option linter.unnecessarySimpa false
namespace Go.Proofs.YtenfajgpdhgknaaGreatDoor
open Go Go.RowKit Go.ChangeShapes Go.WideShapes Go.ChangeAt

def OneLaid (P : Program) (w : World) (n : String) (d : DataW Unit) : Prop :=
  ∃ g t cs fuel p, P.globalNamed n = some g ∧ (P.globals[g]?).map (·.type) = some t ∧ w.var? P n = some cs ∧ DataW.trod (fun _ => ()) P w 0 (fun _ => true) false fuel t cs.toList = some (d, p)
section
variable {P : Program} {w : World}
theorem laidVars_get : ∀ {laid : List (String × DataW Unit)} {ps : List MemPlace} (_ : DataW.LaidVars P w laid ps) (i : Nat) {n : String} {d : DataW Unit}, laid[i]? = some (n, d) → OneLaid P w n d
  | [], _, _, i, n, d, hi => by simp at hi
  | (n', d') :: r, ps, h, 0, n, d, hi => by
    simp only [List.getElem?_cons_zero, Option.some.injEq, Prod.mk.injEq] at hi
    obtain ⟨rfl, rfl⟩ := hi
    obtain ⟨g, t, cs, f, p, _, a, b, e, h, _⟩ := h
    exact ⟨g, t, cs, f, p, a, b, e, h⟩
  | (n', d') :: r, ps, h, i + 1, n, d, hi => by
    obtain ⟨_, _, _, _, _, q, _, _, _, _, h2, _⟩ := h
    exact laidVars_get h2 i (by simpa using hi)
theorem laid_get {laid : List (String × DataW Unit)} (h : laidMet P laid w) (i : Nat) {n : String} {d : DataW Unit} (hi : laid[i]? = some (n, d)) : OneLaid P w n d := by
  obtain ⟨_, h, _⟩ := h
  exact laidVars_get h i hi
theorem OneLaid.tab {n : String} {k : IntKind} {zs : List Int} {g t e m : Nat} (h : OneLaid P w n (Lib.tabData k zs)) (hg : P.globalNamed n = some g) (hty : (P.globals[g]?).map (·.type) = some t) (ht : P.underlying t = some (.array m e)) (he : P.underlying e = some (.int k)) (hce : P.cellsOf e = 1) (hct : P.cellsOf t = m) : Lib.TabIs P w n k zs := by
  obtain ⟨g', t', cs, fuel, p, h1, h2, h3, h4⟩ := h
  obtain rfl := Option.some.inj (hg.symm.trans h1)
  obtain rfl := Option.some.inj (hty.symm.trans h2)
  unfold Lib.TabIs
  rw [h3, ← Lib.cells_of_tab ht he hce hct h4]
theorem OneLaid.iface {n s : String} {x : DataW Unit} {g t : Nat} {ms : Array (String × TypeId)} (h : OneLaid P w n (.iface s x)) (hg : P.globalNamed n = some g) (hty : (P.globals[g]?).map (·.type) = some t) (ht : P.underlying t = some (.interface ms)) : ∃ tp p, w.var? P n = some #[.iface tp p] := by
  obtain ⟨g', t', cs, fuel, p, h1, h2, h3, h4⟩ := h
  obtain rfl := Option.some.inj (hg.symm.trans h1)
  obtain rfl := Option.some.inj (hty.symm.trans h2)
  cases fuel with
  | zero => simp [DataW.trod] at h4
  | succ fuel =>
    unfold DataW.trod at h4
    rw [ht] at h4
    split at h4 <;> simp_all
    rename_i u v _ hcs
    exact ⟨u, v, Array.ext' hcs⟩
end
theorem laid_out : laidOutB Tryz.prog = true := by kernel_rfl
theorem own_godebug : ownKnob Tryz.prog.godebug = none := by kernel_rfl
def litsOf {H : Type} : DataW H → List Value
  | .agg ds => ds.map fun d => match d with | .lit (.int k n) => Value.int k n | _ => undef
  | _ => []
/-- Every package-level variable has its block. -/
theorem room_of {W : World} (h : W.ShapedOpen Tryz.prog) : GB ≤ W.heap.size := by
  have hr : (((begin Tryz.prog (fun _ _ => 0) default).world.heap[GB - 1]?).bind Obj.row?).isSome = true := by kernel_rfl
  cases hq : ((begin Tryz.prog (fun _ _ => 0) default).world.heap[GB - 1]?).bind Obj.row? with
  | none => rw [hq] at hr; cases hr
  | some x =>
    obtain ⟨zero, t⟩ := x
    obtain ⟨cs, hc, _⟩ := h.1 (GB - 1) zero t (by rw [show Tryz.prog.globals.size = GB from by kernel_rfl]; decide) hq
    have := (Array.getElem?_eq_some_iff.1 hc).1
    unfold GB at *
    omega
end Go.Proofs.YtenfajgpdhgknaaGreatDoor
