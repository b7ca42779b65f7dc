/-
  laws.FnExactKernelNew: the statement and its card: for every machine and every other argument the law returns true, and the arguments read as they did. Conditions: the package-level variables that the row lists hold what it lists.
-/
import Derived.Test.YtkmpmjficoohkaaGreatDoorFlat
import Derived.Test.YtkmpmjficoohkaaGreatDoorLKernelNew
import Derived.Test.YtkmpmjficoohkaaGreatDoorCards
import Derived.Test.YtkmpmjficoohkaaGreatDoorTie
import Derived.ChangeMaps5
import Derived.Deep.DeepWitnessRowRef
set_option linter.unusedSimpArgs false
set_option linter.unusedVariables false
set_option linter.unnecessarySimpa false
namespace Go.Proofs.YtkmpmjficoohkaaGreatDoor
open Go Go.RowKit Go.ChangeShapes Go.WideShapes Go.ChangeAt

theorem glob_KernelNew {W : World} (h : laidMetH Tryz.prog Rows.fnExactKernelNewRow.laid W) : Glob W :=
  ⟨OneLaid.tab (k := .u64) (zs := Lib.pow10Tab) (laid_get (laid := Rows.fnExactKernelNewRow.laid) (show laidMet _ _ _ from h) 2 rfl) named1 (by kernel_rfl) Tryz.underlying155 Tryz.underlying141 (by kernel_rfl) (by kernel_rfl),
    OneLaid.iface (laid_get (laid := Rows.fnExactKernelNewRow.laid) (show laidMet _ _ _ from h) 4 rfl) named2 (by kernel_rfl) Tryz.underlying120, OneLaid.iface (laid_get (laid := Rows.fnExactKernelNewRow.laid) (show laidMet _ _ _ from h) 3 rfl) named3 (by kernel_rfl) Tryz.underlying120⟩

attribute [local irreducible] Value.okWide DataW.Trod in
theorem contract_KernelNew (H : Type) (enc : TypeId × Value → H) (W : World) (base : Nat) (args : Array Value) (ds gs : List (DataW H)) (before : List MemPlace)
    (hval : ∀ (j : Nat) t v, Tryz.f3.params[j]? = some t → args[j]? = some v → Value.okWide Tryz.prog W .any base t v)
    (hW : DataW.Whole enc Tryz.prog Tryz.f3.params.toList Rows.fnExactKernelNewSpec.vars false W args.toList ds gs before) (hL : laidMetH Tryz.prog Rows.fnExactKernelNewRow.laid W) (hR : GB ≤ W.heap.size) :
    Calls Tryz.prog 3 args W fun e W' => ∃ v, e = .returned v ∧ Rows.fnExactKernelNewSpec.post enc Tryz.prog Tryz.f3 false true false false W args v W' := by
  have hW' := hW
  obtain ⟨p, q, hA0, hV, rfl, hfz, hnd⟩ := hW
  have hA : DataW.TrodAll enc Tryz.prog W 0 (fun _ => true) true Tryz.f3.params.toList args.toList ds p := hA0
  rw [Tryz.params3] at hA hval
  obtain ⟨hargs, rfl, rfl⟩ := trodAll_nil hA
  obtain rfl : args = #[] := by cases args; simp_all
  obtain ⟨rfl, rfl⟩ := trodVars_none hV
  have hHas : Has [] W := ⟨by simp, by simp [idsOf], by simp [idsOf], hR, glob_KernelNew hL⟩
  have hc := L_KernelNew W hHas trivial
  clear hA0 hA
  refine hc.mono fun e W' h => ?_
  obtain ⟨v, A', rfl, ⟨rfl, rfl⟩, hst⟩ := h
  have hb : Below W.heap.size W W' := ⟨hst.os, hst.tape, hst.output, hst.size, fun k hk => hst.keep k hk (by simp [idsOf])⟩
  simp only [List.append_nil] at hW'
  have hlt := hW'.lt
  refine ⟨_, rfl, post_below (pa := []) (pv := []) hW' (fun _ _ _ => trodAll_cons_mk (shut_bool Tryz.underlying4 _) trodAll_mk0) (fun sp hsp => ?_) (fun _ _ => rfl) (by simp) hb (ok_one (by kernel_rfl) rfl (okWide_bool_mk Tryz.underlying4 _))⟩
  exact trodAll_mk0

noncomputable def laidWorld_KernelNew (os : Os) : World :=
  let w0 := World.holding Tryz.prog os ⟨#[], #[], []⟩
  let put (h : Array Obj) (g : Nat) (cs : Array Value) : Array Obj := h.modify g fun
    | .cells _ t frozen => .cells cs t frozen
    | o => o
  let n := w0.heap.size
  let h0 := w0.heap ++ #[.cells #[.string ⟨#[118, 97, 108, 117, 101, 32, 111, 117, 116, 32, 111, 102, 32, 114, 97, 110, 103, 101]⟩] 165 (0, 0), .cells #[.string ⟨#[105, 110, 118, 97, 108, 105, 100, 32, 115, 121, 110, 116, 97, 120]⟩] 165 (0, 0)]
  let h1 := put h0 3 (litsOf (Rows.laid_math_bits_deBruijn32tab (H := Unit))).toArray
  let h2 := put h1 4 (litsOf (Rows.laid_math_bits_deBruijn64tab (H := Unit))).toArray
  let h3 := put h2 2 (litsOf (Rows.laid_internal_strconv_uint64pow10 (H := Unit))).toArray
  let h4 := put h3 1 #[.iface 163 (.pointer (some ⟨n + 0, 0, none⟩))]
  let h5 := put h4 0 #[.iface 163 (.pointer (some ⟨n + 1, 0, none⟩))]
  { w0 with heap := h5 }
def wargs_KernelNew : Array Value := #[]
theorem laid_met_KernelNew (os : Os) : laidMet Tryz.prog Rows.fnExactKernelNewRow.laid ((laidWorld_KernelNew os).forCall (fun _ _ => 0) ⟨#[], wargs_KernelNew, []⟩).memory :=
  laidMet_of_run' 8 (by kernel_rfl) (by kernel_rfl)
theorem reads_row_KernelNew (os : Os) {H : Type} (enc : TypeId × Value → H) : (OpenSpec.ofChange Rows.fnExactKernelNewSpec).preRow enc Tryz.prog Tryz.f3 Rows.fnExactKernelNewRow.domain false Rows.fnExactKernelNewRow.laid ((laidWorld_KernelNew os).forCall (fun _ _ => 0) ⟨#[], wargs_KernelNew, []⟩).memory wargs_KernelNew := by
  have hw : (DataW.whole enc Tryz.prog ((laidWorld_KernelNew os).forCall (fun _ _ => 0) ⟨#[], wargs_KernelNew, []⟩).memory Tryz.f3.params.toList Rows.fnExactKernelNewSpec.vars false wargs_KernelNew.toList 8).map (fun x => (x.1, x.2.1)) =
      some ([], []) := by kernel_rfl
  obtain ⟨⟨x1, x2, x3⟩, hx, hx1⟩ := Option.map_eq_some_iff.1 hw
  simp only [Prod.mk.injEq] at hx1
  obtain ⟨rfl, rfl⟩ := hx1
  exact OpenSpec.preRow_of_cond 8 hx (by kernel_rfl) (fun k hk => by cases hk) (by kernel_rfl) (laid_met_KernelNew os)

set_option maxRecDepth 100000 in
theorem lifted_KernelNew (os : Os) (started : os.Started) (H : Type) (enc : TypeId × Value → H) (F : Stop.Interp) :
    ReturnsInHanded {} Tryz.checked os 3 .any ((OpenSpec.ofChange Rows.fnExactKernelNewSpec).preRow enc Tryz.prog Tryz.f3 Rows.fnExactKernelNewRow.domain false Rows.fnExactKernelNewRow.laid) (((OpenSpec.ofChange Rows.fnExactKernelNewSpec).at F).post enc Tryz.prog Tryz.f3 false true false false) := by
  refine returnsInHanded_of_row (C := Tryz.checked) (s := OpenSpec.ofChange Rows.fnExactKernelNewSpec) own_godebug started (by kernel_rfl) Tryz.func3
    (witness_row_atRef (enc := enc) (C := Tryz.checked) false (laidWorld_KernelNew os) wargs_KernelNew rfl (by kernel_rfl) (by kernel_rfl) (by kernel_rfl) (reads_row_KernelNew os enc)) ?_
  intro W base args ds gs before hval hW _ _ _ hL hsh _
  exact contract_KernelNew H enc W base args ds gs before hval hW hL (room_of hsh)


end Go.Proofs.YtkmpmjficoohkaaGreatDoor
