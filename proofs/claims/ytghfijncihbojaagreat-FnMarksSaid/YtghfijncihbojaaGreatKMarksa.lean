/-
  laws.FnMarks: the statement: for every input the law returns true, and the input reads as it did. Conditions: none.
-/
import Derived.Test.YtghfijncihbojaaGreatLMarks
import Derived.Test.YtghfijncihbojaaGreatOpenB
import Derived.Test.YtghfijncihbojaaGreatRows
import Derived.WalkKit
import Derived.ChangeMaps5
import Derived.Deep.DeepWitnessRowRef
set_option linter.unusedSimpArgs false
set_option linter.unusedVariables false
set_option linter.unnecessarySimpa false
namespace Go.Proofs.YtghfijncihbojaaGreat
open Go Go.RowKit Go.ChangeShapes Go.WideShapes Go.ChangeAt

attribute [local irreducible] Value.okWide DataW.Trod in
theorem contract_Marks (H : Type) (enc : TypeId × Value → H) (W : World) (base : Nat) (args : Array Value) (ds gs : List (DataW H)) (before : List MemPlace)
    (hval : ∀ (j : Nat) t v, Tryz.f3.params[j]? = some t → args[j]? = some v → Value.okWide Tryz.prog W .any base t v)
    (hW : DataW.Whole enc Tryz.prog Tryz.f3.params.toList Rows.fnMarksSpec.vars false W args.toList ds gs before) (hR : GB ≤ W.heap.size) :
    Calls Tryz.prog 3 args W fun e W' => ∃ v, e = .returned v ∧ Rows.fnMarksSpec.post enc Tryz.prog Tryz.f3 false true false false W args v W' := by
  have hW' := hW
  obtain ⟨p, q, hA0, hV, rfl, hfz, hnd⟩ := hW
  have hA : DataW.TrodAll enc Tryz.prog W 0 (fun _ => true) true Tryz.f3.params.toList args.toList ds p := hA0
  rw [Tryz.params3] at hA hval
  obtain ⟨v0, vs0, d0, ds0, p0, q0, hargs, rfl, rfl, h0, r0⟩ := trodAll_cons hA
  obtain ⟨rfl, rfl, rfl⟩ := trodAll_nil r0
  obtain rfl : args = #[v0] := by cases args; simp_all
  obtain ⟨rfl, rfl⟩ := trodVars_none hV
  have k0 := hval 0 22 v0 rfl rfl
  have h0k := h0
  obtain ⟨a0, c0_, w0, rfl, s0, ok0⟩ := open_bytes k0 h0
  have hHas : Has [] W := ⟨by simp, by simp [idsOf], by simp [idsOf], hR, Nat.zero_le _⟩
  have hc := L_Marks a0 c0_ w0  W hHas s0
  clear hA0 hA
  refine hc.mono fun e W' h => ?_
  obtain ⟨v, A', rfl, ⟨rfl, rfl⟩, hst⟩ := h
  have hb : Below W.heap.size W W' := ⟨hst.os, hst.tape, hst.output, hst.size, fun k hk => hst.keep k hk (by simp [idsOf])⟩
  simp only [List.append_nil] at hW'
  have hlt := hW'.lt
  refine ⟨_, rfl, post_belowN (pa := p0) (pv := []) hW' (fun _ _ _ => trodAll_cons_mk (shut_bool Tryz.underlying4 _) trodAll_mk0) (fun sp hsp => ?_) (fun _ _ => rfl) (by simp) hb (ok_one (by kernel_rfl) rfl (okWide_bool_mk Tryz.underlying4 _))⟩
  have t0 := WideElems.Trod_stays (W' := W') (sp' := sp) laid_outN (by kernel_rfl) (of_decide_eq_true (by kernel_rfl)) h0k (fun x hx => hb.same (hlt x hx)) (fun x hx => hsp x hx)
  have hz_ := trodAll_cons_mk t0 trodAll_mk0
  simp only [List.append_nil, List.nil_append] at hz_
  exact hz_

noncomputable def laidWorld_Marks (os : Os) : World := World.holding Tryz.prog os ⟨#[], #[], []⟩
def wargs_Marks : Array Value := #[.slice none 0 0]
theorem laid_met_Marks (os : Os) : laidMet Tryz.prog Rows.fnMarksRow.laid ((laidWorld_Marks os).forCall (fun _ _ => 0) ⟨#[], wargs_Marks, []⟩).memory :=
  laidMet_of_run' 8 (by kernel_rfl) (by kernel_rfl)
theorem reads_row_Marks (os : Os) {H : Type} (enc : TypeId × Value → H) : (OpenSpec.ofChange Rows.fnMarksSpec).preRow enc Tryz.prog Tryz.f3 Rows.fnMarksRow.domain false Rows.fnMarksRow.laid ((laidWorld_Marks os).forCall (fun _ _ => 0) ⟨#[], wargs_Marks, []⟩).memory wargs_Marks := by
  have hw : (DataW.whole enc Tryz.prog ((laidWorld_Marks os).forCall (fun _ _ => 0) ⟨#[], wargs_Marks, []⟩).memory Tryz.f3.params.toList Rows.fnMarksSpec.vars false wargs_Marks.toList 8).map (fun x => (x.1, x.2.1)) =
      some ([.nil], []) := by kernel_rfl
  obtain ⟨⟨x1, x2, x3⟩, hx, hx1⟩ := Option.map_eq_some_iff.1 hw
  simp only [Prod.mk.injEq] at hx1
  obtain ⟨rfl, rfl⟩ := hx1
  exact OpenSpec.preRow_of_cond 8 hx (by kernel_rfl) (fun k hk => by cases hk) (by kernel_rfl) (laid_met_Marks os)

set_option maxRecDepth 100000 in
theorem lifted_Marks (os : Os) (started : os.Started) (H : Type) (enc : TypeId × Value → H) (F : Stop.Interp) :
    ReturnsInHanded {} Tryz.checked os 3 .any ((OpenSpec.ofChange Rows.fnMarksSpec).preRow enc Tryz.prog Tryz.f3 Rows.fnMarksRow.domain false Rows.fnMarksRow.laid) (((OpenSpec.ofChange Rows.fnMarksSpec).at F).post enc Tryz.prog Tryz.f3 false true false false) := by
  refine returnsInHanded_of_row (C := Tryz.checked) (s := OpenSpec.ofChange Rows.fnMarksSpec) own_godebugN started (by kernel_rfl) Tryz.func3
    (witness_row_atRef (enc := enc) (C := Tryz.checked) false (laidWorld_Marks os) wargs_Marks rfl (by kernel_rfl) (by kernel_rfl) (by kernel_rfl) (reads_row_Marks os enc)) ?_
  intro W base args ds gs before hval hW _ _ _ _ hsh _
  exact contract_Marks H enc W base args ds gs before hval hW (room_ofN hsh)


end Go.Proofs.YtghfijncihbojaaGreat
