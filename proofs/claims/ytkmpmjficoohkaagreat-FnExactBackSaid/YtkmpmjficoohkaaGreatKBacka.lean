/-
  laws.FnExactBack: the statement: for every input the law returns true, and the input reads as it did. Conditions: none.
-/
import Derived.Test.YtkmpmjficoohkaaGreatLBack
import Derived.Test.YtkmpmjficoohkaaGreatOpenN
import Derived.Test.YtkmpmjficoohkaaGreatRows
import Derived.WalkKit
import Derived.ChangeMaps5
import Derived.Deep.DeepWitnessRowRef
set_option linter.unusedSimpArgs false
set_option linter.unusedVariables false
set_option linter.unnecessarySimpa false
namespace Go.Proofs.YtkmpmjficoohkaaGreat
open Go Go.RowKit Go.ChangeShapes Go.WideShapes Go.ChangeAt

attribute [local irreducible] Value.okWide DataW.Trod in
theorem contract_Back (H : Type) (enc : TypeId × Value → H) (W : World) (base : Nat) (args : Array Value) (ds gs : List (DataW H)) (before : List MemPlace)
    (hval : ∀ (j : Nat) t v, Tryz.f7.params[j]? = some t → args[j]? = some v → Value.okWide Tryz.prog W .any base t v)
    (hW : DataW.Whole enc Tryz.prog Tryz.f7.params.toList Rows.fnExactBackSpec.vars false W args.toList ds gs before) (hR : GB ≤ W.heap.size) :
    Calls Tryz.prog 7 args W fun e W' => ∃ v, e = .returned v ∧ Rows.fnExactBackSpec.post enc Tryz.prog Tryz.f7 false true false false W args v W' := by
  have hW' := hW
  obtain ⟨p, q, hA0, hV, rfl, hfz, hnd⟩ := hW
  have hA : DataW.TrodAll enc Tryz.prog W 0 (fun _ => true) true Tryz.f7.params.toList args.toList ds p := hA0
  rw [Tryz.params7] at hA hval
  obtain ⟨v0, vs0, d0, ds0, p0, q0, hargs, rfl, rfl, h0, r0⟩ := trodAll_cons hA
  obtain ⟨v1, vs1, d1, ds1, p1, q1, e1, rfl, rfl, h1, r1⟩ := trodAll_cons r0
  obtain ⟨v2, vs2, d2, ds2, p2, q2, e2, rfl, rfl, h2, r2⟩ := trodAll_cons r1
  obtain ⟨rfl, rfl, rfl⟩ := trodAll_nil r2
  subst e2
  subst e1
  obtain rfl : args = #[v0, v1, v2] := by cases args; simp_all
  obtain ⟨rfl, rfl⟩ := trodVars_none hV
  have k0 := hval 0 32 v0 rfl rfl
  have k1 := hval 1 3 v1 rfl rfl
  have k2 := hval 2 3 v2 rfl rfl
  have h0k := h0
  have h1k := h1
  have h2k := h2
  obtain ⟨z0, rfl, s0, m0⟩ := open_N k0 h0
  obtain ⟨z1, rfl, rfl, rfl, m1⟩ := open_int Tryz.underlying3 k1 h1
  obtain ⟨z2, rfl, rfl, rfl, m2⟩ := open_int Tryz.underlying3 k2 h2
  have hHas : Has [] W := ⟨by simp, by simp [idsOf], by simp [idsOf], hR, Nat.zero_le _⟩
  have hc := L_Back z0 m0 z1 (bounds_i64 m1) z2 (bounds_i64 m2) W hHas s0
  clear hA0 hA
  refine hc.mono fun e W' h => ?_
  obtain ⟨v, A', rfl, ⟨rfl, rfl⟩, hst⟩ := h
  have hb : Below W.heap.size W W' := ⟨hst.os, hst.tape, hst.output, hst.size, fun k hk => hst.keep k hk (by simp [idsOf])⟩
  simp only [List.append_nil] at hW'
  have hlt := hW'.lt
  refine ⟨_, rfl, post_belowN (pa := p0) (pv := []) hW' (fun _ _ _ => trodAll_cons_mk (shut_bool Tryz.underlying4 _) trodAll_mk0) (fun sp hsp => ?_) (fun _ _ => rfl) (by simp) hb (ok_one (by kernel_rfl) rfl (okWide_bool_mk Tryz.underlying4 _))⟩
  have t0 := WideElems.Trod_stays (W' := W') (sp' := sp) laid_outN (by kernel_rfl) (of_decide_eq_true (by kernel_rfl)) h0k (fun x hx => hb.same (hlt x hx)) (fun x hx => hsp x hx)
  have t1 := WideElems.Trod_stays (W' := W') (sp' := sp) laid_outN (by kernel_rfl) (of_decide_eq_true (by kernel_rfl)) h1k (fun x hx => by cases hx) (fun x hx => by cases hx)
  have t2 := WideElems.Trod_stays (W' := W') (sp' := sp) laid_outN (by kernel_rfl) (of_decide_eq_true (by kernel_rfl)) h2k (fun x hx => by cases hx) (fun x hx => by cases hx)
  have hz_ := trodAll_cons_mk t0 (trodAll_cons_mk t1 (trodAll_cons_mk t2 trodAll_mk0))
  simp only [List.append_nil, List.nil_append] at hz_
  exact hz_

noncomputable def laidWorld_Back (os : Os) : World := World.holding Tryz.prog os ⟨#[], #[], []⟩
def wargs_Back : Array Value := #[.agg #[.slice none 0 0, .slice none 0 0, .slice none 0 0, .string ⟨#[]⟩, .int .i64 0, .int .i64 0, .int .i64 0, .int .i64 0, .slice none 0 0, .slice none 0 0, .bool false], .int .i64 0, .int .i64 0]
theorem laid_met_Back (os : Os) : laidMet Tryz.prog Rows.fnExactBackRow.laid ((laidWorld_Back os).forCall (fun _ _ => 0) ⟨#[], wargs_Back, []⟩).memory :=
  laidMet_of_run' 8 (by kernel_rfl) (by kernel_rfl)
theorem reads_row_Back (os : Os) {H : Type} (enc : TypeId × Value → H) : (OpenSpec.ofChange Rows.fnExactBackSpec).preRow enc Tryz.prog Tryz.f7 Rows.fnExactBackRow.domain false Rows.fnExactBackRow.laid ((laidWorld_Back os).forCall (fun _ _ => 0) ⟨#[], wargs_Back, []⟩).memory wargs_Back := by
  have hw : (DataW.whole enc Tryz.prog ((laidWorld_Back os).forCall (fun _ _ => 0) ⟨#[], wargs_Back, []⟩).memory Tryz.f7.params.toList Rows.fnExactBackSpec.vars false wargs_Back.toList 8).map (fun x => (x.1, x.2.1)) =
      some ([.agg [.nil, .nil, .agg [.nil, .agg [.lit (.string []), .lit (.int .i64 0)]], .lit (.int .i64 0), .lit (.int .i64 0), .lit (.int .i64 0), .nil, .nil, .lit (.bool false)], .lit (.int .i64 0), .lit (.int .i64 0)], []) := by kernel_rfl
  obtain ⟨⟨x1, x2, x3⟩, hx, hx1⟩ := Option.map_eq_some_iff.1 hw
  simp only [Prod.mk.injEq] at hx1
  obtain ⟨rfl, rfl⟩ := hx1
  exact OpenSpec.preRow_of_cond 8 hx (by kernel_rfl) (fun k hk => by cases hk) (by kernel_rfl) (laid_met_Back os)

set_option maxRecDepth 100000 in
theorem lifted_Back (os : Os) (started : os.Started) (H : Type) (enc : TypeId × Value → H) (F : Stop.Interp) :
    ReturnsInHanded {} Tryz.checked os 7 .any ((OpenSpec.ofChange Rows.fnExactBackSpec).preRow enc Tryz.prog Tryz.f7 Rows.fnExactBackRow.domain false Rows.fnExactBackRow.laid) (((OpenSpec.ofChange Rows.fnExactBackSpec).at F).post enc Tryz.prog Tryz.f7 false true false false) := by
  refine returnsInHanded_of_row (C := Tryz.checked) (s := OpenSpec.ofChange Rows.fnExactBackSpec) own_godebugN started (by kernel_rfl) Tryz.func7
    (witness_row_atRef (enc := enc) (C := Tryz.checked) false (laidWorld_Back os) wargs_Back rfl (by kernel_rfl) (by kernel_rfl) (by kernel_rfl) (reads_row_Back os enc)) ?_
  intro W base args ds gs before hval hW _ _ _ _ hsh _
  exact contract_Back H enc W base args ds gs before hval hW (room_ofN hsh)


end Go.Proofs.YtkmpmjficoohkaaGreat
