/-
Texts of the walk, joined: what each one proves stands at its theorems.
-/
import Derived.Test.YthlfmbbaomdciaaGreatDoorLTxAsk
import Derived.Test.YthlfmbbaomdciaaGreatDoorXTxAskOpenN
import Derived.Test.YthlfmbbaomdciaaGreatDoorCards
import Derived.Test.YthlfmbbaomdciaaGreatDoorTie
import Derived.Deep.DeepWitnessRowRef
set_option linter.unusedSimpArgs false
set_option linter.unusedVariables false
set_option linter.unnecessarySimpa false
namespace Go.Proofs.YthlfmbbaomdciaaGreatDoor
open Go Go.RowKit Go.ChangeShapes Go.WideShapes Go.ChangeAt
theorem glob_TxAsk {W : World} (h : laidMetH Tryz.prog Rows.fnExactTxAskRow.laid W) : Glob W :=
 ⟨OneLaid.tab (k := .u64) (zs := Lib.pow10Tab) (laid_get (laid := Rows.fnExactTxAskRow.laid) (show laidMet _ _ _ from h) 2 rfl) named1 (by kernel_rfl) Tryz.underlying308 Tryz.underlying297 (by kernel_rfl) (by kernel_rfl),
   OneLaid.iface (laid_get (laid := Rows.fnExactTxAskRow.laid) (show laidMet _ _ _ from h) 4 rfl) named2 (by kernel_rfl) Tryz.underlying293, OneLaid.iface (laid_get (laid := Rows.fnExactTxAskRow.laid) (show laidMet _ _ _ from h) 3 rfl) named3 (by kernel_rfl) Tryz.underlying293⟩
theorem hex_TxAsk {W : World} (h : laidMetH Tryz.prog Rows.fnExactTxAskRow.laid W) : HexOk W := OneLaid.iface (laid_get (laid := Rows.fnExactTxAskRow.laid) (show laidMet _ _ _ from h) 5 rfl) named4 (by kernel_rfl) Tryz.underlying293

attribute [local irreducible] Value.okWide DataW.Trod in
theorem contract_TxAsk (H : Type) (enc : TypeId × Value → H) (W : World) (base : Nat) (args : Array Value) (ds gs : List (DataW H)) (before : List MemPlace)
   (hval : ∀ (j : Nat) t v, Tryz.f12.params[j]? = some t → args[j]? = some v → Value.okWide Tryz.prog W .any base t v)
   (hW : DataW.Whole enc Tryz.prog Tryz.f12.params.toList Rows.fnExactTxAskSpec.vars false W args.toList ds gs before) (hL : laidMetH Tryz.prog Rows.fnExactTxAskRow.laid W) (hR : GB ≤ W.heap.size) :
   Calls Tryz.prog 12 args W fun e W' => ∃ v, e = .returned v ∧ Rows.fnExactTxAskSpec.post enc Tryz.prog Tryz.f12 false true false false W args v W' := by
 have hW' := hW
 obtain ⟨p, q, hA0, hV, rfl, hfz, hnd⟩ := hW
 have hA : DataW.TrodAll enc Tryz.prog W 0 (fun _ => true) true Tryz.f12.params.toList args.toList ds p := hA0
 rw [Tryz.params12] at hA hval
 obtain ⟨v0, vs0, d0, ds0, p0, q0, hargs, rfl, rfl, h0, r0⟩ := trodAll_cons hA
 obtain ⟨v1, vs1, d1, ds1, p1, q1, e1, rfl, rfl, h1, r1⟩ := trodAll_cons r0
 obtain ⟨v2, vs2, d2, ds2, p2, q2, e2, rfl, rfl, h2, r2⟩ := trodAll_cons r1
 obtain ⟨rfl, rfl, rfl⟩ := trodAll_nil r2
 subst e2
 subst e1
 obtain rfl : args = #[v0, v1, v2] := by cases args; simp_all
 obtain ⟨rfl, rfl⟩ := trodVars_none hV
 have k0 := hval 0 109 v0 rfl rfl
 have k1 := hval 1 114 v1 rfl rfl
 have k2 := hval 2 115 v2 rfl rfl
 have h0k := h0
 have h1k := h1
 have h2k := h2
 obtain ⟨a0, c0_, w0, rfl, s0, m0⟩ := open_C k0 h0
 obtain ⟨z1, rfl, s1, m1, b1⟩ := open_X k1 h1
 obtain ⟨z2, rfl, m2⟩ := open_K k2 h2
 have hHas : Has [] W := ⟨by simp, by simp [idsOf], by simp [idsOf], hR, glob_TxAsk hL⟩
 have hc := L_TxAsk a0 c0_ w0 m0 z1 m1 b1 z2 m2 W hHas ⟨s0, s1, hex_TxAsk hL⟩
 clear hA0 hA
 refine hc.mono fun e W' h => ?_
 obtain ⟨v, A', rfl, ⟨rfl, rfl⟩, hst⟩ := h
 have hb : Below W.heap.size W W' := ⟨hst.os, hst.tape, hst.output, hst.size, fun k hk => hst.keep k hk (by simp [idsOf])⟩
 simp only [List.append_nil] at hW'
 have hlt := hW'.lt
 refine ⟨_, rfl, post_below (pa := p0 ++ (p1 ++ p2)) (pv := []) hW' (fun _ _ _ => trodAll_cons_mk (shut_bool Tryz.underlying4 _) trodAll_mk0) (fun sp hsp => ?_) (fun _ _ => rfl) (by simp) hb (ok_one (by kernel_rfl) rfl (okWide_bool_mk Tryz.underlying4 _))⟩
 have t0 := WideElems.Trod_stays (W' := W') (sp' := sp) laid_out (by kernel_rfl) (of_decide_eq_true (by kernel_rfl)) h0k (fun x hx => hb.same (hlt x (by simp [hx]))) (fun x hx => hsp x (by simp [hx]))
 have t1 := WideElems.Trod_stays (W' := W') (sp' := sp) laid_out (by kernel_rfl) (of_decide_eq_true (by kernel_rfl)) h1k (fun x hx => hb.same (hlt x (by simp [hx]))) (fun x hx => hsp x (by simp [hx]))
 have t2 := WideElems.Trod_stays (W' := W') (sp' := sp) laid_out (by kernel_rfl) (of_decide_eq_true (by kernel_rfl)) h2k (fun x hx => hb.same (hlt x (by simp [hx]))) (fun x hx => hsp x (by simp [hx]))
 have hz_ := trodAll_cons_mk t0 (trodAll_cons_mk t1 (trodAll_cons_mk t2 trodAll_mk0))
 simp only [List.append_nil, List.nil_append] at hz_
 exact hz_

noncomputable def laidWorld_TxAsk (os : Os) : World :=
 let w0 := World.holding Tryz.prog os ⟨#[], #[], []⟩
 let put (h : Array Obj) (g : Nat) (cs : Array Value) : Array Obj := h.modify g fun
   | .cells _ t frozen => .cells cs t frozen
   | o => o
 let n := w0.heap.size
 let h0 := w0.heap ++ #[.cells #[.string ⟨#[118, 97, 108, 117, 101, 32, 111, 117, 116, 32, 111, 102, 32, 114, 97, 110, 103, 101]⟩] 332 (0, 0), .cells #[.string ⟨#[105, 110, 118, 97, 108, 105, 100, 32, 115, 121, 110, 116, 97, 120]⟩] 332 (0, 0), .cells #[.string ⟨#[101, 110, 99, 111, 100, 105, 110, 103, 47, 104, 101, 120, 58, 32, 111, 100, 100, 32, 108, 101, 110, 103, 116, 104, 32, 104, 101, 120, 32, 115, 116, 114, 105, 110, 103]⟩] 332 (0, 0)]
 let h1 := put h0 4 (litsOf (Rows.laid_math_bits_deBruijn32tab (H := Unit))).toArray
 let h2 := put h1 5 (litsOf (Rows.laid_math_bits_deBruijn64tab (H := Unit))).toArray
 let h3 := put h2 0 (litsOf (Rows.laid_internal_strconv_uint64pow10 (H := Unit))).toArray
 let h4 := put h3 3 #[.iface 330 (.pointer (some ⟨n + 0, 0, none⟩))]
 let h5 := put h4 2 #[.iface 330 (.pointer (some ⟨n + 1, 0, none⟩))]
 let h6 := put h5 1 #[.iface 330 (.pointer (some ⟨n + 2, 0, none⟩))]
 { w0 with heap := h6 }
def wargs_TxAsk : Array Value := #[.slice none 0 0, .agg #[.int .i64 0, .int .i64 0, .int .i64 0, .int .i64 0, .slice none 0 0, .slice none 0 0, .slice none 0 0, .slice none 0 0, .slice none 0 0, .int .i64 0], .agg #[.int .i64 0, .string ⟨#[]⟩, .string ⟨#[]⟩, .int .i64 0, .int .i64 0, .string ⟨#[]⟩]]
theorem laid_met_TxAsk (os : Os) : laidMet Tryz.prog Rows.fnExactTxAskRow.laid ((laidWorld_TxAsk os).forCall (fun _ _ => 0) ⟨#[], wargs_TxAsk, []⟩).memory :=
 laidMet_of_run' 8 (by kernel_rfl) (by kernel_rfl)
theorem reads_row_TxAsk (os : Os) {H : Type} (enc : TypeId × Value → H) : (OpenSpec.ofChange Rows.fnExactTxAskSpec).preRow enc Tryz.prog Tryz.f12 Rows.fnExactTxAskRow.domain false Rows.fnExactTxAskRow.laid ((laidWorld_TxAsk os).forCall (fun _ _ => 0) ⟨#[], wargs_TxAsk, []⟩).memory wargs_TxAsk := by
 have hw : (DataW.whole enc Tryz.prog ((laidWorld_TxAsk os).forCall (fun _ _ => 0) ⟨#[], wargs_TxAsk, []⟩).memory Tryz.f12.params.toList Rows.fnExactTxAskSpec.vars false wargs_TxAsk.toList 8).map (fun x => (x.1, x.2.1)) =
     some ([.nil, .agg [.lit (.int .i64 0), .lit (.int .i64 0), .lit (.int .i64 0), .lit (.int .i64 0), .nil, .nil, .agg [.nil, .nil], .nil, .lit (.int .i64 0)], .agg [.lit (.int .i64 0), .lit (.string []), .lit (.string []), .lit (.int .i64 0), .lit (.int .i64 0), .lit (.string [])]], []) := by kernel_rfl
 obtain ⟨⟨x1, x2, x3⟩, hx, hx1⟩ := Option.map_eq_some_iff.1 hw
 simp only [Prod.mk.injEq] at hx1
 obtain ⟨rfl, rfl⟩ := hx1
 exact OpenSpec.preRow_of_cond 8 hx (by kernel_rfl) (fun k hk => by cases hk) (by kernel_rfl) (laid_met_TxAsk os)

set_option maxRecDepth 100000 in
theorem lifted_TxAsk (os : Os) (started : os.Started) (H : Type) (enc : TypeId × Value → H) (F : Stop.Interp) :
   ReturnsInHanded {} Tryz.checked os 12 .any ((OpenSpec.ofChange Rows.fnExactTxAskSpec).preRow enc Tryz.prog Tryz.f12 Rows.fnExactTxAskRow.domain false Rows.fnExactTxAskRow.laid) (((OpenSpec.ofChange Rows.fnExactTxAskSpec).at F).post enc Tryz.prog Tryz.f12 false true false false) := by
 refine returnsInHanded_of_row (C := Tryz.checked) (s := OpenSpec.ofChange Rows.fnExactTxAskSpec) own_godebug started (by kernel_rfl) Tryz.func12
   (witness_row_atRef (enc := enc) (C := Tryz.checked) false (laidWorld_TxAsk os) wargs_TxAsk rfl (by kernel_rfl) (by kernel_rfl) (by kernel_rfl) (reads_row_TxAsk os enc)) ?_
 intro W base args ds gs before hval hW _ _ _ hL hsh _
 exact contract_TxAsk H enc W base args ds gs before hval hW hL (room_of hsh)
end Go.Proofs.YthlfmbbaomdciaaGreatDoor
