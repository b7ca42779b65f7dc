/-
Texts of the walk, joined: what each one proves stands at its theorems.
-/
import Derived.Test.YthlfmbbaomdciaaGreatDoorLClashing
import Derived.Test.YthlfmbbaomdciaaGreatDoorCards
import Derived.Test.YthlfmbbaomdciaaGreatDoorTie
import Derived.ChangeMaps5
import Derived.Deep.DeepWitnessRowRef
set_option linter.unusedSimpArgs false
set_option linter.unusedVariables false
set_option linter.unnecessarySimpa false
namespace Go.Proofs.YthlfmbbaomdciaaGreatDoor
open Go Go.RowKit Go.ChangeShapes Go.WideShapes Go.ChangeAt
theorem glob_Clashing {W : World} (h : laidMetH Tryz.prog Rows.fnClashingRow.laid W) : Glob W :=
 ⟨OneLaid.tab (k := .u64) (zs := Lib.pow10Tab) (laid_get (laid := Rows.fnClashingRow.laid) (show laidMet _ _ _ from h) 2 rfl) named1 (by kernel_rfl) Tryz.underlying308 Tryz.underlying297 (by kernel_rfl) (by kernel_rfl),
   OneLaid.iface (laid_get (laid := Rows.fnClashingRow.laid) (show laidMet _ _ _ from h) 4 rfl) named2 (by kernel_rfl) Tryz.underlying293, OneLaid.iface (laid_get (laid := Rows.fnClashingRow.laid) (show laidMet _ _ _ from h) 3 rfl) named3 (by kernel_rfl) Tryz.underlying293⟩
theorem hex_Clashing {W : World} (h : laidMetH Tryz.prog Rows.fnClashingRow.laid W) : HexOk W := OneLaid.iface (laid_get (laid := Rows.fnClashingRow.laid) (show laidMet _ _ _ from h) 5 rfl) named4 (by kernel_rfl) Tryz.underlying293

attribute [local irreducible] Value.okWide DataW.Trod in
theorem contract_Clashing (H : Type) (enc : TypeId × Value → H) (W : World) (base : Nat) (args : Array Value) (ds gs : List (DataW H)) (before : List MemPlace)
   (hval : ∀ (j : Nat) t v, Tryz.f11.params[j]? = some t → args[j]? = some v → Value.okWide Tryz.prog W .any base t v)
   (hW : DataW.Whole enc Tryz.prog Tryz.f11.params.toList Rows.fnClashingSpec.vars false W args.toList ds gs before) (hL : laidMetH Tryz.prog Rows.fnClashingRow.laid W) (hR : GB ≤ W.heap.size) :
   Calls Tryz.prog 11 args W fun e W' => ∃ v, e = .returned v ∧ Rows.fnClashingSpec.post enc Tryz.prog Tryz.f11 false true false false W args v W' := by
 have hW' := hW
 obtain ⟨p, q, hA0, hV, rfl, hfz, hnd⟩ := hW
 have hA : DataW.TrodAll enc Tryz.prog W 0 (fun _ => true) true Tryz.f11.params.toList args.toList ds p := hA0
 rw [Tryz.params11] at hA hval
 obtain ⟨v0, vs0, d0, ds0, p0, q0, hargs, rfl, rfl, h0, r0⟩ := trodAll_cons hA
 obtain ⟨rfl, rfl, rfl⟩ := trodAll_nil r0
 obtain rfl : args = #[v0] := by cases args; simp_all
 obtain ⟨rfl, rfl⟩ := trodVars_none hV
 have k0 := hval 0 22 v0 rfl rfl
 have h0k := h0
 obtain ⟨a0, c0_, w0, rfl, s0, ok0⟩ := open_bytes k0 h0
 have hHas : Has [] W := ⟨by simp, by simp [idsOf], by simp [idsOf], hR, glob_Clashing hL⟩
 have hc := L_Clashing a0 c0_ w0 W hHas ⟨s0, hex_Clashing hL⟩
 clear hA0 hA
 refine hc.mono fun e W' h => ?_
 obtain ⟨v, A', rfl, ⟨rfl, rfl⟩, hst⟩ := h
 have hb : Below W.heap.size W W' := ⟨hst.os, hst.tape, hst.output, hst.size, fun k hk => hst.keep k hk (by simp [idsOf])⟩
 simp only [List.append_nil] at hW'
 have hlt := hW'.lt
 refine ⟨_, rfl, post_below (pa := p0) (pv := []) hW' (fun _ _ _ => trodAll_cons_mk (shut_bool Tryz.underlying4 _) trodAll_mk0) (fun sp hsp => ?_) (fun _ _ => rfl) (by simp) hb (ok_one (by kernel_rfl) rfl (okWide_bool_mk Tryz.underlying4 _))⟩
 have t0 := WideElems.Trod_stays (W' := W') (sp' := sp) laid_out (by kernel_rfl) (of_decide_eq_true (by kernel_rfl)) h0k (fun x hx => hb.same (hlt x hx)) (fun x hx => hsp x hx)
 have hz_ := trodAll_cons_mk t0 trodAll_mk0
 simp only [List.append_nil, List.nil_append] at hz_
 exact hz_

noncomputable def laidWorld_Clashing (os : Os) : World :=
 let w0 := World.holding Tryz.prog os ⟨#[], #[], []⟩
 let put (h : Array Obj) (g : Nat) (cs : Array Value) : Array Obj := h.modify g fun
   | .cells _ t frozen => .cells cs t frozen
   | o => o
 let n := w0.heap.size
 let h0 := w0.heap ++ #[.cells #[.string ⟨#[118, 97, 108, 117, 101, 32, 111, 117, 116, 32, 111, 102, 32, 114, 97, 110, 103, 101]⟩] 332 (0, 0), .cells #[.string ⟨#[105, 110, 118, 97, 108, 105, 100, 32, 115, 121, 110, 116, 97, 120]⟩] 332 (0, 0), .cells #[.string ⟨#[101, 110, 99, 111, 100, 105, 110, 103, 47, 104, 101, 120, 58, 32, 111, 100, 100, 32, 108, 101, 110, 103, 116, 104, 32, 104, 101, 120, 32, 115, 116, 114, 105, 110, 103]⟩] 332 (0, 0)]
 let h1 := put h0 4 (litsOf (Rows.laid_math_bits_deBruijn32tab (H := Unit))).toArray
 let h2 := put h1 5 (litsOf (Rows.laid_math_bits_deBruijn64tab (H := Unit))).toArray
 let h3 := put h2 0 (litsOf (Rows.laid_internal_strconv_uint64pow10 (H := Unit))).toArray
 let h4 := put h3 3 #[.iface 330 (.pointer (some ⟨n + 0, 0, none⟩))]
 let h5 := put h4 2 #[.iface 330 (.pointer (some ⟨n + 1, 0, none⟩))]
 let h6 := put h5 1 #[.iface 330 (.pointer (some ⟨n + 2, 0, none⟩))]
 { w0 with heap := h6 }
def wargs_Clashing : Array Value := #[.slice none 0 0]
theorem laid_met_Clashing (os : Os) : laidMet Tryz.prog Rows.fnClashingRow.laid ((laidWorld_Clashing os).forCall (fun _ _ => 0) ⟨#[], wargs_Clashing, []⟩).memory :=
 laidMet_of_run' 8 (by kernel_rfl) (by kernel_rfl)
theorem reads_row_Clashing (os : Os) {H : Type} (enc : TypeId × Value → H) : (OpenSpec.ofChange Rows.fnClashingSpec).preRow enc Tryz.prog Tryz.f11 Rows.fnClashingRow.domain false Rows.fnClashingRow.laid ((laidWorld_Clashing os).forCall (fun _ _ => 0) ⟨#[], wargs_Clashing, []⟩).memory wargs_Clashing := by
 have hw : (DataW.whole enc Tryz.prog ((laidWorld_Clashing os).forCall (fun _ _ => 0) ⟨#[], wargs_Clashing, []⟩).memory Tryz.f11.params.toList Rows.fnClashingSpec.vars false wargs_Clashing.toList 8).map (fun x => (x.1, x.2.1)) =
     some ([.nil], []) := by kernel_rfl
 obtain ⟨⟨x1, x2, x3⟩, hx, hx1⟩ := Option.map_eq_some_iff.1 hw
 simp only [Prod.mk.injEq] at hx1
 obtain ⟨rfl, rfl⟩ := hx1
 exact OpenSpec.preRow_of_cond 8 hx (by kernel_rfl) (fun k hk => by cases hk) (by kernel_rfl) (laid_met_Clashing os)

set_option maxRecDepth 100000 in
theorem lifted_Clashing (os : Os) (started : os.Started) (H : Type) (enc : TypeId × Value → H) (F : Stop.Interp) :
   ReturnsInHanded {} Tryz.checked os 11 .any ((OpenSpec.ofChange Rows.fnClashingSpec).preRow enc Tryz.prog Tryz.f11 Rows.fnClashingRow.domain false Rows.fnClashingRow.laid) (((OpenSpec.ofChange Rows.fnClashingSpec).at F).post enc Tryz.prog Tryz.f11 false true false false) := by
 refine returnsInHanded_of_row (C := Tryz.checked) (s := OpenSpec.ofChange Rows.fnClashingSpec) own_godebug started (by kernel_rfl) Tryz.func11
   (witness_row_atRef (enc := enc) (C := Tryz.checked) false (laidWorld_Clashing os) wargs_Clashing rfl (by kernel_rfl) (by kernel_rfl) (by kernel_rfl) (reads_row_Clashing os enc)) ?_
 intro W base args ds gs before hval hW _ _ _ hL hsh _
 exact contract_Clashing H enc W base args ds gs before hval hW hL (room_of hsh)
end Go.Proofs.YthlfmbbaomdciaaGreatDoor
