/-
  FnExactBumped: the contract over whatever is handed in.
-/
import Derived.Test.YtndahpodgmecnaaGreatDoorLd
import Derived.Test.YtndahpodgmecnaaGreatDoorS12BUMPED
import Derived.ChangeMaps5
set_option linter.unusedSimpArgs false
set_option linter.unusedVariables false
set_option linter.unnecessarySimpa false
namespace Go.Proofs.YtndahpodgmecnaaGreatDoor
open Go Go.RowKit Go.ChangeShapes Go.WideShapes Go.ChangeAt

theorem laid_out : laidOutB Tryz.prog = true := by kernel_rfl
theorem glob_of {W : World} (h : laidMetH Tryz.prog Rows.fnExactBumpedRow.laid W) : Glob W ∧ GB ≤ W.heap.size := by
  have h5 : OneLaid Tryz.prog W "math/bits.deBruijn32tab" Rows.laid_math_bits_deBruijn32tab ∧ OneLaid Tryz.prog W "math/bits.deBruijn64tab" Rows.laid_math_bits_deBruijn64tab ∧ OneLaid Tryz.prog W "internal/strconv.uint64pow10" Rows.laid_internal_strconv_uint64pow10 ∧ OneLaid Tryz.prog W "strconv.ErrRange" Rows.laid_strconv_ErrRange ∧ OneLaid Tryz.prog W "strconv.ErrSyntax" Rows.laid_strconv_ErrSyntax := laid5 h
  obtain ⟨l1, l2, l3, l4, l5⟩ := h5
  refine ⟨⟨?_, ?_, ?_⟩, ?_⟩
  · exact OneLaid.tab (k := .u64) (zs := Lib.pow10Tab) l3 named1 (by kernel_rfl) Tryz.underlying157 Tryz.underlying139 (by kernel_rfl) (by kernel_rfl)
  · exact OneLaid.iface l5 named2 (by kernel_rfl) Tryz.underlying98
  · exact OneLaid.iface l4 named3 (by kernel_rfl) Tryz.underlying98
  · have h1 := OneLaid.room l1 (show Tryz.prog.globalNamed "math/bits.deBruijn32tab" = some 3 by kernel_rfl)
    have h2 := OneLaid.room l2 (show Tryz.prog.globalNamed "math/bits.deBruijn64tab" = some 4 by kernel_rfl)
    unfold GB
    omega

attribute [local irreducible] Value.okWide DataW.Trod in
theorem fb_contract (H : Type) (enc : TypeId × Value → H) (W : World) (base : Nat) (args : Array Value) (ds gs : List (DataW H)) (before : List MemPlace)
    (hval : ∀ (j : Nat) t v, Tryz.f4.params[j]? = some t → args[j]? = some v → Value.okWide Tryz.prog W .any base t v)
    (hW : DataW.Whole enc Tryz.prog Tryz.f4.params.toList Rows.fnExactBumpedSpec.vars false W args.toList ds gs before) (hL : laidMetH Tryz.prog Rows.fnExactBumpedRow.laid W) :
    Calls Tryz.prog 4 args W fun e W' => ∃ v, e = .returned v ∧ Rows.fnExactBumpedSpec.post enc Tryz.prog Tryz.f4 false true false false W args v W' := by
  have hW' := hW
  obtain ⟨p, q, hA0, hV, rfl, hfz, hnd⟩ := hW
  have hA : DataW.TrodAll enc Tryz.prog W 0 (fun _ => true) true Tryz.f4.params.toList args.toList ds p := hA0
  rw [Tryz.params4] at hA hval
  obtain ⟨v0, vs0, d0, ds0, p0, q0, hargs, rfl, rfl, h0, r0⟩ := trodAll_cons hA
  obtain ⟨v1, vs1, d1, ds1, p1, q1, e1, rfl, rfl, h1, r1⟩ := trodAll_cons r0
  obtain ⟨rfl, rfl, rfl⟩ := trodAll_nil r1
  subst e1
  obtain rfl : args = #[v0, v1] := by cases args; simp_all
  obtain ⟨rfl, rfl⟩ := trodVars_none hV
  have k0 := hval 0 48 v0 rfl rfl
  have k1 := hval 1 9 v1 rfl rfl
  have h0k := h0
  have h1k := h1
  obtain ⟨a0, c0_, a1, c1, a2, c2, m, rfl, s0, s1, s2, ok0, ok1, ok2⟩ := open_mach k0 h0
  obtain ⟨sv, rfl, rfl, rfl, hsz⟩ := Go.ChangeMaps.open_string Tryz.underlying9 k1 h1
  obtain ⟨hG, hR⟩ := glob_of hL
  have hHas : Has [] W := ⟨by simp, by simp [idsOf], by simp [idsOf], hR, hG⟩
  have hlen : sv.data.toList.length ≤ 9223372036854775807 := by
    have : sv.size = sv.data.toList.length := Array.length_toList.symm
    unfold maxLen at hsz
    omega
  have hc := C_law a0 a1 a2 c0_ c1 c2 m sv.data.toList hlen ok0 ok1 ok2 W hHas ⟨s0, s1, s2⟩
  have hstr : str sv.data.toList = .string sv := by simp [str]
  rw [hstr] at hc
  clear hA0 hA
  refine hc.mono fun e W' h => ?_
  obtain ⟨v, A', rfl, ⟨rfl, rfl⟩, hst⟩ := h
  have hb : Below W.heap.size W W' := ⟨hst.os, hst.tape, hst.output, hst.size, fun k hk => hst.keep k hk (by simp [idsOf])⟩
  simp only [List.append_nil] at hW'
  have hlt := hW'.lt
  refine ⟨_, rfl, post_below (pa := p0) (pv := []) hW' (fun _ _ _ => trodAll_cons_mk (shut_bool Tryz.underlying4 _) trodAll_mk0) (fun sp hsp => ?_) (fun _ _ => rfl) (by simp) hb (ok_one (by kernel_rfl) rfl (okWide_bool_mk Tryz.underlying4 _))⟩
  have t0 := WideElems.Trod_stays (W' := W') (sp' := sp) laid_out (by kernel_rfl) (of_decide_eq_true (by kernel_rfl)) h0k (fun x hx => hb.same (hlt x hx)) (fun x hx => hsp x hx)
  have t1 := WideElems.Trod_stays (W' := W') (sp' := sp) laid_out (by kernel_rfl) (of_decide_eq_true (by kernel_rfl)) h1k (fun x hx => by cases hx) (fun x hx => by cases hx)
  have := trodAll_mk2 t0 t1
  rw [List.append_nil] at this
  exact this
end Go.Proofs.YtndahpodgmecnaaGreatDoor
