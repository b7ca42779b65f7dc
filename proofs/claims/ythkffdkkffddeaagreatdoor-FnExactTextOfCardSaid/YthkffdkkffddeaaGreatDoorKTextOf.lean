/-
  laws.FnExactTextOf: the statement and its card: for every machine and every other argument the law returns true, and the arguments read as they did. Conditions: the package-level variables that the row lists hold what it lists.
-/
import Derived.Test.YthkffdkkffddeaaGreatDoorLd
import Derived.Test.YthkffdkkffddeaaGreatDoorLTextOf
import Derived.Test.YthkffdkkffddeaaGreatDoorCards
import Derived.Test.YthkffdkkffddeaaGreatDoorTie
import Derived.ChangeMaps5
import Derived.Deep.DeepWitnessRowRef
set_option linter.unusedSimpArgs false
set_option linter.unusedVariables false
set_option linter.unnecessarySimpa false
namespace Go.Proofs.YthkffdkkffddeaaGreatDoor
open Go Go.RowKit Go.ChangeShapes Go.WideShapes Go.ChangeAt

theorem glob_TextOf {W : World} (h : laidMetH Tryz.prog Rows.fnExactTextOfRow.laid W) : Glob W :=
  ⟨OneLaid.tab (k := .u64) (zs := Lib.pow10Tab) (laid_get (laid := Rows.fnExactTextOfRow.laid) (show laidMet _ _ _ from h) 2 rfl) named1 (by kernel_rfl) Tryz.underlying166 Tryz.underlying153 (by kernel_rfl) (by kernel_rfl),
    OneLaid.iface (laid_get (laid := Rows.fnExactTextOfRow.laid) (show laidMet _ _ _ from h) 4 rfl) named2 (by kernel_rfl) Tryz.underlying129, OneLaid.iface (laid_get (laid := Rows.fnExactTextOfRow.laid) (show laidMet _ _ _ from h) 3 rfl) named3 (by kernel_rfl) Tryz.underlying129⟩
theorem hex_TextOf {W : World} (h : laidMetH Tryz.prog Rows.fnExactTextOfRow.laid W) : HexOk W := OneLaid.iface (laid_get (laid := Rows.fnExactTextOfRow.laid) (show laidMet _ _ _ from h) 5 rfl) named4 (by kernel_rfl) Tryz.underlying129

attribute [local irreducible] Value.okWide DataW.Trod in
theorem contract_TextOf (H : Type) (enc : TypeId × Value → H) (W : World) (base : Nat) (args : Array Value) (ds gs : List (DataW H)) (before : List MemPlace)
    (hval : ∀ (j : Nat) t v, Tryz.f9.params[j]? = some t → args[j]? = some v → Value.okWide Tryz.prog W .any base t v)
    (hW : DataW.Whole enc Tryz.prog Tryz.f9.params.toList Rows.fnExactTextOfSpec.vars false W args.toList ds gs before) (hL : laidMetH Tryz.prog Rows.fnExactTextOfRow.laid W) (hR : GB ≤ W.heap.size) :
    Calls Tryz.prog 9 args W fun e W' => ∃ v, e = .returned v ∧ Rows.fnExactTextOfSpec.post enc Tryz.prog Tryz.f9 false true false false W args v W' := by
  have hW' := hW
  obtain ⟨p, q, hA0, hV, rfl, hfz, hnd⟩ := hW
  have hA : DataW.TrodAll enc Tryz.prog W 0 (fun _ => true) true Tryz.f9.params.toList args.toList ds p := hA0
  rw [Tryz.params9] at hA hval
  obtain ⟨v0, vs0, d0, ds0, p0, q0, hargs, rfl, rfl, h0, r0⟩ := trodAll_cons hA
  obtain ⟨v1, vs1, d1, ds1, p1, q1, e1, rfl, rfl, h1, r1⟩ := trodAll_cons r0
  obtain ⟨rfl, rfl, rfl⟩ := trodAll_nil r1
  subst e1
  obtain rfl : args = #[v0, v1] := by cases args; simp_all
  obtain ⟨rfl, rfl⟩ := trodVars_none hV
  have k0 := hval 0 27 v0 rfl rfl
  have k1 := hval 1 3 v1 rfl rfl
  have h0k := h0
  have h1k := h1
  obtain ⟨a0, c0_, a1, c1, a2, c2, m, rfl, s0, s1, s2, ok0, ok1, ok2⟩ := open_mach k0 h0
  obtain ⟨w1, rfl, rfl, rfl, hz1⟩ := open_int Tryz.underlying3 k1 h1
  have hHas : Has [] W := ⟨by simp, by simp [idsOf], by simp [idsOf], hR, glob_TextOf hL⟩
  have hc := L_TextOf ⟨a0, c0_, a1, c1, a2, c2⟩ m w1 (bounds_i64 hz1) ok0 ok1 ok2 W hHas ⟨⟨s0, s1, s2⟩, hex_TextOf hL⟩
  clear hA0 hA
  refine hc.mono fun e W' h => ?_
  obtain ⟨v, A', rfl, ⟨rfl, rfl⟩, hst⟩ := h
  have hb : Below W.heap.size W W' := ⟨hst.os, hst.tape, hst.output, hst.size, fun k hk => hst.keep k hk (by simp [idsOf])⟩
  simp only [List.append_nil] at hW'
  have hlt := hW'.lt
  refine ⟨_, rfl, post_below (pa := p0) (pv := []) hW' (fun _ _ _ => trodAll_cons_mk (shut_bool Tryz.underlying4 _) trodAll_mk0) (fun sp hsp => ?_) (fun _ _ => rfl) (by simp) hb (ok_one (by kernel_rfl) rfl (okWide_bool_mk Tryz.underlying4 _))⟩
  have t0 := WideElems.Trod_stays (W' := W') (sp' := sp) laid_out (by kernel_rfl) (of_decide_eq_true (by kernel_rfl)) h0k (fun x hx => hb.same (hlt x hx)) (fun x hx => hsp x hx)
  have t1 := WideElems.Trod_stays (W' := W') (sp' := sp) laid_out (by kernel_rfl) (of_decide_eq_true (by kernel_rfl)) h1k (fun x hx => by cases hx) (fun x hx => by cases hx)
  have hz_ := trodAll_cons_mk t0 (trodAll_cons_mk t1 trodAll_mk0)
  simp only [List.append_nil, List.nil_append] at hz_
  exact hz_

noncomputable def laidWorld_TextOf (os : Os) : World :=
  let w0 := World.holding Tryz.prog os ⟨#[], #[], []⟩
  let put (h : Array Obj) (g : Nat) (cs : Array Value) : Array Obj := h.modify g fun
    | .cells _ t frozen => .cells cs t frozen
    | o => o
  let n := w0.heap.size
  let h0 := w0.heap ++ #[.cells #[.string ⟨#[118, 97, 108, 117, 101, 32, 111, 117, 116, 32, 111, 102, 32, 114, 97, 110, 103, 101]⟩] 174 (0, 0), .cells #[.string ⟨#[105, 110, 118, 97, 108, 105, 100, 32, 115, 121, 110, 116, 97, 120]⟩] 174 (0, 0), .cells #[.string ⟨#[101, 110, 99, 111, 100, 105, 110, 103, 47, 104, 101, 120, 58, 32, 111, 100, 100, 32, 108, 101, 110, 103, 116, 104, 32, 104, 101, 120, 32, 115, 116, 114, 105, 110, 103]⟩] 174 (0, 0)]
  let h1 := put h0 4 (litsOf (Rows.laid_math_bits_deBruijn32tab (H := Unit))).toArray
  let h2 := put h1 5 (litsOf (Rows.laid_math_bits_deBruijn64tab (H := Unit))).toArray
  let h3 := put h2 3 (litsOf (Rows.laid_internal_strconv_uint64pow10 (H := Unit))).toArray
  let h4 := put h3 2 #[.iface 172 (.pointer (some ⟨n + 0, 0, none⟩))]
  let h5 := put h4 1 #[.iface 172 (.pointer (some ⟨n + 1, 0, none⟩))]
  let h6 := put h5 0 #[.iface 172 (.pointer (some ⟨n + 2, 0, none⟩))]
  { w0 with heap := h6 }
def wargs_TextOf : Array Value := #[.agg #[.slice none 0 0, .slice none 0 0, .slice none 0 0], .int .i64 0]
theorem laid_met_TextOf (os : Os) : laidMet Tryz.prog Rows.fnExactTextOfRow.laid ((laidWorld_TextOf os).forCall (fun _ _ => 0) ⟨#[], wargs_TextOf, []⟩).memory :=
  laidMet_of_run' 8 (by kernel_rfl) (by kernel_rfl)
theorem reads_row_TextOf (os : Os) {H : Type} (enc : TypeId × Value → H) : (OpenSpec.ofChange Rows.fnExactTextOfSpec).preRow enc Tryz.prog Tryz.f9 Rows.fnExactTextOfRow.domain false Rows.fnExactTextOfRow.laid ((laidWorld_TextOf os).forCall (fun _ _ => 0) ⟨#[], wargs_TextOf, []⟩).memory wargs_TextOf := by
  have hw : (DataW.whole enc Tryz.prog ((laidWorld_TextOf os).forCall (fun _ _ => 0) ⟨#[], wargs_TextOf, []⟩).memory Tryz.f9.params.toList Rows.fnExactTextOfSpec.vars false wargs_TextOf.toList 8).map (fun x => (x.1, x.2.1)) =
      some ([.agg [.nil, .agg [.nil, .nil]], .lit (.int .i64 0)], []) := by kernel_rfl
  obtain ⟨⟨x1, x2, x3⟩, hx, hx1⟩ := Option.map_eq_some_iff.1 hw
  simp only [Prod.mk.injEq] at hx1
  obtain ⟨rfl, rfl⟩ := hx1
  exact OpenSpec.preRow_of_cond 8 hx (by kernel_rfl) (fun k hk => by cases hk) (by kernel_rfl) (laid_met_TextOf os)

set_option maxRecDepth 100000 in
theorem lifted_TextOf (os : Os) (started : os.Started) (H : Type) (enc : TypeId × Value → H) (F : Stop.Interp) :
    ReturnsInHanded {} Tryz.checked os 9 .any ((OpenSpec.ofChange Rows.fnExactTextOfSpec).preRow enc Tryz.prog Tryz.f9 Rows.fnExactTextOfRow.domain false Rows.fnExactTextOfRow.laid) (((OpenSpec.ofChange Rows.fnExactTextOfSpec).at F).post enc Tryz.prog Tryz.f9 false true false false) := by
  refine returnsInHanded_of_row (C := Tryz.checked) (s := OpenSpec.ofChange Rows.fnExactTextOfSpec) own_godebug started (by kernel_rfl) Tryz.func9
    (witness_row_atRef (enc := enc) (C := Tryz.checked) false (laidWorld_TextOf os) wargs_TextOf rfl (by kernel_rfl) (by kernel_rfl) (by kernel_rfl) (reads_row_TextOf os enc)) ?_
  intro W base args ds gs before hval hW _ _ _ hL hsh _
  exact contract_TextOf H enc W base args ds gs before hval hW hL (room_of hsh)

theorem cl0_fnExactTextOf : ((Rows.fnExactTextOfRow.wf (OpenSpec.ofChange (OpenSpec.ofChange Rows.fnExactTextOfSpec).bare)) && (laidOutB Tryz.pinned.checked.prog) && (mapsRowed Tryz.pinned.checked.prog) && (Tryz.f9.params.all (Tryz.pinned.checked.prog.readableRec ·)) && (namedTie Tryz.pinned.checked.prog Rows.fnExactTextOfRow.named (OpenSpec.ofChange Rows.fnExactTextOfSpec).bare.vars) && ((Rows.fnExactTextOfRow.stops == [])) && ((Tryz.pinned.checked.prog.stops == [])) && ((Rows.fnExactTextOfRow.knobs == [])) && ((Tryz.pinned.checked.prog.stopKnobs == []))) = true := by kernel_rfl
theorem cl1_fnExactTextOf : (((Rows.fnExactTextOfRow.inPlace == Tryz.pinned.checked.prog.inPlace 9)) && ((Rows.fnExactTextOfRow.unfollowed == Tryz.pinned.checked.prog.unfollowed 9)) && ((Rows.fnExactTextOfRow.recurses == Tryz.pinned.checked.prog.recurses 9)) && ((Rows.fnExactTextOfRow.named == Tryz.pinned.checked.prog.varsNamed 9)) && ((Rows.fnExactTextOfRow.maps == (Tryz.f9.params.toList ++ (OpenSpec.ofChange Rows.fnExactTextOfSpec).bare.plain.varTypes Tryz.pinned.checked.prog).any (Tryz.pinned.checked.prog.mapsRec ·))) && ((Rows.fnExactTextOfRow.ifaces == (Tryz.f9.params.toList ++ (OpenSpec.ofChange Rows.fnExactTextOfSpec).bare.plain.varTypes Tryz.pinned.checked.prog).any (Tryz.pinned.checked.prog.ifacesRec ·))) && ((Rows.fnExactTextOfRow.mapsOut == Tryz.pinned.checked.prog.mapsAmong Tryz.f9.resultTypes.toList)) && ((Rows.fnExactTextOfRow.loops == (Tryz.f9.params.toList ++ (OpenSpec.ofChange Rows.fnExactTextOfSpec).bare.plain.varTypes Tryz.pinned.checked.prog).any (Tryz.pinned.checked.prog.loopsFrom ·)))) = true := by kernel_rfl
theorem cl2_fnExactTextOf : (((Rows.fnExactTextOfRow.wideKeys == (Tryz.f9.params.toList ++ (OpenSpec.ofChange Rows.fnExactTextOfSpec).bare.plain.varTypes Tryz.pinned.checked.prog ++ Tryz.f9.resultTypes.toList).any (Tryz.pinned.checked.prog.wideKeysFrom ·))) && ((OpenSpec.ofChange Rows.fnExactTextOfSpec).bare.vars.all (Tryz.pinned.checked.prog.varReadable ·)) && (Tryz.f9.resultTypes.all (fun t => Tryz.pinned.checked.prog.readableRec t && decide (t < Tryz.pinned.checked.prog.types.size))) && ((Rows.fnExactTextOfRow.ifacesOut == Tryz.f9.resultTypes.toList.any (Tryz.pinned.checked.prog.ifacesRec ·))) && ((Rows.fnExactTextOfRow.loopsOut == Tryz.f9.resultTypes.toList.any (Tryz.pinned.checked.prog.loopsFrom ·))) && ((Rows.fnExactTextOfRow.plainKeys == Tryz.pinned.checked.prog.plainKeys)) && (Rows.fnExactTextOfRow.shortTexts.isNone)) = true := by kernel_rfl
theorem cl3_fnExactTextOf : ((Tryz.pinned.checked.prog.stopsHeard) && (Tryz.pinned.checked.prog.mayEnter) && ((Rows.fnExactTextOfRow.lifted == Tryz.pinned.checked.prog.liftsFinal)) && ((Tryz.pinned.checked.prog.make == some Rows.fnExactTextOfRow.make)) && ((Rows.fnExactTextOfRow.kinds == (if Rows.fnExactTextOfRow.domain.isEmpty then [] else Tryz.f9.params.toList.map fun t => match Tryz.pinned.checked.prog.underlying t with | some (.int k) => some k | _ => none))) && ((Rows.fnExactTextOfRow.pinned == Rows.fnExactTextOfRow.pinnedBy)) && ((Rows.fnExactTextOfRow.veiled == (Tryz.f9.params.toList ++ (OpenSpec.ofChange Rows.fnExactTextOfSpec).bare.plain.varTypes Tryz.pinned.checked.prog ++ Tryz.f9.resultTypes.toList).any (Tryz.pinned.checked.prog.veiledRec ·))) && (Rows.fnExactTextOfRow.veiledFits Tryz.pinned.checked.prog Tryz.f9.params.toList (Tryz.f9.params.toList ++ (OpenSpec.ofChange Rows.fnExactTextOfSpec).bare.plain.varTypes Tryz.pinned.checked.prog ++ Tryz.f9.resultTypes.toList))) = true := by kernel_rfl
theorem and_tt_fnExactTextOf {a b : Bool} (h1 : a = true) (h2 : b = true) : (a && b) = true := by rw [h1, h2]; rfl
theorem and_l_fnExactTextOf {a b : Bool} (h : (a && b) = true) : a = true := by cases a <;> simp_all
theorem and_r_fnExactTextOf {a b : Bool} (h : (a && b) = true) : b = true := by cases b <;> simp_all
set_option maxRecDepth 100000 in
theorem closed_fnExactTextOf : joinedFacts Tryz.pinned.checked.prog 9 Tryz.f9 (OpenSpec.ofChange Rows.fnExactTextOfSpec).bare Rows.fnExactTextOfRow = true := by
  unfold joinedFacts
  exact and_tt_fnExactTextOf (and_tt_fnExactTextOf (and_tt_fnExactTextOf (and_tt_fnExactTextOf (and_tt_fnExactTextOf (and_tt_fnExactTextOf (and_tt_fnExactTextOf (and_tt_fnExactTextOf (and_tt_fnExactTextOf (and_tt_fnExactTextOf (and_tt_fnExactTextOf (and_tt_fnExactTextOf (and_tt_fnExactTextOf (and_tt_fnExactTextOf (and_tt_fnExactTextOf (and_tt_fnExactTextOf (and_tt_fnExactTextOf (and_tt_fnExactTextOf (and_tt_fnExactTextOf (and_tt_fnExactTextOf (and_tt_fnExactTextOf (and_tt_fnExactTextOf (and_tt_fnExactTextOf (cl0_fnExactTextOf) (and_l_fnExactTextOf (and_l_fnExactTextOf (and_l_fnExactTextOf (and_l_fnExactTextOf (and_l_fnExactTextOf (and_l_fnExactTextOf (and_l_fnExactTextOf cl1_fnExactTextOf)))))))) (and_r_fnExactTextOf (and_l_fnExactTextOf (and_l_fnExactTextOf (and_l_fnExactTextOf (and_l_fnExactTextOf (and_l_fnExactTextOf (and_l_fnExactTextOf cl1_fnExactTextOf)))))))) (and_r_fnExactTextOf (and_l_fnExactTextOf (and_l_fnExactTextOf (and_l_fnExactTextOf (and_l_fnExactTextOf (and_l_fnExactTextOf cl1_fnExactTextOf))))))) (and_r_fnExactTextOf (and_l_fnExactTextOf (and_l_fnExactTextOf (and_l_fnExactTextOf (and_l_fnExactTextOf cl1_fnExactTextOf)))))) (and_r_fnExactTextOf (and_l_fnExactTextOf (and_l_fnExactTextOf (and_l_fnExactTextOf cl1_fnExactTextOf))))) (and_r_fnExactTextOf (and_l_fnExactTextOf (and_l_fnExactTextOf cl1_fnExactTextOf)))) (and_r_fnExactTextOf (and_l_fnExactTextOf cl1_fnExactTextOf))) (and_r_fnExactTextOf cl1_fnExactTextOf)) (and_l_fnExactTextOf (and_l_fnExactTextOf (and_l_fnExactTextOf (and_l_fnExactTextOf (and_l_fnExactTextOf (and_l_fnExactTextOf cl2_fnExactTextOf))))))) (and_r_fnExactTextOf (and_l_fnExactTextOf (and_l_fnExactTextOf (and_l_fnExactTextOf (and_l_fnExactTextOf (and_l_fnExactTextOf cl2_fnExactTextOf))))))) (and_r_fnExactTextOf (and_l_fnExactTextOf (and_l_fnExactTextOf (and_l_fnExactTextOf (and_l_fnExactTextOf cl2_fnExactTextOf)))))) (and_r_fnExactTextOf (and_l_fnExactTextOf (and_l_fnExactTextOf (and_l_fnExactTextOf cl2_fnExactTextOf))))) (and_r_fnExactTextOf (and_l_fnExactTextOf (and_l_fnExactTextOf cl2_fnExactTextOf)))) (and_r_fnExactTextOf (and_l_fnExactTextOf cl2_fnExactTextOf))) (and_r_fnExactTextOf cl2_fnExactTextOf)) (and_l_fnExactTextOf (and_l_fnExactTextOf (and_l_fnExactTextOf (and_l_fnExactTextOf (and_l_fnExactTextOf (and_l_fnExactTextOf (and_l_fnExactTextOf cl3_fnExactTextOf)))))))) (and_r_fnExactTextOf (and_l_fnExactTextOf (and_l_fnExactTextOf (and_l_fnExactTextOf (and_l_fnExactTextOf (and_l_fnExactTextOf (and_l_fnExactTextOf cl3_fnExactTextOf)))))))) (and_r_fnExactTextOf (and_l_fnExactTextOf (and_l_fnExactTextOf (and_l_fnExactTextOf (and_l_fnExactTextOf (and_l_fnExactTextOf cl3_fnExactTextOf))))))) (and_r_fnExactTextOf (and_l_fnExactTextOf (and_l_fnExactTextOf (and_l_fnExactTextOf (and_l_fnExactTextOf cl3_fnExactTextOf)))))) (and_r_fnExactTextOf (and_l_fnExactTextOf (and_l_fnExactTextOf (and_l_fnExactTextOf cl3_fnExactTextOf))))) (and_r_fnExactTextOf (and_l_fnExactTextOf (and_l_fnExactTextOf cl3_fnExactTextOf)))) (and_r_fnExactTextOf (and_l_fnExactTextOf cl3_fnExactTextOf))) (and_r_fnExactTextOf cl3_fnExactTextOf)

theorem said_TextOf : Rows.FnExactTextOfSaid :=
  OpenClaim.holds_of_cond 9 Tryz.f9 rfl rfl rfl rfl rfl rfl rfl ⟨rfl, rfl, rfl, rfl, rfl⟩ rfl rfl rfl rfl rfl (by kernel_rfl) Tryz.func9 closed_fnExactTextOf
    (of_decide_eq_true (by kernel_rfl)) (by unfold Func.isWrapper; first | (rw [if_pos (by decide +kernel)]; kernel_rfl) | (rw [if_neg (by decide +kernel)]; exact ⟨rfl, rfl⟩))
    (fun os started H enc _ F => by rw [OpenClaim.pre_eq_preRow]; exact lifted_TextOf os started H enc F)

theorem plain_TextOf (f : FuncId) (fn : Func) (hf : Tryz.pinned.checked.prog.funcNamed "loop.example/g00974/laws.FnExactTextOf" = some f) (hfn : Tryz.pinned.checked.prog.funcs[f]? = some fn) :
    true = Tryz.pinned.checked.prog.looks [] ∧ ∀ (j : Nat) t, fn.params[j]? = some t → Tryz.pinned.checked.prog.wantsStandIn t = false := by
  obtain rfl : f = 9 := Option.some.inj ((show Tryz.prog.funcNamed "loop.example/g00974/laws.FnExactTextOf" = some 9 by kernel_rfl).symm.trans hf) |>.symm
  obtain rfl : fn = Tryz.f9 := (Option.some.inj (Tryz.func9.symm.trans hfn)).symm
  refine ⟨by kernel_rfl, fun j t ht => ?_⟩
  rw [Tryz.params9] at ht
  have hm := Array.mem_of_getElem? ht
  have hall : ∀ t ∈ (#[27, 3] : Array TypeId), Tryz.prog.wantsStandIn t = false := by
    intro t ht
    simp only [List.mem_toArray, List.mem_cons, List.not_mem_nil, or_false] at ht
    rcases ht with rfl | rfl
    · exact (show Tryz.prog.wantsStandIn 27 = false by kernel_rfl)
    · exact (show Tryz.prog.wantsStandIn 3 = false by kernel_rfl)
  exact hall t hm

/-- The card. -/
theorem card_TextOf : Rows.FnExactTextOfCardSaid :=
  Claim7.holds_tied_plain_at .later [] _ _ _ _ said_TextOf (fun _ h => by cases h) (by kernel_rfl) (fun _ h => by cases h) fnExactTextOf_row_tie rfl ⟨rfl, rfl⟩ (by kernel_rfl) rfl plain_TextOf (by kernel_rfl)
end Go.Proofs.YthkffdkkffddeaaGreatDoor
