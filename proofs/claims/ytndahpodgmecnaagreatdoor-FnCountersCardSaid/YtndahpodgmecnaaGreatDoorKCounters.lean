/-
  laws.FnExactCounters: the statement and its card: for every machine and every other argument the law returns true, and the arguments read as they did. Conditions: the package-level variables that the row lists hold what it lists.
-/
import Derived.Test.YtndahpodgmecnaaGreatDoorLd
import Derived.Test.YtndahpodgmecnaaGreatDoorLCounters
import Derived.Test.YtndahpodgmecnaaGreatDoorOpenB
import Derived.Test.YtndahpodgmecnaaGreatDoorCards
import Derived.Test.YtndahpodgmecnaaGreatDoorTie
import Derived.ChangeMaps5
import Derived.Deep.DeepWitnessRowRef
set_option linter.unusedSimpArgs false
set_option linter.unusedVariables false
set_option linter.unnecessarySimpa false
namespace Go.Proofs.YtndahpodgmecnaaGreatDoor
open Go Go.RowKit Go.ChangeShapes Go.WideShapes Go.ChangeAt

theorem glob_Counters {W : World} (h : laidMetH Tryz.prog Rows.fnCountersRow.laid W) : Glob W :=
  ⟨OneLaid.tab (k := .u64) (zs := Lib.pow10Tab) (laid_get (laid := Rows.fnCountersRow.laid) (show laidMet _ _ _ from h) 2 rfl) named1 (by kernel_rfl) Tryz.underlying157 Tryz.underlying139 (by kernel_rfl) (by kernel_rfl),
    OneLaid.iface (laid_get (laid := Rows.fnCountersRow.laid) (show laidMet _ _ _ from h) 4 rfl) named2 (by kernel_rfl) Tryz.underlying98, OneLaid.iface (laid_get (laid := Rows.fnCountersRow.laid) (show laidMet _ _ _ from h) 3 rfl) named3 (by kernel_rfl) Tryz.underlying98⟩

attribute [local irreducible] Value.okWide DataW.Trod in
theorem contract_Counters (H : Type) (enc : TypeId × Value → H) (W : World) (base : Nat) (args : Array Value) (ds gs : List (DataW H)) (before : List MemPlace)
    (hval : ∀ (j : Nat) t v, Tryz.f3.params[j]? = some t → args[j]? = some v → Value.okWide Tryz.prog W .any base t v)
    (hW : DataW.Whole enc Tryz.prog Tryz.f3.params.toList Rows.fnCountersSpec.vars false W args.toList ds gs before) (hL : laidMetH Tryz.prog Rows.fnCountersRow.laid W) (hR : GB ≤ W.heap.size) :
    Calls Tryz.prog 3 args W fun e W' => ∃ v, e = .returned v ∧ Rows.fnCountersSpec.post enc Tryz.prog Tryz.f3 false true false false W args v W' := by
  have hW' := hW
  obtain ⟨p, q, hA0, hV, rfl, hfz, hnd⟩ := hW
  have hA : DataW.TrodAll enc Tryz.prog W 0 (fun _ => true) true Tryz.f3.params.toList args.toList ds p := hA0
  rw [Tryz.params3] at hA hval
  obtain ⟨v0, vs0, d0, ds0, p0, q0, hargs, rfl, rfl, h0, r0⟩ := trodAll_cons hA
  obtain ⟨rfl, rfl, rfl⟩ := trodAll_nil r0
  obtain rfl : args = #[v0] := by cases args; simp_all
  obtain ⟨rfl, rfl⟩ := trodVars_none hV
  have k0 := hval 0 22 v0 rfl rfl
  have h0k := h0
  obtain ⟨a0, c0_, w0, rfl, s0, ok0⟩ := open_bytes k0 h0
  have hHas : Has [] W := ⟨by simp, by simp [idsOf], by simp [idsOf], hR, glob_Counters hL⟩
  have hc := L_Counters a0 c0_ w0 W hHas s0
  clear hA0 hA
  refine hc.mono fun e W' h => ?_
  obtain ⟨v, A', rfl, ⟨rfl, rfl⟩, hst⟩ := h
  have hb : Below W.heap.size W W' := ⟨hst.os, hst.tape, hst.output, hst.size, fun k hk => hst.keep k hk (by simp [idsOf])⟩
  simp only [List.append_nil] at hW'
  have hlt := hW'.lt
  refine ⟨_, rfl, post_below (pa := p0) (pv := []) hW' (fun _ _ _ => trodAll_cons_mk (shut_bool Tryz.underlying4 _) trodAll_mk0) (fun sp hsp => ?_) (fun _ _ => rfl) (by simp) hb (ok_one (by kernel_rfl) rfl (okWide_bool_mk Tryz.underlying4 _))⟩
  have t0 := WideElems.Trod_stays (W' := W') (sp' := sp) laid_out (by kernel_rfl) (of_decide_eq_true (by kernel_rfl)) h0k (fun x hx => hb.same (hlt x hx)) (fun x hx => hsp x hx)
  have hz_ := trodAll_cons_mk t0 trodAll_mk0
  simp only [List.append_nil, List.nil_append] at hz_
  exact hz_

noncomputable def laidWorld_Counters (os : Os) : World :=
  let w0 := World.holding Tryz.prog os ⟨#[], #[], []⟩
  let put (h : Array Obj) (g : Nat) (cs : Array Value) : Array Obj := h.modify g fun
    | .cells _ t frozen => .cells cs t frozen
    | o => o
  let n := w0.heap.size
  let h0 := w0.heap ++ #[.cells #[.string ⟨#[118, 97, 108, 117, 101, 32, 111, 117, 116, 32, 111, 102, 32, 114, 97, 110, 103, 101]⟩] 154 (0, 0), .cells #[.string ⟨#[105, 110, 118, 97, 108, 105, 100, 32, 115, 121, 110, 116, 97, 120]⟩] 154 (0, 0)]
  let h1 := put h0 3 (litsOf (Rows.laid_math_bits_deBruijn32tab (H := Unit))).toArray
  let h2 := put h1 4 (litsOf (Rows.laid_math_bits_deBruijn64tab (H := Unit))).toArray
  let h3 := put h2 2 (litsOf (Rows.laid_internal_strconv_uint64pow10 (H := Unit))).toArray
  let h4 := put h3 1 #[.iface 152 (.pointer (some ⟨n + 0, 0, none⟩))]
  let h5 := put h4 0 #[.iface 152 (.pointer (some ⟨n + 1, 0, none⟩))]
  { w0 with heap := h5 }
def wargs_Counters : Array Value := #[.slice none 0 0]
theorem laid_met_Counters (os : Os) : laidMet Tryz.prog Rows.fnCountersRow.laid ((laidWorld_Counters os).forCall (fun _ _ => 0) ⟨#[], wargs_Counters, []⟩).memory :=
  laidMet_of_run' 8 (by kernel_rfl) (by kernel_rfl)
theorem reads_row_Counters (os : Os) {H : Type} (enc : TypeId × Value → H) : (OpenSpec.ofChange Rows.fnCountersSpec).preRow enc Tryz.prog Tryz.f3 Rows.fnCountersRow.domain false Rows.fnCountersRow.laid ((laidWorld_Counters os).forCall (fun _ _ => 0) ⟨#[], wargs_Counters, []⟩).memory wargs_Counters := by
  have hw : (DataW.whole enc Tryz.prog ((laidWorld_Counters os).forCall (fun _ _ => 0) ⟨#[], wargs_Counters, []⟩).memory Tryz.f3.params.toList Rows.fnCountersSpec.vars false wargs_Counters.toList 8).map (fun x => (x.1, x.2.1)) =
      some ([.nil], []) := by kernel_rfl
  obtain ⟨⟨x1, x2, x3⟩, hx, hx1⟩ := Option.map_eq_some_iff.1 hw
  simp only [Prod.mk.injEq] at hx1
  obtain ⟨rfl, rfl⟩ := hx1
  exact OpenSpec.preRow_of_cond 8 hx (by kernel_rfl) (fun k hk => by cases hk) (by kernel_rfl) (laid_met_Counters os)

set_option maxRecDepth 100000 in
theorem lifted_Counters (os : Os) (started : os.Started) (H : Type) (enc : TypeId × Value → H) (F : Stop.Interp) :
    ReturnsInHanded {} Tryz.checked os 3 .any ((OpenSpec.ofChange Rows.fnCountersSpec).preRow enc Tryz.prog Tryz.f3 Rows.fnCountersRow.domain false Rows.fnCountersRow.laid) (((OpenSpec.ofChange Rows.fnCountersSpec).at F).post enc Tryz.prog Tryz.f3 false true false false) := by
  refine returnsInHanded_of_row (C := Tryz.checked) (s := OpenSpec.ofChange Rows.fnCountersSpec) own_godebug started (by kernel_rfl) Tryz.func3
    (witness_row_atRef (enc := enc) (C := Tryz.checked) false (laidWorld_Counters os) wargs_Counters rfl (by kernel_rfl) (by kernel_rfl) (by kernel_rfl) (reads_row_Counters os enc)) ?_
  intro W base args ds gs before hval hW _ _ _ hL hsh _
  exact contract_Counters H enc W base args ds gs before hval hW hL (room_of hsh)

theorem cl0_fnCounters : ((Rows.fnCountersRow.wf (OpenSpec.ofChange (OpenSpec.ofChange Rows.fnCountersSpec).bare)) && (laidOutB Tryz.pinned.checked.prog) && (mapsRowed Tryz.pinned.checked.prog) && (Tryz.f3.params.all (Tryz.pinned.checked.prog.readableRec ·)) && (namedTie Tryz.pinned.checked.prog Rows.fnCountersRow.named (OpenSpec.ofChange Rows.fnCountersSpec).bare.vars) && ((Rows.fnCountersRow.stops == [])) && ((Tryz.pinned.checked.prog.stops == [])) && ((Rows.fnCountersRow.knobs == [])) && ((Tryz.pinned.checked.prog.stopKnobs == []))) = true := by kernel_rfl
theorem cl1_fnCounters : (((Rows.fnCountersRow.inPlace == Tryz.pinned.checked.prog.inPlace 3)) && ((Rows.fnCountersRow.unfollowed == Tryz.pinned.checked.prog.unfollowed 3)) && ((Rows.fnCountersRow.recurses == Tryz.pinned.checked.prog.recurses 3)) && ((Rows.fnCountersRow.named == Tryz.pinned.checked.prog.varsNamed 3)) && ((Rows.fnCountersRow.maps == (Tryz.f3.params.toList ++ (OpenSpec.ofChange Rows.fnCountersSpec).bare.plain.varTypes Tryz.pinned.checked.prog).any (Tryz.pinned.checked.prog.mapsRec ·))) && ((Rows.fnCountersRow.ifaces == (Tryz.f3.params.toList ++ (OpenSpec.ofChange Rows.fnCountersSpec).bare.plain.varTypes Tryz.pinned.checked.prog).any (Tryz.pinned.checked.prog.ifacesRec ·))) && ((Rows.fnCountersRow.mapsOut == Tryz.pinned.checked.prog.mapsAmong Tryz.f3.resultTypes.toList)) && ((Rows.fnCountersRow.loops == (Tryz.f3.params.toList ++ (OpenSpec.ofChange Rows.fnCountersSpec).bare.plain.varTypes Tryz.pinned.checked.prog).any (Tryz.pinned.checked.prog.loopsFrom ·)))) = true := by kernel_rfl
theorem cl2_fnCounters : (((Rows.fnCountersRow.wideKeys == (Tryz.f3.params.toList ++ (OpenSpec.ofChange Rows.fnCountersSpec).bare.plain.varTypes Tryz.pinned.checked.prog ++ Tryz.f3.resultTypes.toList).any (Tryz.pinned.checked.prog.wideKeysFrom ·))) && ((OpenSpec.ofChange Rows.fnCountersSpec).bare.vars.all (Tryz.pinned.checked.prog.varReadable ·)) && (Tryz.f3.resultTypes.all (fun t => Tryz.pinned.checked.prog.readableRec t && decide (t < Tryz.pinned.checked.prog.types.size))) && ((Rows.fnCountersRow.ifacesOut == Tryz.f3.resultTypes.toList.any (Tryz.pinned.checked.prog.ifacesRec ·))) && ((Rows.fnCountersRow.loopsOut == Tryz.f3.resultTypes.toList.any (Tryz.pinned.checked.prog.loopsFrom ·))) && ((Rows.fnCountersRow.plainKeys == Tryz.pinned.checked.prog.plainKeys)) && (Rows.fnCountersRow.shortTexts.isNone)) = true := by kernel_rfl
theorem cl3_fnCounters : ((Tryz.pinned.checked.prog.stopsHeard) && (Tryz.pinned.checked.prog.mayEnter) && ((Rows.fnCountersRow.lifted == Tryz.pinned.checked.prog.liftsFinal)) && ((Tryz.pinned.checked.prog.make == some Rows.fnCountersRow.make)) && ((Rows.fnCountersRow.kinds == (if Rows.fnCountersRow.domain.isEmpty then [] else Tryz.f3.params.toList.map fun t => match Tryz.pinned.checked.prog.underlying t with | some (.int k) => some k | _ => none))) && ((Rows.fnCountersRow.pinned == Rows.fnCountersRow.pinnedBy)) && ((Rows.fnCountersRow.veiled == (Tryz.f3.params.toList ++ (OpenSpec.ofChange Rows.fnCountersSpec).bare.plain.varTypes Tryz.pinned.checked.prog ++ Tryz.f3.resultTypes.toList).any (Tryz.pinned.checked.prog.veiledRec ·))) && (Rows.fnCountersRow.veiledFits Tryz.pinned.checked.prog Tryz.f3.params.toList (Tryz.f3.params.toList ++ (OpenSpec.ofChange Rows.fnCountersSpec).bare.plain.varTypes Tryz.pinned.checked.prog ++ Tryz.f3.resultTypes.toList))) = true := by kernel_rfl
theorem and_tt_fnCounters {a b : Bool} (h1 : a = true) (h2 : b = true) : (a && b) = true := by rw [h1, h2]; rfl
theorem and_l_fnCounters {a b : Bool} (h : (a && b) = true) : a = true := by cases a <;> simp_all
theorem and_r_fnCounters {a b : Bool} (h : (a && b) = true) : b = true := by cases b <;> simp_all
set_option maxRecDepth 100000 in
theorem closed_fnCounters : joinedFacts Tryz.pinned.checked.prog 3 Tryz.f3 (OpenSpec.ofChange Rows.fnCountersSpec).bare Rows.fnCountersRow = true := by
  unfold joinedFacts
  exact and_tt_fnCounters (and_tt_fnCounters (and_tt_fnCounters (and_tt_fnCounters (and_tt_fnCounters (and_tt_fnCounters (and_tt_fnCounters (and_tt_fnCounters (and_tt_fnCounters (and_tt_fnCounters (and_tt_fnCounters (and_tt_fnCounters (and_tt_fnCounters (and_tt_fnCounters (and_tt_fnCounters (and_tt_fnCounters (and_tt_fnCounters (and_tt_fnCounters (and_tt_fnCounters (and_tt_fnCounters (and_tt_fnCounters (and_tt_fnCounters (and_tt_fnCounters (cl0_fnCounters) (and_l_fnCounters (and_l_fnCounters (and_l_fnCounters (and_l_fnCounters (and_l_fnCounters (and_l_fnCounters (and_l_fnCounters cl1_fnCounters)))))))) (and_r_fnCounters (and_l_fnCounters (and_l_fnCounters (and_l_fnCounters (and_l_fnCounters (and_l_fnCounters (and_l_fnCounters cl1_fnCounters)))))))) (and_r_fnCounters (and_l_fnCounters (and_l_fnCounters (and_l_fnCounters (and_l_fnCounters (and_l_fnCounters cl1_fnCounters))))))) (and_r_fnCounters (and_l_fnCounters (and_l_fnCounters (and_l_fnCounters (and_l_fnCounters cl1_fnCounters)))))) (and_r_fnCounters (and_l_fnCounters (and_l_fnCounters (and_l_fnCounters cl1_fnCounters))))) (and_r_fnCounters (and_l_fnCounters (and_l_fnCounters cl1_fnCounters)))) (and_r_fnCounters (and_l_fnCounters cl1_fnCounters))) (and_r_fnCounters cl1_fnCounters)) (and_l_fnCounters (and_l_fnCounters (and_l_fnCounters (and_l_fnCounters (and_l_fnCounters (and_l_fnCounters cl2_fnCounters))))))) (and_r_fnCounters (and_l_fnCounters (and_l_fnCounters (and_l_fnCounters (and_l_fnCounters (and_l_fnCounters cl2_fnCounters))))))) (and_r_fnCounters (and_l_fnCounters (and_l_fnCounters (and_l_fnCounters (and_l_fnCounters cl2_fnCounters)))))) (and_r_fnCounters (and_l_fnCounters (and_l_fnCounters (and_l_fnCounters cl2_fnCounters))))) (and_r_fnCounters (and_l_fnCounters (and_l_fnCounters cl2_fnCounters)))) (and_r_fnCounters (and_l_fnCounters cl2_fnCounters))) (and_r_fnCounters cl2_fnCounters)) (and_l_fnCounters (and_l_fnCounters (and_l_fnCounters (and_l_fnCounters (and_l_fnCounters (and_l_fnCounters (and_l_fnCounters cl3_fnCounters)))))))) (and_r_fnCounters (and_l_fnCounters (and_l_fnCounters (and_l_fnCounters (and_l_fnCounters (and_l_fnCounters (and_l_fnCounters cl3_fnCounters)))))))) (and_r_fnCounters (and_l_fnCounters (and_l_fnCounters (and_l_fnCounters (and_l_fnCounters (and_l_fnCounters cl3_fnCounters))))))) (and_r_fnCounters (and_l_fnCounters (and_l_fnCounters (and_l_fnCounters (and_l_fnCounters cl3_fnCounters)))))) (and_r_fnCounters (and_l_fnCounters (and_l_fnCounters (and_l_fnCounters cl3_fnCounters))))) (and_r_fnCounters (and_l_fnCounters (and_l_fnCounters cl3_fnCounters)))) (and_r_fnCounters (and_l_fnCounters cl3_fnCounters))) (and_r_fnCounters cl3_fnCounters)

theorem said_Counters : Rows.FnCountersSaid :=
  OpenClaim.holds_of_cond 3 Tryz.f3 rfl rfl rfl rfl rfl rfl rfl ⟨rfl, rfl, rfl, rfl, rfl⟩ rfl rfl rfl rfl rfl (by kernel_rfl) Tryz.func3 closed_fnCounters
    (of_decide_eq_true (by kernel_rfl)) (by unfold Func.isWrapper; first | (rw [if_pos (by decide +kernel)]; kernel_rfl) | (rw [if_neg (by decide +kernel)]; exact ⟨rfl, rfl⟩))
    (fun os started H enc _ F => by rw [OpenClaim.pre_eq_preRow]; exact lifted_Counters os started H enc F)

theorem plain_Counters (f : FuncId) (fn : Func) (hf : Tryz.pinned.checked.prog.funcNamed "loop.example/g00974/laws.FnCounters" = some f) (hfn : Tryz.pinned.checked.prog.funcs[f]? = some fn) :
    true = Tryz.pinned.checked.prog.looks [] ∧ ∀ (j : Nat) t, fn.params[j]? = some t → Tryz.pinned.checked.prog.wantsStandIn t = false := by
  obtain rfl : f = 3 := Option.some.inj ((show Tryz.prog.funcNamed "loop.example/g00974/laws.FnCounters" = some 3 by kernel_rfl).symm.trans hf) |>.symm
  obtain rfl : fn = Tryz.f3 := (Option.some.inj (Tryz.func3.symm.trans hfn)).symm
  refine ⟨by kernel_rfl, fun j t ht => ?_⟩
  rw [Tryz.params3] at ht
  have hm := Array.mem_of_getElem? ht
  have hall : ∀ t ∈ (#[22] : Array TypeId), Tryz.prog.wantsStandIn t = false := by
    intro t ht
    simp only [List.mem_toArray, List.mem_cons, List.not_mem_nil, or_false] at ht
    rcases ht with rfl
    · exact (show Tryz.prog.wantsStandIn 22 = false by kernel_rfl)
  exact hall t hm

/-- The card. -/
theorem card_Counters : Rows.FnCountersCardSaid :=
  Claim7.holds_tied_plain_at .later [] _ _ _ _ said_Counters (fun _ h => by cases h) (by kernel_rfl) (fun _ h => by cases h) fnCounters_row_tie rfl ⟨rfl, rfl⟩ (by kernel_rfl) rfl plain_Counters (by kernel_rfl)
end Go.Proofs.YtndahpodgmecnaaGreatDoor
