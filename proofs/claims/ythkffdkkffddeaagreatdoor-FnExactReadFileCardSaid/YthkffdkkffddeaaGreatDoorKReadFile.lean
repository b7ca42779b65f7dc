/-
  laws.FnExactReadFile: the statement and its card: for every machine and every other argument the law returns true, and the arguments read as they did. Conditions: the package-level variables that the row lists hold what it lists.
-/
import Derived.Test.YthkffdkkffddeaaGreatDoorLd
import Derived.Test.YthkffdkkffddeaaGreatDoorLReadFile
import Derived.Test.YthkffdkkffddeaaGreatDoorCards
import Derived.Test.YthkffdkkffddeaaGreatDoorTie
import Derived.ChangeMaps5
import Derived.Deep.DeepWitnessRowRef
set_option linter.unusedSimpArgs false
set_option linter.unusedVariables false
set_option linter.unnecessarySimpa false
namespace Go.Proofs.YthkffdkkffddeaaGreatDoor
open Go Go.RowKit Go.ChangeShapes Go.WideShapes Go.ChangeAt

theorem glob_ReadFile {W : World} (h : laidMetH Tryz.prog Rows.fnExactReadFileRow.laid W) : Glob W :=
  ⟨OneLaid.tab (k := .u64) (zs := Lib.pow10Tab) (laid_get (laid := Rows.fnExactReadFileRow.laid) (show laidMet _ _ _ from h) 2 rfl) named1 (by kernel_rfl) Tryz.underlying166 Tryz.underlying153 (by kernel_rfl) (by kernel_rfl),
    OneLaid.iface (laid_get (laid := Rows.fnExactReadFileRow.laid) (show laidMet _ _ _ from h) 4 rfl) named2 (by kernel_rfl) Tryz.underlying129, OneLaid.iface (laid_get (laid := Rows.fnExactReadFileRow.laid) (show laidMet _ _ _ from h) 3 rfl) named3 (by kernel_rfl) Tryz.underlying129⟩
theorem hex_ReadFile {W : World} (h : laidMetH Tryz.prog Rows.fnExactReadFileRow.laid W) : HexOk W := OneLaid.iface (laid_get (laid := Rows.fnExactReadFileRow.laid) (show laidMet _ _ _ from h) 5 rfl) named4 (by kernel_rfl) Tryz.underlying129

attribute [local irreducible] Value.okWide DataW.Trod in
theorem contract_ReadFile (H : Type) (enc : TypeId × Value → H) (W : World) (base : Nat) (args : Array Value) (ds gs : List (DataW H)) (before : List MemPlace)
    (hval : ∀ (j : Nat) t v, Tryz.f7.params[j]? = some t → args[j]? = some v → Value.okWide Tryz.prog W .any base t v)
    (hW : DataW.Whole enc Tryz.prog Tryz.f7.params.toList Rows.fnExactReadFileSpec.vars false W args.toList ds gs before) (hL : laidMetH Tryz.prog Rows.fnExactReadFileRow.laid W) (hR : GB ≤ W.heap.size) :
    Calls Tryz.prog 7 args W fun e W' => ∃ v, e = .returned v ∧ Rows.fnExactReadFileSpec.post enc Tryz.prog Tryz.f7 false true false false W args v W' := by
  have hW' := hW
  obtain ⟨p, q, hA0, hV, rfl, hfz, hnd⟩ := hW
  have hA : DataW.TrodAll enc Tryz.prog W 0 (fun _ => true) true Tryz.f7.params.toList args.toList ds p := hA0
  rw [Tryz.params7] at hA hval
  obtain ⟨v0, vs0, d0, ds0, p0, q0, hargs, rfl, rfl, h0, r0⟩ := trodAll_cons hA
  obtain ⟨v1, vs1, d1, ds1, p1, q1, e1, rfl, rfl, h1, r1⟩ := trodAll_cons r0
  obtain ⟨v2, vs2, d2, ds2, p2, q2, e2, rfl, rfl, h2, r2⟩ := trodAll_cons r1
  obtain ⟨v3, vs3, d3, ds3, p3, q3, e3, rfl, rfl, h3, r3⟩ := trodAll_cons r2
  obtain ⟨rfl, rfl, rfl⟩ := trodAll_nil r3
  subst e3
  subst e2
  subst e1
  obtain rfl : args = #[v0, v1, v2, v3] := by cases args; simp_all
  obtain ⟨rfl, rfl⟩ := trodVars_none hV
  have k0 := hval 0 27 v0 rfl rfl
  have k1 := hval 1 3 v1 rfl rfl
  have k2 := hval 2 3 v2 rfl rfl
  have k3 := hval 3 3 v3 rfl rfl
  have h0k := h0
  have h1k := h1
  have h2k := h2
  have h3k := h3
  obtain ⟨a0, c0_, a1, c1, a2, c2, m, rfl, s0, s1, s2, ok0, ok1, ok2⟩ := open_mach k0 h0
  obtain ⟨w1, rfl, rfl, rfl, hz1⟩ := open_int Tryz.underlying3 k1 h1
  obtain ⟨w2, rfl, rfl, rfl, hz2⟩ := open_int Tryz.underlying3 k2 h2
  obtain ⟨w3, rfl, rfl, rfl, hz3⟩ := open_int Tryz.underlying3 k3 h3
  have hHas : Has [] W := ⟨by simp, by simp [idsOf], by simp [idsOf], hR, glob_ReadFile hL⟩
  have hc := L_ReadFile ⟨a0, c0_, a1, c1, a2, c2⟩ m w1 w2 w3 (bounds_i64 hz1) (bounds_i64 hz2) (bounds_i64 hz3) ok0 ok1 ok2 W hHas ⟨⟨s0, s1, s2⟩, hex_ReadFile hL⟩
  clear hA0 hA
  refine hc.mono fun e W' h => ?_
  obtain ⟨v, A', rfl, ⟨rfl, rfl⟩, hst⟩ := h
  have hb : Below W.heap.size W W' := ⟨hst.os, hst.tape, hst.output, hst.size, fun k hk => hst.keep k hk (by simp [idsOf])⟩
  simp only [List.append_nil] at hW'
  have hlt := hW'.lt
  refine ⟨_, rfl, post_below (pa := p0) (pv := []) hW' (fun _ _ _ => trodAll_cons_mk (shut_bool Tryz.underlying4 _) trodAll_mk0) (fun sp hsp => ?_) (fun _ _ => rfl) (by simp) hb (ok_one (by kernel_rfl) rfl (okWide_bool_mk Tryz.underlying4 _))⟩
  have t0 := WideElems.Trod_stays (W' := W') (sp' := sp) laid_out (by kernel_rfl) (of_decide_eq_true (by kernel_rfl)) h0k (fun x hx => hb.same (hlt x hx)) (fun x hx => hsp x hx)
  have t1 := WideElems.Trod_stays (W' := W') (sp' := sp) laid_out (by kernel_rfl) (of_decide_eq_true (by kernel_rfl)) h1k (fun x hx => by cases hx) (fun x hx => by cases hx)
  have t2 := WideElems.Trod_stays (W' := W') (sp' := sp) laid_out (by kernel_rfl) (of_decide_eq_true (by kernel_rfl)) h2k (fun x hx => by cases hx) (fun x hx => by cases hx)
  have t3 := WideElems.Trod_stays (W' := W') (sp' := sp) laid_out (by kernel_rfl) (of_decide_eq_true (by kernel_rfl)) h3k (fun x hx => by cases hx) (fun x hx => by cases hx)
  have hz_ := trodAll_cons_mk t0 (trodAll_cons_mk t1 (trodAll_cons_mk t2 (trodAll_cons_mk t3 trodAll_mk0)))
  simp only [List.append_nil, List.nil_append] at hz_
  exact hz_

noncomputable def laidWorld_ReadFile (os : Os) : World :=
  let w0 := World.holding Tryz.prog os ⟨#[], #[], []⟩
  let put (h : Array Obj) (g : Nat) (cs : Array Value) : Array Obj := h.modify g fun
    | .cells _ t frozen => .cells cs t frozen
    | o => o
  let n := w0.heap.size
  let h0 := w0.heap ++ #[.cells #[.string ⟨#[118, 97, 108, 117, 101, 32, 111, 117, 116, 32, 111, 102, 32, 114, 97, 110, 103, 101]⟩] 174 (0, 0), .cells #[.string ⟨#[105, 110, 118, 97, 108, 105, 100, 32, 115, 121, 110, 116, 97, 120]⟩] 174 (0, 0), .cells #[.string ⟨#[101, 110, 99, 111, 100, 105, 110, 103, 47, 104, 101, 120, 58, 32, 111, 100, 100, 32, 108, 101, 110, 103, 116, 104, 32, 104, 101, 120, 32, 115, 116, 114, 105, 110, 103]⟩] 174 (0, 0)]
  let h1 := put h0 4 (litsOf (Rows.laid_math_bits_deBruijn32tab (H := Unit))).toArray
  let h2 := put h1 5 (litsOf (Rows.laid_math_bits_deBruijn64tab (H := Unit))).toArray
  let h3 := put h2 3 (litsOf (Rows.laid_internal_strconv_uint64pow10 (H := Unit))).toArray
  let h4 := put h3 2 #[.iface 172 (.pointer (some ⟨n + 0, 0, none⟩))]
  let h5 := put h4 1 #[.iface 172 (.pointer (some ⟨n + 1, 0, none⟩))]
  let h6 := put h5 0 #[.iface 172 (.pointer (some ⟨n + 2, 0, none⟩))]
  { w0 with heap := h6 }
def wargs_ReadFile : Array Value := #[.agg #[.slice none 0 0, .slice none 0 0, .slice none 0 0], .int .i64 0, .int .i64 0, .int .i64 0]
theorem laid_met_ReadFile (os : Os) : laidMet Tryz.prog Rows.fnExactReadFileRow.laid ((laidWorld_ReadFile os).forCall (fun _ _ => 0) ⟨#[], wargs_ReadFile, []⟩).memory :=
  laidMet_of_run' 8 (by kernel_rfl) (by kernel_rfl)
theorem reads_row_ReadFile (os : Os) {H : Type} (enc : TypeId × Value → H) : (OpenSpec.ofChange Rows.fnExactReadFileSpec).preRow enc Tryz.prog Tryz.f7 Rows.fnExactReadFileRow.domain false Rows.fnExactReadFileRow.laid ((laidWorld_ReadFile os).forCall (fun _ _ => 0) ⟨#[], wargs_ReadFile, []⟩).memory wargs_ReadFile := by
  have hw : (DataW.whole enc Tryz.prog ((laidWorld_ReadFile os).forCall (fun _ _ => 0) ⟨#[], wargs_ReadFile, []⟩).memory Tryz.f7.params.toList Rows.fnExactReadFileSpec.vars false wargs_ReadFile.toList 8).map (fun x => (x.1, x.2.1)) =
      some ([.agg [.nil, .agg [.nil, .nil]], .lit (.int .i64 0), .lit (.int .i64 0), .lit (.int .i64 0)], []) := by kernel_rfl
  obtain ⟨⟨x1, x2, x3⟩, hx, hx1⟩ := Option.map_eq_some_iff.1 hw
  simp only [Prod.mk.injEq] at hx1
  obtain ⟨rfl, rfl⟩ := hx1
  exact OpenSpec.preRow_of_cond 8 hx (by kernel_rfl) (fun k hk => by cases hk) (by kernel_rfl) (laid_met_ReadFile os)

set_option maxRecDepth 100000 in
theorem lifted_ReadFile (os : Os) (started : os.Started) (H : Type) (enc : TypeId × Value → H) (F : Stop.Interp) :
    ReturnsInHanded {} Tryz.checked os 7 .any ((OpenSpec.ofChange Rows.fnExactReadFileSpec).preRow enc Tryz.prog Tryz.f7 Rows.fnExactReadFileRow.domain false Rows.fnExactReadFileRow.laid) (((OpenSpec.ofChange Rows.fnExactReadFileSpec).at F).post enc Tryz.prog Tryz.f7 false true false false) := by
  refine returnsInHanded_of_row (C := Tryz.checked) (s := OpenSpec.ofChange Rows.fnExactReadFileSpec) own_godebug started (by kernel_rfl) Tryz.func7
    (witness_row_atRef (enc := enc) (C := Tryz.checked) false (laidWorld_ReadFile os) wargs_ReadFile rfl (by kernel_rfl) (by kernel_rfl) (by kernel_rfl) (reads_row_ReadFile os enc)) ?_
  intro W base args ds gs before hval hW _ _ _ hL hsh _
  exact contract_ReadFile H enc W base args ds gs before hval hW hL (room_of hsh)

theorem cl0_fnExactReadFile : ((Rows.fnExactReadFileRow.wf (OpenSpec.ofChange (OpenSpec.ofChange Rows.fnExactReadFileSpec).bare)) && (laidOutB Tryz.pinned.checked.prog) && (mapsRowed Tryz.pinned.checked.prog) && (Tryz.f7.params.all (Tryz.pinned.checked.prog.readableRec ·)) && (namedTie Tryz.pinned.checked.prog Rows.fnExactReadFileRow.named (OpenSpec.ofChange Rows.fnExactReadFileSpec).bare.vars) && ((Rows.fnExactReadFileRow.stops == [])) && ((Tryz.pinned.checked.prog.stops == [])) && ((Rows.fnExactReadFileRow.knobs == [])) && ((Tryz.pinned.checked.prog.stopKnobs == []))) = true := by kernel_rfl
theorem cl1_fnExactReadFile : (((Rows.fnExactReadFileRow.inPlace == Tryz.pinned.checked.prog.inPlace 7)) && ((Rows.fnExactReadFileRow.unfollowed == Tryz.pinned.checked.prog.unfollowed 7)) && ((Rows.fnExactReadFileRow.recurses == Tryz.pinned.checked.prog.recurses 7)) && ((Rows.fnExactReadFileRow.named == Tryz.pinned.checked.prog.varsNamed 7)) && ((Rows.fnExactReadFileRow.maps == (Tryz.f7.params.toList ++ (OpenSpec.ofChange Rows.fnExactReadFileSpec).bare.plain.varTypes Tryz.pinned.checked.prog).any (Tryz.pinned.checked.prog.mapsRec ·))) && ((Rows.fnExactReadFileRow.ifaces == (Tryz.f7.params.toList ++ (OpenSpec.ofChange Rows.fnExactReadFileSpec).bare.plain.varTypes Tryz.pinned.checked.prog).any (Tryz.pinned.checked.prog.ifacesRec ·))) && ((Rows.fnExactReadFileRow.mapsOut == Tryz.pinned.checked.prog.mapsAmong Tryz.f7.resultTypes.toList)) && ((Rows.fnExactReadFileRow.loops == (Tryz.f7.params.toList ++ (OpenSpec.ofChange Rows.fnExactReadFileSpec).bare.plain.varTypes Tryz.pinned.checked.prog).any (Tryz.pinned.checked.prog.loopsFrom ·)))) = true := by kernel_rfl
theorem cl2_fnExactReadFile : (((Rows.fnExactReadFileRow.wideKeys == (Tryz.f7.params.toList ++ (OpenSpec.ofChange Rows.fnExactReadFileSpec).bare.plain.varTypes Tryz.pinned.checked.prog ++ Tryz.f7.resultTypes.toList).any (Tryz.pinned.checked.prog.wideKeysFrom ·))) && ((OpenSpec.ofChange Rows.fnExactReadFileSpec).bare.vars.all (Tryz.pinned.checked.prog.varReadable ·)) && (Tryz.f7.resultTypes.all (fun t => Tryz.pinned.checked.prog.readableRec t && decide (t < Tryz.pinned.checked.prog.types.size))) && ((Rows.fnExactReadFileRow.ifacesOut == Tryz.f7.resultTypes.toList.any (Tryz.pinned.checked.prog.ifacesRec ·))) && ((Rows.fnExactReadFileRow.loopsOut == Tryz.f7.resultTypes.toList.any (Tryz.pinned.checked.prog.loopsFrom ·))) && ((Rows.fnExactReadFileRow.plainKeys == Tryz.pinned.checked.prog.plainKeys)) && (Rows.fnExactReadFileRow.shortTexts.isNone)) = true := by kernel_rfl
theorem cl3_fnExactReadFile : ((Tryz.pinned.checked.prog.stopsHeard) && (Tryz.pinned.checked.prog.mayEnter) && ((Rows.fnExactReadFileRow.lifted == Tryz.pinned.checked.prog.liftsFinal)) && ((Tryz.pinned.checked.prog.make == some Rows.fnExactReadFileRow.make)) && ((Rows.fnExactReadFileRow.kinds == (if Rows.fnExactReadFileRow.domain.isEmpty then [] else Tryz.f7.params.toList.map fun t => match Tryz.pinned.checked.prog.underlying t with | some (.int k) => some k | _ => none))) && ((Rows.fnExactReadFileRow.pinned == Rows.fnExactReadFileRow.pinnedBy)) && ((Rows.fnExactReadFileRow.veiled == (Tryz.f7.params.toList ++ (OpenSpec.ofChange Rows.fnExactReadFileSpec).bare.plain.varTypes Tryz.pinned.checked.prog ++ Tryz.f7.resultTypes.toList).any (Tryz.pinned.checked.prog.veiledRec ·))) && (Rows.fnExactReadFileRow.veiledFits Tryz.pinned.checked.prog Tryz.f7.params.toList (Tryz.f7.params.toList ++ (OpenSpec.ofChange Rows.fnExactReadFileSpec).bare.plain.varTypes Tryz.pinned.checked.prog ++ Tryz.f7.resultTypes.toList))) = true := by kernel_rfl
theorem and_tt_fnExactReadFile {a b : Bool} (h1 : a = true) (h2 : b = true) : (a && b) = true := by rw [h1, h2]; rfl
theorem and_l_fnExactReadFile {a b : Bool} (h : (a && b) = true) : a = true := by cases a <;> simp_all
theorem and_r_fnExactReadFile {a b : Bool} (h : (a && b) = true) : b = true := by cases b <;> simp_all
set_option maxRecDepth 100000 in
theorem closed_fnExactReadFile : joinedFacts Tryz.pinned.checked.prog 7 Tryz.f7 (OpenSpec.ofChange Rows.fnExactReadFileSpec).bare Rows.fnExactReadFileRow = true := by
  unfold joinedFacts
  exact and_tt_fnExactReadFile (and_tt_fnExactReadFile (and_tt_fnExactReadFile (and_tt_fnExactReadFile (and_tt_fnExactReadFile (and_tt_fnExactReadFile (and_tt_fnExactReadFile (and_tt_fnExactReadFile (and_tt_fnExactReadFile (and_tt_fnExactReadFile (and_tt_fnExactReadFile (and_tt_fnExactReadFile (and_tt_fnExactReadFile (and_tt_fnExactReadFile (and_tt_fnExactReadFile (and_tt_fnExactReadFile (and_tt_fnExactReadFile (and_tt_fnExactReadFile (and_tt_fnExactReadFile (and_tt_fnExactReadFile (and_tt_fnExactReadFile (and_tt_fnExactReadFile (and_tt_fnExactReadFile (cl0_fnExactReadFile) (and_l_fnExactReadFile (and_l_fnExactReadFile (and_l_fnExactReadFile (and_l_fnExactReadFile (and_l_fnExactReadFile (and_l_fnExactReadFile (and_l_fnExactReadFile cl1_fnExactReadFile)))))))) (and_r_fnExactReadFile (and_l_fnExactReadFile (and_l_fnExactReadFile (and_l_fnExactReadFile (and_l_fnExactReadFile (and_l_fnExactReadFile (and_l_fnExactReadFile cl1_fnExactReadFile)))))))) (and_r_fnExactReadFile (and_l_fnExactReadFile (and_l_fnExactReadFile (and_l_fnExactReadFile (and_l_fnExactReadFile (and_l_fnExactReadFile cl1_fnExactReadFile))))))) (and_r_fnExactReadFile (and_l_fnExactReadFile (and_l_fnExactReadFile (and_l_fnExactReadFile (and_l_fnExactReadFile cl1_fnExactReadFile)))))) (and_r_fnExactReadFile (and_l_fnExactReadFile (and_l_fnExactReadFile (and_l_fnExactReadFile cl1_fnExactReadFile))))) (and_r_fnExactReadFile (and_l_fnExactReadFile (and_l_fnExactReadFile cl1_fnExactReadFile)))) (and_r_fnExactReadFile (and_l_fnExactReadFile cl1_fnExactReadFile))) (and_r_fnExactReadFile cl1_fnExactReadFile)) (and_l_fnExactReadFile (and_l_fnExactReadFile (and_l_fnExactReadFile (and_l_fnExactReadFile (and_l_fnExactReadFile (and_l_fnExactReadFile cl2_fnExactReadFile))))))) (and_r_fnExactReadFile (and_l_fnExactReadFile (and_l_fnExactReadFile (and_l_fnExactReadFile (and_l_fnExactReadFile (and_l_fnExactReadFile cl2_fnExactReadFile))))))) (and_r_fnExactReadFile (and_l_fnExactReadFile (and_l_fnExactReadFile (and_l_fnExactReadFile (and_l_fnExactReadFile cl2_fnExactReadFile)))))) (and_r_fnExactReadFile (and_l_fnExactReadFile (and_l_fnExactReadFile (and_l_fnExactReadFile cl2_fnExactReadFile))))) (and_r_fnExactReadFile (and_l_fnExactReadFile (and_l_fnExactReadFile cl2_fnExactReadFile)))) (and_r_fnExactReadFile (and_l_fnExactReadFile cl2_fnExactReadFile))) (and_r_fnExactReadFile cl2_fnExactReadFile)) (and_l_fnExactReadFile (and_l_fnExactReadFile (and_l_fnExactReadFile (and_l_fnExactReadFile (and_l_fnExactReadFile (and_l_fnExactReadFile (and_l_fnExactReadFile cl3_fnExactReadFile)))))))) (and_r_fnExactReadFile (and_l_fnExactReadFile (and_l_fnExactReadFile (and_l_fnExactReadFile (and_l_fnExactReadFile (and_l_fnExactReadFile (and_l_fnExactReadFile cl3_fnExactReadFile)))))))) (and_r_fnExactReadFile (and_l_fnExactReadFile (and_l_fnExactReadFile (and_l_fnExactReadFile (and_l_fnExactReadFile (and_l_fnExactReadFile cl3_fnExactReadFile))))))) (and_r_fnExactReadFile (and_l_fnExactReadFile (and_l_fnExactReadFile (and_l_fnExactReadFile (and_l_fnExactReadFile cl3_fnExactReadFile)))))) (and_r_fnExactReadFile (and_l_fnExactReadFile (and_l_fnExactReadFile (and_l_fnExactReadFile cl3_fnExactReadFile))))) (and_r_fnExactReadFile (and_l_fnExactReadFile (and_l_fnExactReadFile cl3_fnExactReadFile)))) (and_r_fnExactReadFile (and_l_fnExactReadFile cl3_fnExactReadFile))) (and_r_fnExactReadFile cl3_fnExactReadFile)

theorem said_ReadFile : Rows.FnExactReadFileSaid :=
  OpenClaim.holds_of_cond 7 Tryz.f7 rfl rfl rfl rfl rfl rfl rfl ⟨rfl, rfl, rfl, rfl, rfl⟩ rfl rfl rfl rfl rfl (by kernel_rfl) Tryz.func7 closed_fnExactReadFile
    (of_decide_eq_true (by kernel_rfl)) (by unfold Func.isWrapper; first | (rw [if_pos (by decide +kernel)]; kernel_rfl) | (rw [if_neg (by decide +kernel)]; exact ⟨rfl, rfl⟩))
    (fun os started H enc _ F => by rw [OpenClaim.pre_eq_preRow]; exact lifted_ReadFile os started H enc F)

theorem plain_ReadFile (f : FuncId) (fn : Func) (hf : Tryz.pinned.checked.prog.funcNamed "loop.example/g00974/laws.FnExactReadFile" = some f) (hfn : Tryz.pinned.checked.prog.funcs[f]? = some fn) :
    true = Tryz.pinned.checked.prog.looks [] ∧ ∀ (j : Nat) t, fn.params[j]? = some t → Tryz.pinned.checked.prog.wantsStandIn t = false := by
  obtain rfl : f = 7 := Option.some.inj ((show Tryz.prog.funcNamed "loop.example/g00974/laws.FnExactReadFile" = some 7 by kernel_rfl).symm.trans hf) |>.symm
  obtain rfl : fn = Tryz.f7 := (Option.some.inj (Tryz.func7.symm.trans hfn)).symm
  refine ⟨by kernel_rfl, fun j t ht => ?_⟩
  rw [Tryz.params7] at ht
  have hm := Array.mem_of_getElem? ht
  have hall : ∀ t ∈ (#[27, 3, 3, 3] : Array TypeId), Tryz.prog.wantsStandIn t = false := by
    intro t ht
    simp only [List.mem_toArray, List.mem_cons, List.not_mem_nil, or_false] at ht
    rcases ht with rfl | rfl | rfl | rfl
    · exact (show Tryz.prog.wantsStandIn 27 = false by kernel_rfl)
    · exact (show Tryz.prog.wantsStandIn 3 = false by kernel_rfl)
    · exact (show Tryz.prog.wantsStandIn 3 = false by kernel_rfl)
    · exact (show Tryz.prog.wantsStandIn 3 = false by kernel_rfl)
  exact hall t hm

/-- The card. -/
theorem card_ReadFile : Rows.FnExactReadFileCardSaid :=
  Claim7.holds_tied_plain_at .later [] _ _ _ _ said_ReadFile (fun _ h => by cases h) (by kernel_rfl) (fun _ h => by cases h) fnExactReadFile_row_tie rfl ⟨rfl, rfl⟩ (by kernel_rfl) rfl plain_ReadFile (by kernel_rfl)
end Go.Proofs.YthkffdkkffddeaaGreatDoor
