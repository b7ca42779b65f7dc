/-
  A machine that comes in; what stands behind a call that turns nothing old.
-/
import Derived.Test.YtenfajgpdhgknaaGreatDoorOpen
import Derived.Test.YtenfajgpdhgknaaGreatDoorRows
import Derived.WalkKit
import Derived.OpenShut
set_option linter.unusedSimpArgs false
set_option linter.unusedVariables false
set_option linter.unnecessarySimpa false
namespace Go.Proofs.YtenfajgpdhgknaaGreatDoor
open Go Go.RowKit Go.ChangeShapes Go.WideShapes Go.ChangeAt

theorem post_below {H : Type} {enc : TypeId × Value → H} {P : Program} {f : Func} {s : ChangeSpec} {apart fresh handsOn again : Bool} {W W' : World} {args : Array Value} {v : Value} {ds gs : List (DataW H)} {before pa pv : List MemPlace}
    (hW : DataW.Whole enc P f.params.toList s.vars apart W args.toList ds gs before)
    (hres : ∀ (b : Nat) (sp : Nat → Bool) (hd : Bool), DataW.TrodAll enc P W' b sp hd f.resultTypes.toList (v.resultList f.resultTypes.size) (s.fn H (ds ++ gs)).results [])
    (hargs : ∀ sp : Nat → Bool, (∀ p ∈ before, sp p.block = true) → DataW.TrodAll enc P W' 0 sp true f.params.toList args.toList (s.fn H (ds ++ gs)).args pa)
    (hvars : ∀ sp : Nat → Bool, (∀ p ∈ before, sp p.block = true) → DataW.TrodVars enc P W' sp s.vars (s.fn H (ds ++ gs)).vars pv)
    (hps : before = pa ++ pv) (hb : Below W.heap.size W W')
    (hok : ∀ (j : Nat) (t : TypeId) (r : Value), f.resultTypes[j]? = some t → (v.resultList f.resultTypes.size)[j]? = some r → Value.okWide P W' .any 0 t r) :
    s.post enc P f apart fresh handsOn again W args v W' := by
  have hold : ∀ p ∈ before, (fun b => decide (b < W.heap.size)) p.block = true := fun p hp => by simpa using hW.lt p hp
  have hlt := hW.lt
  refine ⟨ds, gs, before, [], pa, pv, hW, hres _ _ _, hargs _ hold, hvars _ hold, hb.frame _, fun _ => ?_⟩
  obtain ⟨_, _, _, _, _, hz, hn⟩ := hW
  refine ⟨hok, _, _, ([] ++ pa) ++ pv, ⟨[] ++ pa, pv, trodAll_append (hargs _ (fun _ _ => rfl)) (hres _ _ _), hvars _ (fun _ _ => rfl), rfl, ?_, ?_⟩, ?_⟩
  · intro b off hp
    have hp' : MemPlace.cell b off ∈ before := by rw [hps]; simpa using hp
    rw [hb.frozen (hlt _ hp')]
    exact hz b off hp'
  · intro ha
    have := hn ha
    rw [hps] at this
    simpa using this
  · intro p hp _
    rw [hps]
    simpa using hp

theorem okRow {P : Program} {w : World} {r : Reach} {b t : Nat} {v : Value} {fs : Array Field} {ts : List TypeId} (ht : P.underlying t = some (.struct fs)) (hts : P.cellTypes P.depth t = some ts) (h : Value.okWide P w r b t v) :
    ∃ cs : Array Value, v = .agg cs ∧ cs.size = P.cellsOf t ∧ ∀ i u, cs[i]? = some u → ∃ q, ts[i % ts.length]? = some q ∧ Cell.okWide P w r b q u := by
  unfold Value.okWide at h
  rw [ht] at h
  obtain ⟨cs, rfl, hsz, ts', hts', _, hcell⟩ := h
  obtain rfl := Option.some.inj (hts.symm.trans hts')
  exact ⟨cs, rfl, hsz, hcell⟩
theorem three {cs : Array Value} (h : cs.size = 3) : ∃ x0 x1 x2, cs = #[x0, x1, x2] := by
  obtain ⟨l⟩ := cs
  match l, h with
  | [x0, x1, x2], _ => exact ⟨x0, x1, x2, rfl⟩
theorem openM {P : Program} {H : Type} {enc : TypeId × Value → H} {W : World} {base : Nat} {sp : Nat → Bool} {hd : Bool} {b0 : Nat} {r : Reach} {v : Value} {d : DataW H} {ps : List MemPlace} {tm tt tc tcs tss ts : TypeId} {f0 f1 g0 g1 k0 k1 : Field}
    (um : P.underlying tm = some (.struct #[f0, f1])) (ut : P.underlying tt = some (.struct #[g0, g1])) (uc : P.underlying tc = some (.struct #[k0, k1])) (ucs : P.underlying tcs = some (.slice tc)) (uss : P.underlying tss = some (.slice ts)) (us : P.underlying ts = some .string)
    (hf0 : f0.type = tcs ∧ f0.offset = 0) (hf1 : f1.type = tt ∧ f1.offset = 1) (hg0 : g0.type = tss ∧ g0.offset = 0) (hg1 : g1.type = tss ∧ g1.offset = 1) (hk0 : k0.type = ts ∧ k0.offset = 0) (hk1 : k1.type = ts ∧ k1.offset = 1)
    (cm : P.cellsOf tm = 3) (ct : P.cellsOf tt = 2) (cs' : P.cellsOf ts = 1) (cc : P.cellsOf tc = 2) (ccs : P.cellsOf tcs = 1) (css : P.cellsOf tss = 1) (hts : P.cellTypes P.depth tm = some [tcs, tss, tss])
    (hv : Value.okWide P W r b0 tm v) (h : DataW.Trod enc P W base sp hd tm v d ps) : ∃ a0 c0_ a1 c1 a2 c2, ∃ m : MS, v = .agg #[.slice a0 m.s.length c0_, .slice a1 m.r.length c1, .slice a2 m.w.length c2] ∧ Sees W (.slice a0 m.s.length c0_) 2 m.s.length (m.s.flatMap encC) ∧ Sees W (.slice a1 m.r.length c1) 1 m.r.length (m.r.map str) ∧
      Sees W (.slice a2 m.w.length c2) 1 m.w.length (m.w.map str) ∧ okC m.s ∧ okS m.r ∧ okS m.w := by
  obtain ⟨cs, rfl, hsz, hcell⟩ := okRow um hts hv
  obtain ⟨x0, x1, x2, rfl⟩ := three (hsz.trans cm)
  obtain ⟨q0, e0, j0⟩ := hcell 0 x0 rfl
  obtain ⟨q1, e1, j1⟩ := hcell 1 x1 rfl
  obtain ⟨q2, e2, j2⟩ := hcell 2 x2 rfl
  obtain rfl := Option.some.inj e0
  obtain rfl := Option.some.inj e1
  obtain rfl := Option.some.inj e2
  obtain ⟨fuel, hf⟩ := h
  obtain ⟨y0, y1, n, _, _, hA, hB⟩ := trod_struct2 um hf
  rw [hf0.1, hf0.2, ccs] at hA
  rw [hf1.1, hf1.2, ct] at hB
  obtain ⟨z0, z1, n', _, _, hC, hD⟩ := trod_struct2 ut hB
  rw [hg0.1, hg0.2, css] at hC
  rw [hg1.1, hg1.2, css] at hD
  obtain ⟨a0, c0_, s, rfl, hs, oks⟩ := openC ucs uc cc hk0.2 hk1.2 (by rw [hk0.1]; exact cs') (by rw [hk1.1]; exact cs') (by rw [hk0.1]; exact us) (by rw [hk1.1]; exact us) (spot_of ucs j0) hA
  obtain ⟨a1, c1, rr, rfl, hr, okr⟩ := openS uss us cs' (spot_of uss j1) hC
  obtain ⟨a2, c2, ww, rfl, hw, okw⟩ := openS uss us cs' (spot_of uss j2) hD
  exact ⟨a0, c0_, a1, c1, a2, c2, ⟨s, rr, ww⟩, rfl, hs, hr, hw, oks, okr, okw⟩

section
variable {H : Type} {enc : TypeId × Value → H} {W : World} {base : Nat} {sp : Nat → Bool} {hd : Bool}
theorem c1 : Tryz.prog.cellsOf 27 = 3 := by kernel_rfl
theorem c2 : Tryz.prog.cellsOf 25 = 2 := by kernel_rfl
theorem c3 : Tryz.prog.cellsOf 9 = 1 := by kernel_rfl
theorem c4 : Tryz.prog.cellsOf 143 = 2 := by kernel_rfl
theorem c5 : Tryz.prog.cellsOf 22 = 1 := by kernel_rfl
theorem c6 : Tryz.prog.cellsOf 23 = 1 := by kernel_rfl
theorem c7 : Tryz.prog.cellTypes Tryz.prog.depth 27 = some [22, 23, 23] := by kernel_rfl
attribute [local irreducible] Value.okWide DataW.Trod in
theorem open_mach {b0 : Nat} {r : Reach} {v : Value} {d : DataW H} {ps : List MemPlace} (hv : Value.okWide Tryz.prog W r b0 27 v) (h : DataW.Trod enc Tryz.prog W base sp hd 27 v d ps) :
    ∃ a0 c0_ a1 c1 a2 c2, ∃ m : MS, v = .agg #[.slice a0 m.s.length c0_, .slice a1 m.r.length c1, .slice a2 m.w.length c2] ∧ Sees W (.slice a0 m.s.length c0_) 2 m.s.length (m.s.flatMap encC) ∧ Sees W (.slice a1 m.r.length c1) 1 m.r.length (m.r.map str) ∧
      Sees W (.slice a2 m.w.length c2) 1 m.w.length (m.w.map str) ∧ okC m.s ∧ okS m.r ∧ okS m.w :=
  openM (P := Tryz.prog) (H := H) (enc := enc) (W := W) (base := base) (sp := sp) (hd := hd) (b0 := b0) (r := r) (v := v) (d := d) (ps := ps) (tm := 27) (tt := 25) (tc := 143) (tcs := 22) (tss := 23) (ts := 9) Tryz.underlying27 Tryz.underlying25
    Tryz.underlying143
    Tryz.underlying22
    Tryz.underlying23
    Tryz.underlying9
    ⟨rfl, rfl⟩ ⟨rfl, rfl⟩ ⟨rfl, rfl⟩ ⟨rfl, rfl⟩ ⟨rfl, rfl⟩ ⟨rfl, rfl⟩
    c1
    c2
    c3
    c4
    c5
    c6
    c7
    hv
    h
end
end Go.Proofs.YtenfajgpdhgknaaGreatDoor
