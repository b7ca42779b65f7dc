/-
  Texts of the walk, joined: what each one proves stands at its theorems.
-/
import Derived.Test.YtghfijncihbojaaGreatDoorMo
import Derived.Lib.ItoaLen
import Derived.Lib.SmallJoins
import Derived.Shelf.LaysM
import Derived.Shelf.LaysC
import Derived.Shelf.Strconv.Itoa3
import Derived.Shelf.Strconv.AtoiAll
import Derived.Shelf.Strconv.ErrVarAll
import Derived.Shelf.Small.Wraps
import Derived.Shelf.Strings.Prefix
import Derived.Shelf.Hex.More
import Derived.Shelf.Hex.DecodeOwns
import Derived.Test.YtghfijncihbojaaGreatDoorProg
import Derived.Lib.Strings
set_option linter.unusedSimpArgs false
set_option linter.unusedVariables false
set_option linter.unnecessarySimpa false
namespace Go.Proofs.YtghfijncihbojaaGreatDoor
open Go Go.RowKit Go.ChangeShapes Go.WideShapes Go.ChangeAt

def OneLaid (P : Program) (w : World) (n : String) (d : DataW Unit) : Prop :=
  ∃ g t cs fuel p, P.globalNamed n = some g ∧ (P.globals[g]?).map (·.type) = some t ∧ w.var? P n = some cs ∧ DataW.trod (fun _ => ()) P w 0 (fun _ => true) false fuel t cs.toList = some (d, p)
section
variable {P : Program} {w : World}
theorem laidVars_get : ∀ {laid : List (String × DataW Unit)} {ps : List MemPlace} (_ : DataW.LaidVars P w laid ps) (i : Nat) {n : String} {d : DataW Unit}, laid[i]? = some (n, d) → OneLaid P w n d
  | [], _, _, i, n, d, hi => by simp at hi
  | (n', d') :: r, ps, h, 0, n, d, hi => by
    simp only [List.getElem?_cons_zero, Option.some.injEq, Prod.mk.injEq] at hi
    obtain ⟨rfl, rfl⟩ := hi
    obtain ⟨g, t, cs, f, p, _, a, b, e, h, _⟩ := h
    exact ⟨g, t, cs, f, p, a, b, e, h⟩
  | (n', d') :: r, ps, h, i + 1, n, d, hi => by
    obtain ⟨_, _, _, _, _, q, _, _, _, _, h2, _⟩ := h
    exact laidVars_get h2 i (by simpa using hi)
theorem laid_get {laid : List (String × DataW Unit)} (h : laidMet P laid w) (i : Nat) {n : String} {d : DataW Unit} (hi : laid[i]? = some (n, d)) : OneLaid P w n d := by
  obtain ⟨_, h, _⟩ := h
  exact laidVars_get h i hi
theorem OneLaid.tab {n : String} {k : IntKind} {zs : List Int} {g t e m : Nat} (h : OneLaid P w n (Lib.tabData k zs)) (hg : P.globalNamed n = some g) (hty : (P.globals[g]?).map (·.type) = some t) (ht : P.underlying t = some (.array m e)) (he : P.underlying e = some (.int k)) (hce : P.cellsOf e = 1) (hct : P.cellsOf t = m) : Lib.TabIs P w n k zs := by
  obtain ⟨g', t', cs, fuel, p, h1, h2, h3, h4⟩ := h
  obtain rfl := Option.some.inj (hg.symm.trans h1)
  obtain rfl := Option.some.inj (hty.symm.trans h2)
  unfold Lib.TabIs
  rw [h3, ← Lib.cells_of_tab ht he hce hct h4]
theorem OneLaid.iface {n s : String} {x : DataW Unit} {g t : Nat} {ms : Array (String × TypeId)} (h : OneLaid P w n (.iface s x)) (hg : P.globalNamed n = some g) (hty : (P.globals[g]?).map (·.type) = some t) (ht : P.underlying t = some (.interface ms)) : ∃ tp p, w.var? P n = some #[.iface tp p] := by
  obtain ⟨g', t', cs, fuel, p, h1, h2, h3, h4⟩ := h
  obtain rfl := Option.some.inj (hg.symm.trans h1)
  obtain rfl := Option.some.inj (hty.symm.trans h2)
  cases fuel with
  | zero => simp [DataW.trod] at h4
  | succ fuel =>
    unfold DataW.trod at h4
    rw [ht] at h4
    split at h4 <;> simp_all
    rename_i u v _ hcs
    exact ⟨u, v, Array.ext' hcs⟩
end
theorem laid_out : laidOutB Tryz.prog = true := by kernel_rfl
theorem own_godebug : ownKnob Tryz.prog.godebug = none := by kernel_rfl
def litOf {H : Type} : DataW H → List Value
  | .lit (.int k n) => [Value.int k n]
  | .agg ds => ds.map fun d => match d with | .lit (.int k n) => Value.int k n | _ => undef
  | _ => [undef]
def litsOf {H : Type} : DataW H → List Value
  | .agg ds => ds.flatMap litOf
  | _ => []
/-- Every package-level variable has its block. -/
theorem room_of {W : World} (h : W.ShapedOpen Tryz.prog) : GB ≤ W.heap.size := by
  have hr : (((begin Tryz.prog (fun _ _ => 0) default).world.heap[GB - 1]?).bind Obj.row?).isSome = true := by kernel_rfl
  cases hq : ((begin Tryz.prog (fun _ _ => 0) default).world.heap[GB - 1]?).bind Obj.row? with
  | none => rw [hq] at hr; cases hr
  | some x =>
    obtain ⟨zero, t⟩ := x
    obtain ⟨cs, hc, _⟩ := h.1 (GB - 1) zero t (by rw [show Tryz.prog.globals.size = GB from by kernel_rfl]; decide) hq
    have := (Array.getElem?_eq_some_iff.1 hc).1
    unfold GB at *
    omega
end Go.Proofs.YtghfijncihbojaaGreatDoor

set_option linter.unusedSimpArgs false
set_option linter.unusedVariables false
set_option linter.unnecessarySimpa false
namespace Go.Proofs.YtghfijncihbojaaGreatDoor
open Go Go.RowKit
attribute [local irreducible] JL JC JQ JO LO PO JA JX Ct

theorem run_ov {tS tR : TypeId} {f : FuncId} {fn : Func} {P : Program} (hf : P.funcs[f]? = some fn) (hname : (fn.name == "runtime.NumGoroutine") = false) (hb : fn.body.isNone = true) (hn : Extern.findNext fn = none)
    (he : Extern.find fn = some (Extern.SlicesOverlaps.overlaps #[tS, tS] #[tR])) : ∀ args w, (callFunc f args).run P w = ((Extern.SlicesOverlaps.overlaps #[tS, tS] #[tR] args).run P w).andThen fun v w' => .ok (.value v) w' :=
  fun args w => run_callFunc_extern hf hname hb hn he args w

theorem C_cloneC (a : Option Addr) (c : Nat) (s : List Cell) (hn : s.length ≤ 1000000000000) :
    Ct Tryz.prog 96 [.slice a s.length c] [] (fun w_ => Sees w_ (.slice a s.length c) 2 s.length (s.flatMap encC)) (fun v A' => ∃ a' c', v = .slice a' s.length c' ∧ A' = [.row (.slice a' s.length c') 130 2 s.length (s.flatMap encC)]) := by
  refine Ct.intro Tryz.func96 rfl Tryz.ntmps96 (lb rfl) fun w0 hpre => ?_
  have hs_a : Sees w0 _ _ _ _ := hpre
  refine jD <| jF <| jL rfl (jG (v := .slice none 0 0) rfl) <| jE <| jB <| jD <| jD <| jF <| jL rfl (jC (v := .slice a s.length c) rfl) <| jL rfl (PO.eqNil ki rfl rfl) ?_
  refine jE <| jB ?_
  rcases Bool.eq_false_or_eq_true (a.isNone) with h_1 | h_1
  · refine jQ (cB h_1) <| jD <| jF <| jL rfl (jG (v := .slice none 0 0) rfl) <| jE <| jB <| jM <| jb <| JQ.nilrow 130 2 <| jU (.inl rfl) rfl (jN (v := .slice none 0 0) rfl) (List.Sublist.refl _) ?_
    have ha : a = none := by simpa using h_1
    have hz : s.length = 0 := sees_none (ha ▸ hpre)
    have hs0 : s = [] := List.length_eq_zero_iff.1 hz
    subst hs0
    exact ⟨none, 0, rfl, rfl⟩
  refine jR (cB h_1) <| jW <| jB <| jD <| jF ?_
  refine jH rfl (kH (ps := []) (cur := #[]) ki kp gJ rfl (by kernel_rfl) (by decide) (by decide)) ?_
  rintro _ _ ⟨a_2, rfl, rfl⟩
  refine jL rfl (jC (v := .slice a s.length c) rfl) ?_
  refine jH rfl (kG 0 (q := s.length) (news := s.flatMap encC) (n' := s.length) (cs' := s.flatMap encC) rfl ki ki gN rfl (by' := 32) rfl rfl rfl rfl rfl (fun w hw => Src.sees (hw.seeOut_ hs_a nM) (oneC _)) (by (try simp only [LE]); omega) (by (try simp only [LE]); omega) (by (try simp only [List.length_take, List.length_drop]); first | rfl | omega) rfl) ?_
  rintro _ _ ⟨a_3, c_4, rfl, rfl⟩
  refine jL rfl (jG (v := .slice a_3 s.length c_4) rfl) <| jE <| jB <| jM <| jU (.inl rfl) rfl (jN (v := .slice a_3 s.length c_4) rfl) (List.Sublist.refl _) ?_
  exact ⟨_, _, rfl, rfl⟩

theorem C_idxC (fp : FuncId) (hcf : ∀ args w, (callFunc fp args).run Tryz.prog w = .ok (.enter fp args) w) (kb : Nat) (key : Str) (p : Cell → Bool) (hp : ∀ x : Cell, Ct Tryz.prog fp [.agg #[str x.1, str x.2], .pointer (some ⟨kb, 0, none⟩)] [bk kb 9 [str key]] (fun _ => True) (fun v A' => v = .bool (p x) ∧ A' = [bk kb 9 [str key]])) (a : Option Addr) (c : Nat) (s : List Cell) (hn : s.length ≤ 1000000000000) :
    Ct Tryz.prog 216 [.slice a s.length c, .func (.func fp) #[] #[.pointer (some ⟨kb, 0, none⟩)]] [bk kb 9 [str key]] (fun w_ => Sees w_ (.slice a s.length c) 2 s.length (s.flatMap encC) ∧ (∀ b, (Value.slice a s.length c).ownBlock = some b → b ≠ kb)) (fun v A' => v = .int .i64 (idxI p s) ∧ A' = [bk kb 9 [str key]]) := by
  refine Ct.intro Tryz.func216 rfl Tryz.ntmps216 (lb rfl) fun w0 hpre => ?_
  have hs_a : Sees w0 _ _ _ _ := hpre.1
  refine jD <| jF <| jL rfl (jG (v := iv 0) rfl) <| jE <| jB <| jD <| jD <| jF <| jL rfl (jC (v := .slice a s.length c) rfl) <| jL rfl (jy ki rfl) ?_
  refine jL rfl (jC (v := iv 0) rfl) <| jE <| jB <| jl <| kE (fun k_ e_ L_ => ∃ j : Nat, (j ≤ s.length) ∧ (∀ i, i < j → p (s.getD i c0) = false) ∧ e_ 0 = .slice a s.length c ∧ e_ 1 = .func (.func fp) #[] #[.pointer (some ⟨kb, 0, none⟩)] ∧ e_ 7 = nv s.length ∧ e_ 8 = nv j ∧ L_ = [bk kb 9 [str key]] ∧ k_ = s.length - j) _ ⟨0, by omega, (fun i hi => absurd hi (Nat.not_lt_zero i)), rfl, rfl, rfl, rfl, rfl, rfl⟩ ?_
  rintro _ e_1 _ ⟨j, hj, hN, he_2, he_3, he_4, he_5, rfl, rfl⟩
  refine jD <| jF <| jL rfl (jr he_5 he_4) <| jE <| jB <| jD ?_
  by_cases h_6 : ((j : Nat) : Int) < ((s.length : Nat) : Int)
  · have hlt : j < s.length := by omega
    refine jQ (cB (dT h_6)) <| jW <| jB <| jD <| jl <| jD <| jF <| jL rfl (jC (v := nv j) he_5) <| jL rfl (jG (v := nv j) rfl) <| jE ?_
    refine jB <| jD <| jF <| jL rfl (jC (v := .func (.func fp) #[] #[.pointer (some ⟨kb, 0, none⟩)]) he_3) <| jL rfl (jC (v := .slice a s.length c) he_2) <| jL rfl (jC (v := nv j) rfl) ?_
    obtain ⟨hr_7, hr_7b, -⟩ := sees_some hs_a (by omega)
    refine jL rfl (kD (i := j) ki kp hr_7 hr_7b rfl rfl (by omega)) <| kP rfl (LO.loadSK (vs := [str ((s.getD j c0).1), str ((s.getD j c0).2)]) hs_a (notin_bk hpre.2) rfl gR kp (atC (by omega)) rfl (by decide)) ?_
    refine jH rfl (JO.callV [0] hcf rfl (hp (s.getD j c0)) rfl rfl (fun _ _ => trivial)) ?_
    rintro _ _ ⟨_, ⟨rfl, rfl⟩, rfl⟩
    refine jE <| jB ?_
    rcases Bool.eq_false_or_eq_true (p (s.getD j c0)) with h_8 | h_8
    · have hpj := h_8
      refine jQ (cB h_8) <| jD <| jF <| jL rfl (jC (v := nv j) rfl) <| jL rfl (jG (v := nv j) rfl) <| jE <| jB <| jM <| kA <| jb ?_
      refine jb <| kA <| jb <| jU (.inl rfl) rfl (jN (v := nv j) rfl) (List.Sublist.refl _) ?_
      refine ⟨?_, rfl⟩
      rw [idxI_found c0 hlt hN hpj]
    have hpj := h_8
    refine jR (cB h_8) <| jW <| jk <| jB <| jF <| jL rfl (ji (c := ((j + 1 : Nat) : Int)) he_5 rfl (wr (by omega))) <| jL rfl (jC (v := iv ((j + 1 : Nat) : Int)) rfl) <| jE ?_
    refine ju (s.length - (j + 1)) (by omega) ⟨j + 1, by omega, (fun i hi => if h : i = j then h ▸ hpj else hN i (by omega)), he_2, he_3, he_4, rfl, rfl, rfl⟩
  refine jR (cB (dF h_6)) <| kB <| jm <| jm <| kC <| jB <| jD <| jF <| jL rfl (jG (v := iv (-1)) rfl) <| jE ?_
  refine jB <| jM <| jU (.inl rfl) rfl (jN (v := iv (-1)) rfl) (List.Sublist.refl _) ?_
  refine ⟨?_, rfl⟩
  rw [idxI_none c0 (by omega) hN]

theorem C_insC (a va : Option Addr) (c : Nat) (s : List Cell) (i : Nat) (x : Cell) (hi : i ≤ s.length) (hn : s.length ≤ 1000000000000) (hcl : (s.flatMap encC).length = s.length * 2) :
    Ct Tryz.prog 218 [.slice a s.length c, .int .i64 ((i : Nat) : Int), .slice va 1 1] [Res.row (.slice a s.length c) 130 2 s.length (s.flatMap encC), Res.row (.slice va 1 1) 130 2 1 ([x].flatMap encC)] (fun _ => True) (fun v A' => ∃ a' c', v = .slice a' (insertAt i x s).length c' ∧ A' = [.row (.slice a' (insertAt i x s).length c') 130 2 (insertAt i x s).length ((insertAt i x s).flatMap encC)]) := by
  refine Ct.intro Tryz.func218 rfl Tryz.ntmps218 (lb rfl) fun w0 hpre => ?_
  refine jD <| jF <| jL rfl (jG (v := .slice none 0 0) rfl) <| jE <| jB <| jD <| jF <| jL rfl (jC (v := .slice a s.length c) rfl) <| jL rfl (jC (v := nv i) rfl) ?_
  refine kW fun hst => ?_
  obtain ⟨hf_1m, hf_1x, hf_1s, hf_1l⟩ := fits_of hst (i := 0) rfl
  refine jL rfl (PO.sliceVl (i := i) ki kp hf_1s rfl rfl (by omega)) <| jE <| jB <| jD <| jF <| jL rfl (jC (v := .slice va 1 1) rfl) <| jL rfl (jy ki rfl) <| jL rfl (jG (v := nv 1) rfl) <| jE <| jB ?_
  refine jD <| jD <| jF <| jL rfl (jC (v := nv 1) rfl) <| jL rfl (jx rfl rfl) <| jE <| jB ?_
  by_cases h_2 : ((1 : Nat) : Int) = 0
  · exfalso; omega
  refine jR (cB (dF h_2)) <| jW <| jB <| jD <| jF <| jL rfl (jC (v := .slice a s.length c) rfl) <| jL rfl (jy ki rfl) <| jL rfl (jG (v := nv s.length) rfl) <| jE <| jB ?_
  refine jD <| jD <| jF <| jL rfl (jC (v := nv i) rfl) <| jL rfl (jC (v := nv s.length) rfl) <| jL rfl (jx rfl rfl) <| jE <| jB ?_
  by_cases h_3 : ((i : Nat) : Int) = ((s.length : Nat) : Int)
  · refine jQ (cB (dT h_3)) <| jD <| jF <| jL rfl (jC (v := .slice a s.length c) rfl) <| jL rfl (jC (v := .slice va 1 1) rfl) ?_
    refine jH rfl (kG 0 (q := 1) (news := [x].flatMap encC) (n' := (s ++ [x]).length) (cs' := (s ++ [x]).flatMap encC) rfl ki ki gN rfl (by' := 32) rfl rfl rfl rfl rfl (fun w hw => Src.sees (hw.see (i := 1) rfl) (oneC _)) (by (try simp only [LE]); omega) (by (try simp only [LE]); omega) (by simp only [List.length_append, List.length_take, List.length_drop, List.length_cons, List.length_nil] <;> first | rfl | omega) (by simp only [List.flatMap_append])) ?_
    rintro _ _ ⟨a_4, c_5, rfl, rfl⟩
    refine jL rfl (jG (v := .slice a_4 ((s ++ [x]).length) c_5) rfl) <| jE <| jB <| jM <| jb <| jU (.inl rfl) rfl (jN (v := .slice a_4 ((s ++ [x]).length) c_5) rfl) (sL [Res.row (.slice a_4 ((s ++ [x]).length) c_5) 130 2 ((s ++ [x]).length) ((s ++ [x]).flatMap encC)] [Res.row (.slice va 1 1) 130 2 1 ([x].flatMap encC)]) ?_
    have hin : i = s.length := by omega
    exact ⟨_, _, by rw [ins_end hin], by rw [ins_end hin]⟩
  refine jR (cB (dF h_3)) <| jW <| jB <| jD <| jD <| jF <| jL rfl (jC (v := nv s.length) rfl) <| jL rfl (jC (v := nv 1) rfl) <| jL rfl (ji (c := ((s.length + 1 : Nat) : Int)) rfl rfl (wr (by omega))) <| jL rfl (jC (v := .slice a s.length c) rfl) ?_
  refine jL rfl (PO.capV ki rfl) <| jL rfl (kU rfl rfl) <| jE <| jB ?_
  by_cases h_6 : ((c : Nat) : Int) < ((s.length + 1 : Nat) : Int)
  · refine jQ (cB (dT h_6)) <| jD <| jF <| jL rfl (jC (v := .slice a s.length c) rfl) <| jL rfl (jC (v := nv i) rfl) <| jL rfl (PO.sliceVh (j := i) ki kp hf_1s rfl rfl (by omega)) <| jL rfl (jC (v := nv s.length) rfl) <| jL rfl (jC (v := nv 1) rfl) <| jL rfl (ji (c := ((s.length + 1 : Nat) : Int)) rfl rfl (wr (by omega))) <| jL rfl (jC (v := nv i) rfl) ?_
    refine jL rfl (kQ (c := ((s.length + 1 - i : Nat) : Int)) rfl rfl (wr (by omega))) ?_
    refine jH rfl (JO.appendMake' 0 (i := i) (r := s.length + 1 - i) (by' := 32) (n' := s.length + 1) rfl ki gD gN rfl (by decide) rfl rfl rfl rfl rfl (by omega) (by omega) (by omega) (by omega) (by decide) (by omega)) ?_
    rintro _ _ ⟨a_7, c_8, zs_9, rfl, hzs_9c, hzs_9, rfl⟩
    refine jL rfl (jG (v := .slice a_7 (s.length + 1) c_8) rfl) <| jE <| jB <| jD <| jF <| jL rfl (jC (v := .slice a_7 (s.length + 1) c_8) rfl) <| jL rfl (jC (v := nv i) rfl) ?_
    refine kW fun hst => ?_
    obtain ⟨hf_10m, hf_10x, hf_10s, hf_10l⟩ := fits_of hst (i := 0) rfl
    refine jL rfl (PO.sliceVl (i := i) ki kp hf_10s rfl rfl (by omega)) <| jL rfl (jC (v := .slice va 1 1) rfl) ?_
    refine jH rfl (JO.copy 0 (k := 2) (lo := i) (q := 1) (news := [str x.1, str x.2]) (cs' := ((s.flatMap encC).take (i * 2) ++ zs_9).take (i * 2) ++ [str x.1, str x.2] ++ ((s.flatMap encC).take (i * 2) ++ zs_9).drop (i * 2 + [str x.1, str x.2].length)) rfl ki kp rfl rfl (by show min _ _ = _; omega) (by omega) (by omega) (by decide) (by omega) (fun w hw => Fst.sees (hw.see (i := 2) rfl) (Nat.le_refl _)) rfl (oneC [x]) (rfl)) ?_
    rintro _ _ rfl
    refine jE <| jB <| jD <| jq [] 0 mixed (by simp) <| kJ 0 rfl (by kernel_rfl) (NP.th (NP.th NP.body)) (by kernel_rfl) (by kernel_rfl) rfl (jC (v := .slice a_7 (s.length + 1) c_8) rfl) <| kJ 1 rfl (by kernel_rfl) (NP.th (NP.th NP.body)) (by kernel_rfl) (by kernel_rfl) rfl (jC (v := nv i) rfl) <| kJ 2 rfl (by kernel_rfl) (NP.th (NP.th NP.body)) (by kernel_rfl) (by kernel_rfl) rfl (jC (v := nv 1) rfl) <| kJ 3 rfl (by kernel_rfl) (NP.th (NP.th NP.body)) (by kernel_rfl) (by kernel_rfl) rfl (ji (c := ((i + 1 : Nat) : Int)) rfl rfl (wr (by omega))) <| kJ 4 rfl (by kernel_rfl) (NP.th (NP.th NP.body)) (by kernel_rfl) (by kernel_rfl) rfl (PO.sliceVl (i := (i + 1)) ki kp hf_10s rfl rfl (by omega)) <| kJ 5 rfl (by kernel_rfl) (NP.th (NP.th NP.body)) (by kernel_rfl) (by kernel_rfl) rfl (jC (v := .slice a s.length c) rfl) ?_
    refine kJ 6 rfl (by kernel_rfl) (NP.th (NP.th NP.body)) (by kernel_rfl) (by kernel_rfl) rfl (jC (v := nv i) rfl) <| kJ 7 rfl (by kernel_rfl) (NP.th (NP.th NP.body)) (by kernel_rfl) (by kernel_rfl) rfl (PO.sliceVl (i := i) ki kp hf_1s rfl rfl (by omega)) <| JA.one (i := 8) (by kernel_rfl) ?_
    refine JX.last rfl rfl (by decide) (by kernel_rfl) (JO.copy 0 (k := 2) (lo := (i + 1)) (q := s.length - i) (news := (s.flatMap encC).drop (i * 2)) (cs' := (insertAt i x s).flatMap encC) rfl ki kp rfl rfl (by show min _ _ = _; omega) (by omega) (by omega) (by decide) (by omega) (fun w hw => Fst.mid (hw.see (i := 1) rfl) (by omega) (by omega) (tail1 hcl)) (by rw [List.length_drop, hcl]; omega) (fun u hu => oneC s u (List.mem_of_mem_drop hu)) ((by rw [show (i + 1) * 2 = i * 2 + 2 by omega]; exact (ins_grow (k := 2) (by rw [hcl]; omega) (by rw [hcl]; omega) rfl).trans insC))) ?_
    rintro _ _ rfl
    refine jB <| jD <| jF <| jL rfl (jC (v := .slice a_7 (s.length + 1) c_8) rfl) <| jL rfl (jG (v := .slice a_7 (s.length + 1) c_8) rfl) <| jE <| jB <| jM <| jb <| jU (.inl rfl) rfl (jN (v := .slice a_7 (s.length + 1) c_8) rfl) (sL [Res.row (.slice a_7 (s.length + 1) c_8) 130 2 (s.length + 1) ((insertAt i x s).flatMap encC)] [Res.row (.slice a s.length c) 130 2 s.length (s.flatMap encC), Res.row (.slice va 1 1) 130 2 1 ([x].flatMap encC)]) ?_
    exact ⟨_, _, by rw [insertAt_length i x s hi], by rw [insertAt_length i x s hi]⟩
  refine jR (cB (dF h_6)) <| jW <| jB <| jD <| jF <| jL rfl (jC (v := .slice a s.length c) rfl) <| jL rfl (jC (v := nv s.length) rfl) <| jL rfl (jC (v := nv 1) rfl) <| jL rfl (ji (c := ((s.length + 1 : Nat) : Int)) rfl rfl (wr (by omega))) <| jL rfl (PO.sliceVh (j := (s.length + 1)) ki kp hf_1s rfl rfl (by omega)) ?_
  refine jL rfl (jG (v := .slice a (s.length + 1) c) rfl) <| jE <| jB <| jD <| jD ?_
  refine JC.widen 0 1 (m := s.length) rfl (by omega) fun zs_11 hzs_11 => ?_
  refine jF <| jL rfl (jC (v := .slice va 1 1) rfl) <| jL rfl (jC (v := .slice a (s.length + 1) c) rfl) <| jL rfl (jC (v := nv i) rfl) <| jL rfl (jC (v := nv 1) rfl) <| jL rfl (ji (c := ((i + 1 : Nat) : Int)) rfl rfl (wr (by omega))) <| jL rfl (PO.sliceVl (i := (i + 1)) ki kp hf_1s rfl rfl (by omega)) ?_
  refine jH rfl (JO.overlaps 1 0 (by decide) (k := 2) (lo := i + 1) rfl rfl (run_ov (tS := 40) (tR := 4) Tryz.func228 (by kernel_rfl) (by kernel_rfl) (by kernel_rfl) (by kernel_rfl)) ki kp rfl rfl (by decide) (by omega) (by decide) (by decide)) ?_
  rintro _ _ ⟨rfl, rfl⟩
  refine jL rfl (kF rfl) <| jE <| jB <| jQ (cB rfl) <| jD <| jq [] 0 mixed (by simp) <| kJ 0 rfl (by kernel_rfl) (NP.th (NP.th NP.body)) (by kernel_rfl) (by kernel_rfl) rfl (jC (v := .slice a (s.length + 1) c) rfl) <| kJ 1 rfl (by kernel_rfl) (NP.th (NP.th NP.body)) (by kernel_rfl) (by kernel_rfl) rfl (jC (v := nv i) rfl) <| kJ 2 rfl (by kernel_rfl) (NP.th (NP.th NP.body)) (by kernel_rfl) (by kernel_rfl) rfl (jC (v := nv 1) rfl) <| kJ 3 rfl (by kernel_rfl) (NP.th (NP.th NP.body)) (by kernel_rfl) (by kernel_rfl) rfl (ji (c := ((i + 1 : Nat) : Int)) rfl rfl (wr (by omega))) ?_
  refine kJ 4 rfl (by kernel_rfl) (NP.th (NP.th NP.body)) (by kernel_rfl) (by kernel_rfl) rfl (PO.sliceVl (i := (i + 1)) ki kp hf_1s rfl rfl (by omega)) <| kJ 5 rfl (by kernel_rfl) (NP.th (NP.th NP.body)) (by kernel_rfl) (by kernel_rfl) rfl (jC (v := .slice a (s.length + 1) c) rfl) <| kJ 6 rfl (by kernel_rfl) (NP.th (NP.th NP.body)) (by kernel_rfl) (by kernel_rfl) rfl (jC (v := nv i) rfl) <| kJ 7 rfl (by kernel_rfl) (NP.th (NP.th NP.body)) (by kernel_rfl) (by kernel_rfl) rfl (PO.sliceVl (i := i) ki kp hf_1s rfl rfl (by omega)) <| JA.one (i := 8) (by kernel_rfl) ?_
  refine JX.last rfl rfl (by decide) (by kernel_rfl) (JO.copy 0 (k := 2) (lo := (i + 1)) (q := s.length - i) (news := (s.flatMap encC).drop (i * 2)) (cs' := ((s.flatMap encC ++ zs_11)).take (i * 2 + 2) ++ (s.flatMap encC).drop (i * 2) ++ ((s.flatMap encC ++ zs_11)).drop (i * 2 + 2 + ((s.flatMap encC).drop (i * 2)).length)) rfl ki kp rfl rfl (by show min _ _ = _; omega) (by omega) (by omega) (by decide) (by omega) (fun w hw => Fst.mid (hw.see (i := 0) rfl) (by omega) (by omega) (tail2 hcl hi)) (by rw [List.length_drop, hcl]; omega) (fun u hu => oneC s u (List.mem_of_mem_drop hu)) ((by rw [show (i + 1) * 2 = i * 2 + 2 by omega]))) ?_
  rintro _ _ rfl
  refine jB <| jD <| jF <| jL rfl (jC (v := .slice a (s.length + 1) c) rfl) <| jL rfl (jC (v := nv i) rfl) <| jL rfl (PO.sliceVl (i := i) ki kp hf_1s rfl rfl (by omega)) <| jL rfl (jC (v := .slice va 1 1) rfl) ?_
  refine jH rfl (JO.copy 0 (k := 2) (lo := i) (q := 1) (news := [str x.1, str x.2]) (cs' := (insertAt i x s).flatMap encC) rfl ki kp rfl rfl (by show min _ _ = _; omega) (by omega) (by omega) (by decide) (by omega) (fun w hw => Fst.sees (hw.see (i := 1) rfl) (Nat.le_refl _)) rfl (oneC [x]) ((ins_room (k := 2) (by rw [hcl]; omega) (by omega) rfl).trans insC)) ?_
  rintro _ _ rfl
  refine jE <| jB <| jD <| jF <| jL rfl (jC (v := .slice a (s.length + 1) c) rfl) <| jL rfl (jG (v := .slice a (s.length + 1) c) rfl) <| jE <| jB <| jM <| jb ?_
  refine jU (.inl rfl) rfl (jN (v := .slice a (s.length + 1) c) rfl) (sL [Res.row (.slice a (s.length + 1) c) 130 2 (s.length + 1) ((insertAt i x s).flatMap encC)] [Res.row (.slice va 1 1) 130 2 1 ([x].flatMap encC)]) ?_
  exact ⟨_, _, by rw [insertAt_length i x s hi], by rw [insertAt_length i x s hi]⟩

theorem C_delC (fp : FuncId) (hcf : ∀ args w, (callFunc fp args).run Tryz.prog w = .ok (.enter fp args) w) (kb : Nat) (key : Str) (p : Cell → Bool) (hp : ∀ x : Cell, Ct Tryz.prog fp [.agg #[str x.1, str x.2], .pointer (some ⟨kb, 0, none⟩)] [bk kb 9 [str key]] (fun _ => True) (fun v A' => v = .bool (p x) ∧ A' = [bk kb 9 [str key]])) (a : Option Addr) (c : Nat) (s : List Cell) (hn : s.length ≤ 1000000000000) :
    Ct Tryz.prog 214 [.slice a s.length c, .func (.func fp) #[] #[.pointer (some ⟨kb, 0, none⟩)]] [bk kb 9 [str key], Res.row (.slice a s.length c) 130 2 s.length (s.flatMap encC)] (fun _ => True) (fun v A' => ∃ a' c', v = .slice a' (s.filter (fun c => !p c)).length c' ∧ A' = [bk kb 9 [str key], .row (.slice a' (s.filter (fun c => !p c)).length c') 130 2 (s.filter (fun c => !p c)).length ((s.filter (fun c => !p c)).flatMap encC)]) := by
  refine Ct.intro Tryz.func214 rfl Tryz.ntmps214 (lb rfl) fun w0 hpre => ?_
  refine jD <| jF <| jL rfl (jG (v := .slice none 0 0) rfl) <| jE <| jB <| jD <| jF <| jL rfl (jC (v := .slice a s.length c) rfl) <| jL rfl (jC (v := .func (.func fp) #[] #[.pointer (some ⟨kb, 0, none⟩)]) rfl) ?_
  refine jH rfl (jI [0] Tryz.call216 rfl (C_idxC fp hcf kb key p hp a c s (by omega)) rfl (fun w hw => ⟨hw.see (i := 1) rfl, hw.apartO 1 0 rfl rfl rfl⟩)) ?_
  rintro _ _ ⟨_, ⟨rfl, rfl⟩, rfl⟩
  have hix0 := idxI_lo p s
  have hfl0 := findAt_le p s
  refine jL rfl (jG (v := iv (idxI p s)) rfl) <| jE <| jB <| jD <| jD <| jF <| jL rfl (jC (v := iv (idxI p s)) rfl) <| jL rfl (jx rfl rfl) <| jE <| jB ?_
  by_cases h_1 : (idxI p s) = (-1)
  · have hfe : findAt p s = s.length := by omega
    refine jQ (cB (dT h_1)) <| jD <| jF <| jL rfl (jC (v := .slice a s.length c) rfl) <| jL rfl (jG (v := .slice a s.length c) rfl) <| jE <| jB <| jM <| jb <| jU (.inl rfl) rfl (jN (v := .slice a s.length c) rfl) (List.Sublist.refl _) ?_
    exact ⟨_, _, by rw [del_none hfe], by rw [del_none hfe]; rfl⟩
  have hfl : findAt p s < s.length := by omega
  have hie : idxI p s = ((findAt p s : Nat) : Int) := by omega
  refine jR (cB (dF h_1)) <| jW <| jB <| jD <| jD <| jF <| jL rfl (jC (v := iv ((findAt p s : Nat) : Int)) (congrArg (Value.int .i64) hie)) <| jL rfl (ji (c := (((findAt p s) + 1 : Nat) : Int)) rfl rfl (wr (by omega))) <| jL rfl (jG (v := iv (((findAt p s) + 1 : Nat) : Int)) rfl) <| jE ?_
  refine jB <| jl <| kE (fun k_ e_ L_ => ∃ i : Nat, ∃ j : Nat, ∃ X : List Cell, (j ≤ s.length) ∧ (i < j) ∧ (X.length = s.length) ∧ (X.take i = (s.take j).filter (fun c => !p c)) ∧ (X.drop j = s.drop j) ∧ e_ 0 = .slice a s.length c ∧ e_ 1 = .func (.func fp) #[] #[.pointer (some ⟨kb, 0, none⟩)] ∧ e_ 4 = .slice none 0 0 ∧ e_ 5 = nv i ∧ e_ 6 = nv j ∧ L_ = [bk kb 9 [str key], Res.row (.slice a s.length c) 130 2 s.length (X.flatMap encC)] ∧ k_ = s.length - j) _ ⟨findAt p s, (findAt p s + 1), s, by omega, by omega, rfl, (del_start hfl), rfl, rfl, rfl, rfl, (congrArg (Value.int .i64) hie), rfl, rfl, rfl⟩ ?_
  rintro _ e_2 _ ⟨i, j, X, hj, hij, hX, hXi, hXj, he_3, he_4, he_5, he_6, he_7, rfl, rfl⟩
  refine jD <| jD <| jF <| jL rfl (jC (v := nv j) he_7) <| jL rfl (jC (v := .slice a s.length c) he_3) <| jL rfl (jy ki rfl) <| jL rfl (jr rfl rfl) <| jE <| jB ?_
  by_cases h_8 : ((j : Nat) : Int) < ((s.length : Nat) : Int)
  · have hlt : j < s.length := by omega
    refine jQ (cB (dT h_8)) <| jW <| jB <| jD <| jl <| jD <| jF <| jL rfl (jC (v := .slice a s.length c) he_3) <| jL rfl (jC (v := nv j) he_7) ?_
    refine kW fun hst => ?_
    obtain ⟨hr_9, hr_9b, -⟩ := row_some 1 rfl (by omega) hst
    refine jL rfl (kD (i := j) ki kp hr_9 hr_9b rfl rfl (by omega)) <| kP rfl (LO.loadRK 1 (vs := [str ((X.getD j c0).1), str ((X.getD j c0).2)]) rfl rfl gR kp (atC (by omega)) rfl (by decide)) ?_
    refine jH rfl (jh (z := .agg #[str [], str []]) (cs := [str [], str []]) gJ rfl) ?_
    rintro _ _ ⟨b_10, rfl, rfl⟩
    refine jH rfl (ja 0 (vs := [str ((X.getD j c0).1), str ((X.getD j c0).2)]) (cs' := [str ((X.getD j c0).1), str ((X.getD j c0).2)]) rfl rfl rfl rfl kp rfl rfl (lb rfl) rfl) ?_
    rintro _ _ rfl
    refine jE <| jB <| jD <| jF <| jL rfl (jC (v := .func (.func fp) #[] #[.pointer (some ⟨kb, 0, none⟩)]) he_4) <| kP rfl (je 0 (vs := [str ((X.getD j c0).1), str ((X.getD j c0).2)]) rfl rfl gR kp rfl rfl) ?_
    refine jH rfl (JO.callV [1] hcf rfl (hp (X.getD j c0)) rfl rfl (fun _ _ => trivial)) ?_
    rintro _ _ ⟨_, ⟨rfl, rfl⟩, rfl⟩
    refine jL rfl (kF rfl) <| jE <| jB ?_
    rcases Bool.eq_false_or_eq_true (p (X.getD j c0)) with h_11 | h_11
    · have hpj := h_11
      refine jR (cB (cN h_11)) <| jW <| jk <| jB <| jF <| jL rfl (jC (v := nv j) he_7) <| jL rfl (ji (c := ((j + 1 : Nat) : Int)) rfl rfl (wr (by omega))) <| jL rfl (jG (v := iv ((j + 1 : Nat) : Int)) rfl) <| jE <| jt [0, 1] (A := [bk kb 9 [str key], Res.row (.slice a s.length c) 130 2 s.length (X.flatMap encC)]) rfl ?_
      refine ju (s.length - (j + 1)) (by omega) ⟨i, j + 1, X, by omega, by omega, hX, (del_skip c0 hXj hlt hpj hXi), (drop_more hXj), he_3, he_4, he_5, he_6, rfl, rfl, rfl⟩
    have hpj := h_11
    refine jQ (cB (cN h_11)) <| jD <| jF <| jL rfl (jC (v := .slice a s.length c) he_3) <| jL rfl (jC (v := nv i) he_6) <| kP rfl (je 1 (vs := [str ((X.getD j c0).1), str ((X.getD j c0).2)]) rfl rfl gR kp rfl rfl) <| jL rfl (kD (i := i) ki kp hr_9 hr_9b rfl rfl (by omega)) ?_
    refine jH rfl (JO.storeR 2 (vs := [str ((X.getD j c0).1), str ((X.getD j c0).2)]) (cs' := (X.set i ((X.getD j c0).1, (X.getD j c0).2)).flatMap encC) rfl rfl rfl rfl kp rfl rfl (by decide) (by rw [lenC]; omega) (setC (by omega))) ?_
    rintro _ _ rfl
    refine jE <| jB <| jF <| jL rfl (jC (v := nv i) he_6) <| jL rfl (ji (c := ((i + 1 : Nat) : Int)) rfl rfl (wr (by omega))) <| jL rfl (jG (v := iv ((i + 1 : Nat) : Int)) rfl) <| jE <| jk <| jB <| jF ?_
    refine jL rfl (jC (v := nv j) he_7) <| jL rfl (ji (c := ((j + 1 : Nat) : Int)) rfl rfl (wr (by omega))) <| jL rfl (jG (v := iv ((j + 1 : Nat) : Int)) rfl) <| jE <| jt [0, 1] (A := [bk kb 9 [str key], Res.row (.slice a s.length c) 130 2 s.length ((X.set i ((X.getD j c0).1, (X.getD j c0).2)).flatMap encC)]) rfl ?_
    refine ju (s.length - (j + 1)) (by omega) ⟨i + 1, j + 1, X.set i (X.getD j c0), by omega, by omega, (by rw [List.length_set]; exact hX), (del_keep c0 hXj hlt hX hij hpj hXi), (del_keepD hXj hij _), he_3, he_4, he_5, rfl, rfl, rfl, rfl⟩
  refine jR (cB (dF h_8)) <| kB <| jm <| jm <| kC <| jB <| jD <| jF <| jL rfl (jC (v := .slice a s.length c) he_3) <| jL rfl (jC (v := nv i) he_6) ?_
  refine kW fun hst => ?_
  obtain ⟨hf_12m, hf_12x, hf_12s, hf_12l⟩ := fits_of hst (i := 1) rfl
  refine jL rfl (PO.sliceVl (i := i) ki kp hf_12s rfl rfl (by omega)) ?_
  refine jH rfl (JO.clear 1 (k := 2) (lo := i) (z := .agg #[str [], str []]) rfl ki gJ rfl (by decide) rfl (by decide) (by omega) (by omega)) ?_
  rintro _ _ ⟨zs_13, hzs_13, rfl⟩
  refine jE <| jB <| jD <| JC.narrow 1 i (cs' := (s.filter (fun c => !p c)).flatMap encC) rfl (by omega) (by rw [takeC (by omega), del_done (by omega) hXi]) <| jF <| jL rfl (jC (v := .slice a s.length c) he_3) <| jL rfl (jC (v := nv i) he_6) <| jL rfl (PO.sliceVh (j := i) ki kp hf_12s rfl rfl (by omega)) <| jL rfl (jG (v := .slice a i c) rfl) <| jE ?_
  refine jB <| jM <| jU (.inl rfl) rfl (jN (v := .slice a i c) rfl) (List.Sublist.refl _) ?_
  have hln := del_len hX (by omega) (del_done (by omega) hXi)
  exact ⟨_, _, by rw [hln], by rw [hln]; rfl⟩

theorem C_cloneS (a : Option Addr) (c : Nat) (s : List Str) (hn : s.length ≤ 1000000000000) :
    Ct Tryz.prog 127 [.slice a s.length c] [] (fun w_ => Sees w_ (.slice a s.length c) 1 s.length (s.map str)) (fun v A' => ∃ a' c', v = .slice a' s.length c' ∧ A' = [.row (.slice a' s.length c') 9 1 s.length (s.map str)]) := by
  refine Ct.intro Tryz.func127 rfl Tryz.ntmps127 (lb rfl) fun w0 hpre => ?_
  have hs_a : Sees w0 _ _ _ _ := hpre
  refine jD <| jF <| jL rfl (jG (v := .slice none 0 0) rfl) <| jE <| jB <| jD <| jD <| jF <| jL rfl (jC (v := .slice a s.length c) rfl) <| jL rfl (PO.eqNil kd rfl rfl) ?_
  refine jE <| jB ?_
  rcases Bool.eq_false_or_eq_true (a.isNone) with h_1 | h_1
  · refine jQ (cB h_1) <| jD <| jF <| jL rfl (jG (v := .slice none 0 0) rfl) <| jE <| jB <| jM <| jb <| JQ.nilrow 9 1 <| jU (.inl rfl) rfl (jN (v := .slice none 0 0) rfl) (List.Sublist.refl _) ?_
    have ha : a = none := by simpa using h_1
    have hz : s.length = 0 := sees_none (ha ▸ hpre)
    have hs0 : s = [] := List.length_eq_zero_iff.1 hz
    subst hs0
    exact ⟨none, 0, rfl, rfl⟩
  refine jR (cB h_1) <| jW <| jB <| jD <| jF ?_
  refine jH rfl (kH (ps := []) (cur := #[]) kd kh gA rfl (by kernel_rfl) (by decide) (by decide)) ?_
  rintro _ _ ⟨a_2, rfl, rfl⟩
  refine jL rfl (jC (v := .slice a s.length c) rfl) ?_
  refine jH rfl (kG 0 (q := s.length) (news := s.map str) (n' := s.length) (cs' := s.map str) rfl kd kd kt rfl (by' := 16) rfl rfl rfl rfl rfl (fun w hw => Src.sees (hw.seeOut_ hs_a nM) (oneS _)) (by (try simp only [LE]); omega) (by (try simp only [LE]); omega) (by (try simp only [List.length_take, List.length_drop]); first | rfl | omega) rfl) ?_
  rintro _ _ ⟨a_3, c_4, rfl, rfl⟩
  refine jL rfl (jG (v := .slice a_3 s.length c_4) rfl) <| jE <| jB <| jM <| jU (.inl rfl) rfl (jN (v := .slice a_3 s.length c_4) rfl) (List.Sublist.refl _) ?_
  exact ⟨_, _, rfl, rfl⟩

theorem C_idxS (fp : FuncId) (hcf : ∀ args w, (callFunc fp args).run Tryz.prog w = .ok (.enter fp args) w) (kb : Nat) (key : Str) (p : Str → Bool) (hp : ∀ x : Str, Ct Tryz.prog fp [str x, .pointer (some ⟨kb, 0, none⟩)] [bk kb 9 [str key]] (fun _ => True) (fun v A' => v = .bool (p x) ∧ A' = [bk kb 9 [str key]])) (a : Option Addr) (c : Nat) (s : List Str) (hn : s.length ≤ 1000000000000) :
    Ct Tryz.prog 129 [.slice a s.length c, .func (.func fp) #[] #[.pointer (some ⟨kb, 0, none⟩)]] [bk kb 9 [str key]] (fun w_ => Sees w_ (.slice a s.length c) 1 s.length (s.map str) ∧ (∀ b, (Value.slice a s.length c).ownBlock = some b → b ≠ kb)) (fun v A' => v = .int .i64 (idxI p s) ∧ A' = [bk kb 9 [str key]]) := by
  refine Ct.intro Tryz.func129 rfl Tryz.ntmps129 (lb rfl) fun w0 hpre => ?_
  have hs_a : Sees w0 _ _ _ _ := hpre.1
  refine jD <| jF <| jL rfl (jG (v := iv 0) rfl) <| jE <| jB <| jD <| jD <| jF <| jL rfl (jC (v := .slice a s.length c) rfl) <| jL rfl (jy kd rfl) ?_
  refine jL rfl (jC (v := iv 0) rfl) <| jE <| jB <| jl <| kE (fun k_ e_ L_ => ∃ j : Nat, (j ≤ s.length) ∧ (∀ i, i < j → p (s.getD i []) = false) ∧ e_ 0 = .slice a s.length c ∧ e_ 1 = .func (.func fp) #[] #[.pointer (some ⟨kb, 0, none⟩)] ∧ e_ 7 = nv s.length ∧ e_ 8 = nv j ∧ L_ = [bk kb 9 [str key]] ∧ k_ = s.length - j) _ ⟨0, by omega, (fun i hi => absurd hi (Nat.not_lt_zero i)), rfl, rfl, rfl, rfl, rfl, rfl⟩ ?_
  rintro _ e_1 _ ⟨j, hj, hN, he_2, he_3, he_4, he_5, rfl, rfl⟩
  refine jD <| jF <| jL rfl (jr he_5 he_4) <| jE <| jB <| jD ?_
  by_cases h_6 : ((j : Nat) : Int) < ((s.length : Nat) : Int)
  · have hlt : j < s.length := by omega
    refine jQ (cB (dT h_6)) <| jW <| jB <| jD <| jl <| jD <| jF <| jL rfl (jC (v := nv j) he_5) <| jL rfl (jG (v := nv j) rfl) <| jE ?_
    refine jB <| jD <| jF <| jL rfl (jC (v := .func (.func fp) #[] #[.pointer (some ⟨kb, 0, none⟩)]) he_3) <| jL rfl (jC (v := .slice a s.length c) he_2) <| jL rfl (jC (v := nv j) rfl) ?_
    obtain ⟨hr_7, hr_7b, -⟩ := sees_some hs_a (by omega)
    refine jL rfl (kD (i := j) kd kh hr_7 hr_7b rfl rfl (by omega)) <| kP rfl (kV (v := str (s.getD j [])) hs_a (notin_bk hpre.2) rfl kg (atS (by omega))) ?_
    refine jH rfl (JO.callV [0] hcf rfl (hp (s.getD j [])) rfl rfl (fun _ _ => trivial)) ?_
    rintro _ _ ⟨_, ⟨rfl, rfl⟩, rfl⟩
    refine jE <| jB ?_
    rcases Bool.eq_false_or_eq_true (p (s.getD j [])) with h_8 | h_8
    · have hpj := h_8
      refine jQ (cB h_8) <| jD <| jF <| jL rfl (jC (v := nv j) rfl) <| jL rfl (jG (v := nv j) rfl) <| jE <| jB <| jM <| kA <| jb ?_
      refine jb <| kA <| jb <| jU (.inl rfl) rfl (jN (v := nv j) rfl) (List.Sublist.refl _) ?_
      refine ⟨?_, rfl⟩
      rw [idxI_found [] hlt hN hpj]
    have hpj := h_8
    refine jR (cB h_8) <| jW <| jk <| jB <| jF <| jL rfl (ji (c := ((j + 1 : Nat) : Int)) he_5 rfl (wr (by omega))) <| jL rfl (jC (v := iv ((j + 1 : Nat) : Int)) rfl) <| jE ?_
    refine ju (s.length - (j + 1)) (by omega) ⟨j + 1, by omega, (fun i hi => if h : i = j then h ▸ hpj else hN i (by omega)), he_2, he_3, he_4, rfl, rfl, rfl⟩
  refine jR (cB (dF h_6)) <| kB <| jm <| jm <| kC <| jB <| jD <| jF <| jL rfl (jG (v := iv (-1)) rfl) <| jE ?_
  refine jB <| jM <| jU (.inl rfl) rfl (jN (v := iv (-1)) rfl) (List.Sublist.refl _) ?_
  refine ⟨?_, rfl⟩
  rw [idxI_none [] (by omega) hN]

theorem C_insS (a va : Option Addr) (c : Nat) (s : List Str) (i : Nat) (x : Str) (hi : i ≤ s.length) (hn : s.length ≤ 1000000000000) (hcl : (s.map str).length = s.length * 1) :
    Ct Tryz.prog 131 [.slice a s.length c, .int .i64 ((i : Nat) : Int), .slice va 1 1] [Res.row (.slice a s.length c) 9 1 s.length (s.map str), Res.row (.slice va 1 1) 9 1 1 ([x].map str)] (fun _ => True) (fun v A' => ∃ a' c', v = .slice a' (insertAt i x s).length c' ∧ A' = [.row (.slice a' (insertAt i x s).length c') 9 1 (insertAt i x s).length ((insertAt i x s).map str)]) := by
  refine Ct.intro Tryz.func131 rfl Tryz.ntmps131 (lb rfl) fun w0 hpre => ?_
  refine jD <| jF <| jL rfl (jG (v := .slice none 0 0) rfl) <| jE <| jB <| jD <| jF <| jL rfl (jC (v := .slice a s.length c) rfl) <| jL rfl (jC (v := nv i) rfl) ?_
  refine kW fun hst => ?_
  obtain ⟨hf_1m, hf_1x, hf_1s, hf_1l⟩ := fits_of hst (i := 0) rfl
  refine jL rfl (PO.sliceVl (i := i) kd kh hf_1s rfl rfl (by omega)) <| jE <| jB <| jD <| jF <| jL rfl (jC (v := .slice va 1 1) rfl) <| jL rfl (jy kd rfl) <| jL rfl (jG (v := nv 1) rfl) <| jE <| jB ?_
  refine jD <| jD <| jF <| jL rfl (jC (v := nv 1) rfl) <| jL rfl (jx rfl rfl) <| jE <| jB ?_
  by_cases h_2 : ((1 : Nat) : Int) = 0
  · exfalso; omega
  refine jR (cB (dF h_2)) <| jW <| jB <| jD <| jF <| jL rfl (jC (v := .slice a s.length c) rfl) <| jL rfl (jy kd rfl) <| jL rfl (jG (v := nv s.length) rfl) <| jE <| jB ?_
  refine jD <| jD <| jF <| jL rfl (jC (v := nv i) rfl) <| jL rfl (jC (v := nv s.length) rfl) <| jL rfl (jx rfl rfl) <| jE <| jB ?_
  by_cases h_3 : ((i : Nat) : Int) = ((s.length : Nat) : Int)
  · refine jQ (cB (dT h_3)) <| jD <| jF <| jL rfl (jC (v := .slice a s.length c) rfl) <| jL rfl (jC (v := .slice va 1 1) rfl) ?_
    refine jH rfl (kG 0 (q := 1) (news := [x].map str) (n' := (s ++ [x]).length) (cs' := (s ++ [x]).map str) rfl kd kd kt rfl (by' := 16) rfl rfl rfl rfl rfl (fun w hw => Src.sees (hw.see (i := 1) rfl) (oneS _)) (by (try simp only [LE]); omega) (by (try simp only [LE]); omega) (by simp only [List.length_append, List.length_take, List.length_drop, List.length_cons, List.length_nil] <;> first | rfl | omega) (by simp only [List.map_append])) ?_
    rintro _ _ ⟨a_4, c_5, rfl, rfl⟩
    refine jL rfl (jG (v := .slice a_4 ((s ++ [x]).length) c_5) rfl) <| jE <| jB <| jM <| jb <| jU (.inl rfl) rfl (jN (v := .slice a_4 ((s ++ [x]).length) c_5) rfl) (sL [Res.row (.slice a_4 ((s ++ [x]).length) c_5) 9 1 ((s ++ [x]).length) ((s ++ [x]).map str)] [Res.row (.slice va 1 1) 9 1 1 ([x].map str)]) ?_
    have hin : i = s.length := by omega
    exact ⟨_, _, by rw [ins_end hin], by rw [ins_end hin]⟩
  refine jR (cB (dF h_3)) <| jW <| jB <| jD <| jD <| jF <| jL rfl (jC (v := nv s.length) rfl) <| jL rfl (jC (v := nv 1) rfl) <| jL rfl (ji (c := ((s.length + 1 : Nat) : Int)) rfl rfl (wr (by omega))) <| jL rfl (jC (v := .slice a s.length c) rfl) ?_
  refine jL rfl (PO.capV kd rfl) <| jL rfl (kU rfl rfl) <| jE <| jB ?_
  by_cases h_6 : ((c : Nat) : Int) < ((s.length + 1 : Nat) : Int)
  · refine jQ (cB (dT h_6)) <| jD <| jF <| jL rfl (jC (v := .slice a s.length c) rfl) <| jL rfl (jC (v := nv i) rfl) <| jL rfl (PO.sliceVh (j := i) kd kh hf_1s rfl rfl (by omega)) <| jL rfl (jC (v := nv s.length) rfl) <| jL rfl (jC (v := nv 1) rfl) <| jL rfl (ji (c := ((s.length + 1 : Nat) : Int)) rfl rfl (wr (by omega))) <| jL rfl (jC (v := nv i) rfl) ?_
    refine jL rfl (kQ (c := ((s.length + 1 - i : Nat) : Int)) rfl rfl (wr (by omega))) ?_
    refine jH rfl (JO.appendMake' 0 (i := i) (r := s.length + 1 - i) (by' := 16) (n' := s.length + 1) rfl kd gD kt rfl (by decide) rfl rfl rfl rfl rfl (by omega) (by omega) (by omega) (by omega) (by decide) (by omega)) ?_
    rintro _ _ ⟨a_7, c_8, zs_9, rfl, hzs_9c, hzs_9, rfl⟩
    refine jL rfl (jG (v := .slice a_7 (s.length + 1) c_8) rfl) <| jE <| jB <| jD <| jF <| jL rfl (jC (v := .slice a_7 (s.length + 1) c_8) rfl) <| jL rfl (jC (v := nv i) rfl) ?_
    refine kW fun hst => ?_
    obtain ⟨hf_10m, hf_10x, hf_10s, hf_10l⟩ := fits_of hst (i := 0) rfl
    refine jL rfl (PO.sliceVl (i := i) kd kh hf_10s rfl rfl (by omega)) <| jL rfl (jC (v := .slice va 1 1) rfl) ?_
    refine jH rfl (JO.copy 0 (k := 1) (lo := i) (q := 1) (news := [str x]) (cs' := ((s.map str).take (i * 1) ++ zs_9).take (i * 1) ++ [str x] ++ ((s.map str).take (i * 1) ++ zs_9).drop (i * 1 + [str x].length)) rfl kd kh rfl rfl (by show min _ _ = _; omega) (by omega) (by omega) (by decide) (by omega) (fun w hw => Fst.sees (hw.see (i := 2) rfl) (Nat.le_refl _)) rfl (oneS [x]) (rfl)) ?_
    rintro _ _ rfl
    refine jE <| jB <| jD <| jq [] 0 mixed (by simp) <| kJ 0 rfl (by kernel_rfl) (NP.th (NP.th NP.body)) (by kernel_rfl) (by kernel_rfl) rfl (jC (v := .slice a_7 (s.length + 1) c_8) rfl) <| kJ 1 rfl (by kernel_rfl) (NP.th (NP.th NP.body)) (by kernel_rfl) (by kernel_rfl) rfl (jC (v := nv i) rfl) <| kJ 2 rfl (by kernel_rfl) (NP.th (NP.th NP.body)) (by kernel_rfl) (by kernel_rfl) rfl (jC (v := nv 1) rfl) <| kJ 3 rfl (by kernel_rfl) (NP.th (NP.th NP.body)) (by kernel_rfl) (by kernel_rfl) rfl (ji (c := ((i + 1 : Nat) : Int)) rfl rfl (wr (by omega))) <| kJ 4 rfl (by kernel_rfl) (NP.th (NP.th NP.body)) (by kernel_rfl) (by kernel_rfl) rfl (PO.sliceVl (i := (i + 1)) kd kh hf_10s rfl rfl (by omega)) <| kJ 5 rfl (by kernel_rfl) (NP.th (NP.th NP.body)) (by kernel_rfl) (by kernel_rfl) rfl (jC (v := .slice a s.length c) rfl) ?_
    refine kJ 6 rfl (by kernel_rfl) (NP.th (NP.th NP.body)) (by kernel_rfl) (by kernel_rfl) rfl (jC (v := nv i) rfl) <| kJ 7 rfl (by kernel_rfl) (NP.th (NP.th NP.body)) (by kernel_rfl) (by kernel_rfl) rfl (PO.sliceVl (i := i) kd kh hf_1s rfl rfl (by omega)) <| JA.one (i := 8) (by kernel_rfl) ?_
    refine JX.last rfl rfl (by decide) (by kernel_rfl) (JO.copy 0 (k := 1) (lo := (i + 1)) (q := s.length - i) (news := (s.map str).drop (i * 1)) (cs' := (insertAt i x s).map str) rfl kd kh rfl rfl (by show min _ _ = _; omega) (by omega) (by omega) (by decide) (by omega) (fun w hw => Fst.mid (hw.see (i := 1) rfl) (by omega) (by omega) (tail1 hcl)) (by rw [List.length_drop, hcl]; omega) (fun u hu => oneS s u (List.mem_of_mem_drop hu)) ((by rw [show (i + 1) * 1 = i * 1 + 1 by omega]; exact (ins_grow (k := 1) (by rw [hcl]; omega) (by rw [hcl]; omega) rfl).trans insS))) ?_
    rintro _ _ rfl
    refine jB <| jD <| jF <| jL rfl (jC (v := .slice a_7 (s.length + 1) c_8) rfl) <| jL rfl (jG (v := .slice a_7 (s.length + 1) c_8) rfl) <| jE <| jB <| jM <| jb <| jU (.inl rfl) rfl (jN (v := .slice a_7 (s.length + 1) c_8) rfl) (sL [Res.row (.slice a_7 (s.length + 1) c_8) 9 1 (s.length + 1) ((insertAt i x s).map str)] [Res.row (.slice a s.length c) 9 1 s.length (s.map str), Res.row (.slice va 1 1) 9 1 1 ([x].map str)]) ?_
    exact ⟨_, _, by rw [insertAt_length i x s hi], by rw [insertAt_length i x s hi]⟩
  refine jR (cB (dF h_6)) <| jW <| jB <| jD <| jF <| jL rfl (jC (v := .slice a s.length c) rfl) <| jL rfl (jC (v := nv s.length) rfl) <| jL rfl (jC (v := nv 1) rfl) <| jL rfl (ji (c := ((s.length + 1 : Nat) : Int)) rfl rfl (wr (by omega))) <| jL rfl (PO.sliceVh (j := (s.length + 1)) kd kh hf_1s rfl rfl (by omega)) ?_
  refine jL rfl (jG (v := .slice a (s.length + 1) c) rfl) <| jE <| jB <| jD <| jD ?_
  refine JC.widen 0 1 (m := s.length) rfl (by omega) fun zs_11 hzs_11 => ?_
  refine jF <| jL rfl (jC (v := .slice va 1 1) rfl) <| jL rfl (jC (v := .slice a (s.length + 1) c) rfl) <| jL rfl (jC (v := nv i) rfl) <| jL rfl (jC (v := nv 1) rfl) <| jL rfl (ji (c := ((i + 1 : Nat) : Int)) rfl rfl (wr (by omega))) <| jL rfl (PO.sliceVl (i := (i + 1)) kd kh hf_1s rfl rfl (by omega)) ?_
  refine jH rfl (JO.overlaps 1 0 (by decide) (k := 1) (lo := i + 1) rfl rfl (run_ov (tS := 28) (tR := 4) Tryz.func185 (by kernel_rfl) (by kernel_rfl) (by kernel_rfl) (by kernel_rfl)) kd kh rfl rfl (by decide) (by omega) (by decide) (by decide)) ?_
  rintro _ _ ⟨rfl, rfl⟩
  refine jL rfl (kF rfl) <| jE <| jB <| jQ (cB rfl) <| jD <| jq [] 0 mixed (by simp) <| kJ 0 rfl (by kernel_rfl) (NP.th (NP.th NP.body)) (by kernel_rfl) (by kernel_rfl) rfl (jC (v := .slice a (s.length + 1) c) rfl) <| kJ 1 rfl (by kernel_rfl) (NP.th (NP.th NP.body)) (by kernel_rfl) (by kernel_rfl) rfl (jC (v := nv i) rfl) <| kJ 2 rfl (by kernel_rfl) (NP.th (NP.th NP.body)) (by kernel_rfl) (by kernel_rfl) rfl (jC (v := nv 1) rfl) <| kJ 3 rfl (by kernel_rfl) (NP.th (NP.th NP.body)) (by kernel_rfl) (by kernel_rfl) rfl (ji (c := ((i + 1 : Nat) : Int)) rfl rfl (wr (by omega))) ?_
  refine kJ 4 rfl (by kernel_rfl) (NP.th (NP.th NP.body)) (by kernel_rfl) (by kernel_rfl) rfl (PO.sliceVl (i := (i + 1)) kd kh hf_1s rfl rfl (by omega)) <| kJ 5 rfl (by kernel_rfl) (NP.th (NP.th NP.body)) (by kernel_rfl) (by kernel_rfl) rfl (jC (v := .slice a (s.length + 1) c) rfl) <| kJ 6 rfl (by kernel_rfl) (NP.th (NP.th NP.body)) (by kernel_rfl) (by kernel_rfl) rfl (jC (v := nv i) rfl) <| kJ 7 rfl (by kernel_rfl) (NP.th (NP.th NP.body)) (by kernel_rfl) (by kernel_rfl) rfl (PO.sliceVl (i := i) kd kh hf_1s rfl rfl (by omega)) <| JA.one (i := 8) (by kernel_rfl) ?_
  refine JX.last rfl rfl (by decide) (by kernel_rfl) (JO.copy 0 (k := 1) (lo := (i + 1)) (q := s.length - i) (news := (s.map str).drop (i * 1)) (cs' := ((s.map str ++ zs_11)).take (i * 1 + 1) ++ (s.map str).drop (i * 1) ++ ((s.map str ++ zs_11)).drop (i * 1 + 1 + ((s.map str).drop (i * 1)).length)) rfl kd kh rfl rfl (by show min _ _ = _; omega) (by omega) (by omega) (by decide) (by omega) (fun w hw => Fst.mid (hw.see (i := 0) rfl) (by omega) (by omega) (tail2 hcl hi)) (by rw [List.length_drop, hcl]; omega) (fun u hu => oneS s u (List.mem_of_mem_drop hu)) ((by rw [show (i + 1) * 1 = i * 1 + 1 by omega]))) ?_
  rintro _ _ rfl
  refine jB <| jD <| jF <| jL rfl (jC (v := .slice a (s.length + 1) c) rfl) <| jL rfl (jC (v := nv i) rfl) <| jL rfl (PO.sliceVl (i := i) kd kh hf_1s rfl rfl (by omega)) <| jL rfl (jC (v := .slice va 1 1) rfl) ?_
  refine jH rfl (JO.copy 0 (k := 1) (lo := i) (q := 1) (news := [str x]) (cs' := (insertAt i x s).map str) rfl kd kh rfl rfl (by show min _ _ = _; omega) (by omega) (by omega) (by decide) (by omega) (fun w hw => Fst.sees (hw.see (i := 1) rfl) (Nat.le_refl _)) rfl (oneS [x]) ((ins_room (k := 1) (by rw [hcl]; omega) (by omega) rfl).trans insS)) ?_
  rintro _ _ rfl
  refine jE <| jB <| jD <| jF <| jL rfl (jC (v := .slice a (s.length + 1) c) rfl) <| jL rfl (jG (v := .slice a (s.length + 1) c) rfl) <| jE <| jB <| jM <| jb ?_
  refine jU (.inl rfl) rfl (jN (v := .slice a (s.length + 1) c) rfl) (sL [Res.row (.slice a (s.length + 1) c) 9 1 (s.length + 1) ((insertAt i x s).map str)] [Res.row (.slice va 1 1) 9 1 1 ([x].map str)]) ?_
  exact ⟨_, _, by rw [insertAt_length i x s hi], by rw [insertAt_length i x s hi]⟩

end Go.Proofs.YtghfijncihbojaaGreatDoor

set_option linter.unusedSimpArgs false
set_option linter.unusedVariables false
set_option linter.unnecessarySimpa false
namespace Go.Proofs.YtghfijncihbojaaGreatDoor
open Go Go.RowKit

@[reducible] def rC (a : Option Addr) (c : Nat) (s : List Cell) : Res := .row (.slice a s.length c) 130 2 s.length (s.flatMap encC)
@[reducible] def rS (a : Option Addr) (c : Nat) (l : List Str) : Res := .row (.slice a l.length c) 9 1 l.length (l.map str)
@[reducible] def rI (a : Option Addr) (c : Nat) (l : List Int) : Res := .row (.slice a l.length c) 3 1 l.length (l.map (Value.int .i64))

theorem Ct.weak {P : Program} {f : FuncId} {args : List Value} {A : List Res} {Pre Pre' : World → Prop} {Post Post' : Value → List Res → Prop} (h : Ct P f args A Pre Post) (hp : ∀ w, Pre' w → Pre w) (hq : ∀ v A', Post v A' → Post' v A') : Ct P f args A Pre' Post' :=
  fun w hA hw => (h w hA (hp w hw)).mono fun _ _ ⟨v, A', he, hv, hs⟩ => ⟨v, A', he, hq v A' hv, hs⟩

/-- A nil slice is a row that nobody owns a block for. -/
theorem St.nilRow {w0 w : World} {D : List Nat} {L : List Res} (hw : St w0 D L w) (t k : Nat) : St w0 D (.row (.slice none 0 0) t k 0 [] :: L) w := by
  have e : idsOf (.row (.slice none 0 0) t k 0 [] :: L) = idsOf L := by rw [idsOf_cons]; simp [Res.ids, Value.ownBlock]
  refine ⟨⟨fun r hr => ?_, by rw [e]; exact hw.nodup, by rw [e]; exact hw.low, hw.room, hw.glob⟩, hw.os, hw.tape, hw.output, hw.size, by rw [e]; exact hw.fresh, hw.keep⟩
  simp only [List.mem_cons] at hr
  rcases hr with rfl | hr
  · exact ⟨by simp, .inl ⟨rfl, rfl⟩⟩
  · exact hw.holds r hr
theorem JL.nilRow {P : Program} {ops : Array Oper} {Q : Exit → Act → World → Prop} {n : Nat} {w0 : World} {D : List Nat} {L : List Res} {e : Env} {l : List Oper} (t k : Nat) (h : JL P ops Q n w0 D (.row (.slice none 0 0) t k 0 [] :: L) l e) : JL P ops Q n w0 D L l e := fun w hw => h w (hw.nilRow t k)
theorem JC.nilRow {P : Program} {Q : Exit → Act → World → Prop} {n : Nat} {w0 : World} {D : List Nat} {L : List Res} {e : Env} {c : Code} (t k : Nat) (h : JC P Q n w0 D (.row (.slice none 0 0) t k 0 [] :: L) c e) : JC P Q n w0 D L c e := fun w hw => h w (hw.nilRow t k)

theorem JQ.nilRow {Q : Exit → Act → World → Prop} {x : Exit} {n : Nat} {w0 : World} {D : List Nat} {L : List Res} {e : Env} (t k : Nat) (h : JQ Q x n w0 D (.row (.slice none 0 0) t k 0 [] :: L) e) : JQ Q x n w0 D L e := fun w hw => h w (hw.nilRow t k)
theorem JA.nilRow {P : Program} {ops : Array Oper} {Q : Exit → Act → World → Prop} {n : Nat} {w0 : World} {D : List Nat} {L M : List Res} {e : Env} {z fuel : Nat} {listed : Array Bool} (t k : Nat) (h : JA P ops Q n w0 D M z fuel listed (.row (.slice none 0 0) t k 0 [] :: L) e) : JA P ops Q n w0 D M z fuel listed L e := fun w hw hq => h w (hw.nilRow t k) hq

section
variable {P : Program} {ops : Array Oper} {Q : Exit → Act → World → Prop} {n : Nat} {w0 : World} {D : List Nat} {L M : List Res} {e : Env} {z fuel : Nat} {listed : Array Bool}
/-- A guard that was itself not asked. -/
theorem JL.guardOffU {o : Oper} {rest : List Oper} {j : Nat} {b : Bool} {t : Tmp} (hg : o.guard = some (j, b)) (hj : (ops[j]?).bind (·.dst) = some t) (ht : Nat.blt t n = true) (hv : e t = undef)
    (h : JL P ops Q n w0 D L rest (updO e o.dst undef)) : JL P ops Q n w0 D L (o :: rest) e := fun w hw => by
  have hlt : t < n := (Nat.blt_eq (x := t) (y := n)) ▸ ht
  have hy : yielded ops (act n e).tmps j = none := by simp [yielded, hj, act, hlt, hv, undef]
  refine wpList_step fun K hK => ?_
  rw [if_neg (by simp [Region.wanted, hg, hy]), act_put]
  exact hK _ _ (h w hw)
end
end Go.Proofs.YtghfijncihbojaaGreatDoor

set_option linter.unusedSimpArgs false
set_option linter.unusedVariables false
set_option linter.unnecessarySimpa false
namespace Go.Proofs.YtghfijncihbojaaGreatDoor
open Go Go.RowKit

/-- Bounds of a machine: how many cells, how many spans on each list, how long a cell's texts. -/
def MS.ok (S T : Nat) (m : MS) : Prop := m.s.length ≤ S ∧ m.r.length ≤ T ∧ m.w.length ≤ T ∧ ∀ c ∈ m.s, c.1.length ≤ 1048576 ∧ c.2.length ≤ 1048576
theorem MS.ok.mono {S T S' T' : Nat} {m : MS} (h : m.ok S T) (hS : S ≤ S') (hT : T ≤ T') : m.ok S' T' := ⟨by have := h.1; omega, by have := h.2.1; omega, by have := h.2.2.1; omega, h.2.2.2⟩
theorem getKey_mem {s : List Cell} {key : Str} : getKey s key = [] ∨ ∃ c ∈ s, c.1 = key ∧ c.2 = getKey s key := by
  induction s with
  | nil => exact .inl rfl
  | cons c s ih =>
    unfold getKey
    by_cases hc : c.1 = key
    · exact .inr ⟨c, by simp, hc, by simp [hc]⟩
    · rw [if_neg hc]
      rcases ih with h | ⟨c', h, h2⟩
      · exact .inl h
      · exact .inr ⟨c', by simp [h], h2⟩
theorem MS.ok.getKey {S T : Nat} {m : MS} (h : m.ok S T) (key : Str) : (getKey m.s key).length ≤ 1048576 := by
  rcases getKey_mem (s := m.s) (key := key) with h0 | ⟨c, hc, _, h2⟩
  · rw [h0]; simp
  · rw [← h2]; exact (h.2.2.2 c hc).2
theorem insertAt_mem {α : Type} {i : Nat} {x y : α} {l : List α} (h : y ∈ insertAt i x l) : y = x ∨ y ∈ l := by
  unfold insertAt at h
  simp only [List.mem_append, List.mem_cons] at h
  rcases h with h | h | h
  · exact .inr (List.mem_of_mem_take h)
  · exact .inl h
  · exact .inr (List.mem_of_mem_drop h)
theorem putKey_mem {s : List Cell} {key val : Str} {c : Cell} (h : c ∈ putKey s key val) : c ∈ s ∨ (c = (key, val) ∧ key.length ≤ 40 ∧ val.length ≤ 60) := by
  unfold putKey at h
  split at h
  · exact .inl h
  · rename_i hk
    simp only [Bool.or_eq_true, Bool.not_eq_true', decide_eq_true_eq, not_or, Bool.not_eq_false] at hk
    simp only at h
    split at h
    · exact .inl (List.mem_filter.1 h).1
    · rcases insertAt_mem h with h | h
      · refine .inr ⟨h, ?_, by omega⟩
        have := hk.1
        simp only [keyOk, Bool.and_eq_true, decide_eq_true_eq] at this
        exact this.2
      · exact .inl (List.mem_filter.1 h).1
theorem putKey_nil_len (s : List Cell) (key : Str) : (putKey s key []).length ≤ s.length := by
  unfold putKey
  simp only
  split
  · exact Nat.le_refl _
  · rw [if_pos trivial]; exact List.length_filter_le _ _
theorem MS.ok.look {S T : Nat} {m : MS} (h : m.ok S T) (key : Str) : (m.look key).1.ok S (T + 1) := by
  have := look_len m key
  exact ⟨by have := h.1; omega, by have := h.2.1; omega, by have := h.2.2.1; omega, h.2.2.2⟩
theorem MS.ok.lay {S T : Nat} {m : MS} (h : m.ok S T) (key val : Str) : (m.lay key val).ok (S + 1) (T + 1) := by
  have := lay_len m key val
  refine ⟨by have := h.1; omega, by have := h.2.1; omega, by have := h.2.2.1; omega, fun c hc => ?_⟩
  rcases putKey_mem (s := m.s) hc with hc | ⟨rfl, h1, h2⟩
  · exact h.2.2.2 c hc
  · exact ⟨by simp only; omega, by simp only; omega⟩
theorem MS.ok.layNil {S T : Nat} {m : MS} (h : m.ok S T) (key : Str) : (m.lay key []).ok S (T + 1) := by
  have h1 := lay_len m key []
  have h2 := putKey_nil_len m.s key
  refine ⟨Nat.le_trans h2 h.1, by have := h.2.1; omega, by have := h.2.2.1; omega, fun c hc => ?_⟩
  rcases putKey_mem (s := m.s) hc with hc | ⟨rfl, h1, h2⟩
  · exact h.2.2.2 c hc
  · exact ⟨by simp only; omega, by simp only; omega⟩
theorem num_lo (m : MS) (key : Str) : 0 ≤ (m.num key).2 ∧ (m.num key).2 ≤ 999 := numOf_lo _
theorem bump_lo (m : MS) (key : Str) : 0 ≤ (m.bump key).2 ∧ (m.bump key).2 ≤ 999 := by
  have h := num_lo m key
  unfold MS.bump
  split
  · exact ⟨by simp, by simp⟩
  · exact ⟨by simp only; omega, by simp only; omega⟩
theorem MS.ok.bump {S T : Nat} {m : MS} (h : m.ok S T) (key : Str) : (m.bump key).1.ok (S + 1) (T + 1) := by
  have h1 := h.look key
  unfold MS.bump
  split
  · exact h1.mono (by omega) (by omega)
  · have h2 := h.lay key (if 1 ≤ (m.num key).2 + 1 ∧ (m.num key).2 + 1 ≤ 999 then dec ((m.num key).2 + 1) else [])
    exact ⟨h2.1, h1.2.1, h2.2.2.1, h2.2.2.2⟩
theorem dec_len21 {n : Int} (h0 : -9223372036854775808 ≤ n) (h1 : n ≤ 9223372036854775807) : (dec n).length ≤ 21 := Lib.itoa_length_le n h0 h1
/-- A list of texts: how many, how long. -/
def okL (n k : Nat) (l : List Str) : Prop := l.length ≤ n ∧ ∀ j, j < l.length → k ≤ (l.getD j []).length ∧ (l.getD j []).length ≤ 1048576
theorem getD_mem {α : Type} {l : List α} {j : Nat} {d : α} (h : j < l.length) : l.getD j d ∈ l := by
  rw [List.getD_eq_getElem?_getD, List.getElem?_eq_getElem h]
  exact List.getElem_mem h
theorem keysUnder_ok {S T : Nat} {m : MS} (h : m.ok S T) (p : Str) : okL S p.length (keysUnder m.s p) := by
  refine ⟨?_, fun j hj => ?_⟩
  · unfold keysUnder
    rw [List.length_map]
    exact Nat.le_trans (List.length_filter_le _ _) h.1
  · have hm := getD_mem (d := ([] : Str)) hj
    unfold keysUnder at hm
    obtain ⟨c, hc, he⟩ := List.mem_map.1 hm
    obtain ⟨hc1, hc2⟩ := List.mem_filter.1 hc
    have e : (keysUnder m.s p).getD j [] = c.1 := he.symm
    rw [e]
    simp only [prefixB, Bool.and_eq_true, decide_eq_true_eq] at hc2
    exact ⟨hc2.1, (h.2.2.2 c hc1).1⟩
theorem MS.ok.under {S T : Nat} {m : MS} (h : m.ok S T) (p : Str) : (m.under p).1.ok S (T + 1) := by
  have := addSpan_len m.r (p ++ [42])
  refine ⟨h.1, ?_, by have := h.2.2.1; show m.w.length ≤ T + 1; omega, h.2.2.2⟩
  show (addSpan m.r (p ++ [42])).length ≤ T + 1
  have := h.2.1
  omega

/- names -/
def nameByte (c : UInt8) : Bool := (decide (97 ≤ c.toNat) && decide (c.toNat ≤ 122)) || (decide (48 ≤ c.toNat) && decide (c.toNat ≤ 57)) || decide (c.toNat = 46) || decide (c.toNat = 45)
def nameOk (s : Str) : Bool := s.all nameByte && decide (1 ≤ s.length) && decide (s.length ≤ 12)
theorem nameOk_bad {key : Str} {j : Nat} (h : j < key.length) (hb : nameByte (key.getD j 0) = false) : nameOk key = false := by
  have : key.all nameByte = false := by
    rw [List.all_eq_false]
    exact ⟨key.getD j 0, getD_mem h, by rw [hb]; simp⟩
  simp [nameOk, this]
theorem nameOk_good {key : Str} {j : Nat} (h : key.length ≤ j) (hb : ∀ i, i < j → i < key.length → nameByte (key.getD i 0) = true) : nameOk key = (decide (1 ≤ key.length) && decide (key.length ≤ 12)) := by
  have : key.all nameByte = true := by
    rw [List.all_eq_true]
    intro x hx
    obtain ⟨i, hi, rfl⟩ := List.getElem_of_mem hx
    have := hb i (by omega) hi
    rwa [List.getD_eq_getElem?_getD, List.getElem?_eq_getElem hi] at this
  simp [nameOk, this]

/- hexadecimal texts -/
def hexFig (x : Nat) : UInt8 := if x < 10 then UInt8.ofNat (48 + x) else UInt8.ofNat (87 + x)
def hexB : Str → Str
  | [] => []
  | c :: s => hexFig (c.toNat / 16) :: hexFig (c.toNat % 16) :: hexB s
def hexS (s : Str) : Str := if 20000 < s.length then [] else hexB s
def hexVal (c : UInt8) : Option Nat := if 48 ≤ c.toNat ∧ c.toNat ≤ 57 then some (c.toNat - 48) else if 97 ≤ c.toNat ∧ c.toNat ≤ 102 then some (c.toNat - 87) else none
def unhexL : Str → Option Str
  | [] => some []
  | [_] => none
  | a :: b :: t => match hexVal a, hexVal b, unhexL t with
    | some h, some l, some r => some (UInt8.ofNat (16 * h + l) :: r)
    | _, _, _ => none
def unhex (t : Str) : Str × Bool := if 40000 < t.length then ([], false) else match unhexL t with
  | some r => (r, true)
  | none => ([], false)
theorem hexB_len : ∀ s : Str, (hexB s).length = 2 * s.length
  | [] => rfl
  | c :: s => by simp only [hexB, List.length_cons, hexB_len s]; omega
theorem unhexL_len : ∀ (t r : Str), unhexL t = some r → 2 * r.length = t.length
  | [], r, h => by simp only [unhexL, Option.some.injEq] at h; subst h; rfl
  | [_], r, h => by simp [unhexL] at h
  | a :: b :: t, r, h => by
    unfold unhexL at h
    split at h
    · rename_i hh ll rr h1 h2 h3
      simp only [Option.some.injEq] at h
      subst h
      have := unhexL_len t rr h3
      simp only [List.length_cons]
      omega
    · cases h
def messageOf (v : Str) : Str := match v with
  | [] => []
  | c :: t => if c = 45 then (unhex t).1 else []
/-- The keys behind their first signs. -/
def dropAcc (k : Nat) : List Str → List Str → List Str
  | [], out => out
  | x :: l, out => dropAcc k l (out ++ [x.drop k])
namespace MS
def message (m : MS) (key : Str) : MS × Str := match m.look key with | (m, v) => (m, messageOf v)
def fileOf (m : MS) (name : Str) : MS × Int := if nameOk name = true then m.num (([110, 47] : Str) ++ name) else (m, 0)
def makeName (m : MS) (name : Str) : MS × Int × Int :=
  if nameOk name = true then
    match m.fileOf name with
    | (m, id) => if id = 0 then
        match m.num ([99, 47, 102, 105, 108, 101] : Str) with
        | (m, n) => if 20 ≤ n then (m, 0, 3) else
          match m.bump ([99, 47, 102, 105, 108, 101] : Str) with
          | (m, id) => ((m.setNum (([110, 47] : Str) ++ name) id).setNum (keyNum ([105, 47] : Str) id ([47, 108] : Str)) 1, id, 0)
      else (m, 0, 1)
  else (m, 0, 4)
def linkName (m : MS) (from_ to_ : Str) : MS × Int :=
  if nameOk from_ = true then
    if nameOk to_ = true then
      match m.fileOf from_ with
      | (m, id) => if id = 0 then (m, 2) else
        match m.fileOf to_ with
        | (m, o) => if o = 0 then
            match m.num (keyNum ([105, 47] : Str) id ([47, 108] : Str)) with
            | (m, n) => if 4 ≤ n then (m, 3) else
              ((m.setNum (([110, 47] : Str) ++ to_) id).setNum (keyNum ([105, 47] : Str) id ([47, 108] : Str)) (n + 1), 0)
          else (m, 1)
    else (m, 4)
  else (m, 4)
/-- What wipe does with the keys that it finds. -/
def wipeL : List Str → MS → MS
  | [], m => m
  | k :: l, m => wipeL l (m.lay k [])
def wipe' (m : MS) (p : Str) : MS := match m.under p with | (m, l) => wipeL l m
def unlinkName (m : MS) (name : Str) : MS × Int :=
  if nameOk name = true then
    match m.fileOf name with
    | (m, id) => if id = 0 then (m, 2) else
      match (m.lay (([110, 47] : Str) ++ name) []).num (keyNum ([105, 47] : Str) id ([47, 108] : Str)) with
      | (m, n) => if 1 < n then (m.setNum (keyNum ([105, 47] : Str) id ([47, 108] : Str)) (n - 1), 0) else (m.wipe' (keyNum ([105, 47] : Str) id ([47] : Str)), 0)
  else (m, 4)
def renameName (m : MS) (from_ to_ : Str) : MS × Int :=
  if nameOk from_ = true then
    if nameOk to_ = true then
      match m.fileOf from_ with
      | (m, id) => if id = 0 then (m, 2) else
        match m.fileOf to_ with
        | (m, o) => if o = id then (m, 0) else
          if o = 0 then ((m.setNum (([110, 47] : Str) ++ to_) id).lay (([110, 47] : Str) ++ from_) [], 0) else
            match m.unlinkName to_ with
            | (m, _) => ((m.setNum (([110, 47] : Str) ++ to_) id).lay (([110, 47] : Str) ++ from_) [], 0)
    else (m, 4)
  else (m, 4)
def names (m : MS) : MS × List Str := match m.under ([110, 47] : Str) with | (m, l) => (m, dropAcc 2 l [])

/- files -/
def sizeOf (m : MS) (id : Int) : MS × Int := m.num (keyNum ([105, 47] : Str) id ([47, 115] : Str))
def block (m : MS) (id place : Int) : MS × Str := match m.look (keyNum (keyNum ([105, 47] : Str) id ([47, 98, 47] : Str)) place []) with | (m, v) => (m, (unhex v).1)

/- pipes -/
def makePipe (m : MS) : MS × Int × Int :=
  match m.num ([99, 47, 112, 105, 112, 101] : Str) with
  | (m, n) => if 8 ≤ n then (m, 0, 3) else
    match m.bump ([99, 47, 112, 105, 112, 101] : Str) with
    | (m, id) => (m.setNum (keyNum ([112, 47] : Str) id ([47, 111] : Str)) 1, id, 0)
def isPipe (m : MS) (id : Int) : MS × Bool := match m.num (keyNum ([112, 47] : Str) id ([47, 111] : Str)) with | (m, n) => (m, decide (n = 1))
def putPipe (m : MS) (id : Int) (text : Str) : MS × Int :=
  match m.isPipe id with
  | (m, b) => if b = true then
      if 20 < (text.length : Int) then (m, 4) else
      match m.num (keyNum ([112, 47] : Str) id ([47, 116] : Str)) with
      | (m, t) => match m.num (keyNum ([112, 47] : Str) id ([47, 104] : Str)) with
        | (m, h) => if 4 ≤ t - h then (m, 5) else if 999 ≤ t then (m, 3) else
          ((m.setNum (keyNum ([112, 47] : Str) id ([47, 116] : Str)) (t + 1)).lay (keyNum (keyNum ([112, 47] : Str) id ([47, 113, 47] : Str)) (t + 1) []) (([45] : Str) ++ hexS text), 0)
    else (m, 2)
def takePipe (m : MS) (id : Int) : MS × Str × Int :=
  match m.isPipe id with
  | (m, b) => if b = true then
      match m.num (keyNum ([112, 47] : Str) id ([47, 104] : Str)) with
      | (m, h) => match m.num (keyNum ([112, 47] : Str) id ([47, 116] : Str)) with
        | (m, t) => if t = h then (m, [], 5) else
          match m.message (keyNum (keyNum ([112, 47] : Str) id ([47, 113, 47] : Str)) (h + 1) []) with
          | (m, x) => ((m.lay (keyNum (keyNum ([112, 47] : Str) id ([47, 113, 47] : Str)) (h + 1) []) []).setNum (keyNum ([112, 47] : Str) id ([47, 104] : Str)) (h + 1), x, 0)
    else (m, [], 2)

/- processes -/
def state (m : MS) (id : Int) : MS × Int := m.num (keyNum ([114, 47] : Str) id ([47, 115] : Str))
def spawn (m : MS) (parent : Int) : MS × Int × Int :=
  match m.num ([99, 47, 112, 114, 111, 99] : Str) with
  | (m, n) => if 12 ≤ n then (m, 0, 3) else
    match m.bump ([99, 47, 112, 114, 111, 99] : Str) with
    | (m, id) => ((m.setNum (keyNum ([114, 47] : Str) id ([47, 115] : Str)) 1).setNum (keyNum ([114, 47] : Str) id ([47, 112] : Str)) parent, id, 0)
def endProc (m : MS) (id n : Int) : MS × Int :=
  match m.state id with
  | (m, s) => if s = 1 then
      if 0 ≤ n ∧ n ≤ 100 then ((m.setNum (keyNum ([114, 47] : Str) id ([47, 115] : Str)) 2).setNum (keyNum ([114, 47] : Str) id ([47, 120] : Str)) (n + 1), 0) else (m, 4)
    else (m, 2)
def reap (m : MS) (parent id : Int) : MS × Int × Int :=
  match m.num (keyNum ([114, 47] : Str) id ([47, 112] : Str)) with
  | (m, own) => if own = 0 then (m, 0, 2) else if own = parent then
      match m.state id with
      | (m, s) => if s = 1 then (m, 0, 5) else if s = 2 then
          match m.num (keyNum ([114, 47] : Str) id ([47, 120] : Str)) with
          | (m, n) => (m.wipe' (keyNum ([114, 47] : Str) id ([47] : Str)), n - 1, 0)
        else (m, 0, 2)
    else (m, 0, 2)
def isKid (k : Str) : Bool := decide (5 ≤ k.length) && decide (k.drop (k.length - 2) = ([47, 112] : Str))
def kidsL (parent : Int) : List Str → MS → List Int → MS × List Int
  | [], m, out => (m, out)
  | k :: l, m, out => if isKid k = true then
      match m.num k with
      | (m, n) => if n = parent then kidsL parent l m (out ++ [numOf ((k.take (k.length - 2)).drop 2)]) else kidsL parent l m out
    else kidsL parent l m out
def kids (m : MS) (parent : Int) : MS × List Int := match m.under ([114, 47] : Str) with | (m, l) => kidsL parent l m []

/- signals -/
def send (m : MS) (to_ n : Int) : MS × Int :=
  match m.state to_ with
  | (m, s) => if s = 1 then
      if 1 ≤ n ∧ n ≤ 31 then
        match m.num (keyNum ([103, 47] : Str) to_ ([47, 116] : Str)) with
        | (m, t) => match m.num (keyNum ([103, 47] : Str) to_ ([47, 104] : Str)) with
          | (m, h) => if 4 ≤ t - h then (m, 5) else if 999 ≤ t then (m, 3) else
            ((m.setNum (keyNum ([103, 47] : Str) to_ ([47, 116] : Str)) (t + 1)).setNum (keyNum (keyNum ([103, 47] : Str) to_ ([47, 113, 47] : Str)) (t + 1) []) n, 0)
      else (m, 4)
    else (m, 2)
def takeSignal (m : MS) (id : Int) : MS × Int × Int :=
  match m.num (keyNum ([103, 47] : Str) id ([47, 104] : Str)) with
  | (m, h) => match m.num (keyNum ([103, 47] : Str) id ([47, 116] : Str)) with
    | (m, t) => if t = h then (m, 0, 5) else
      match m.num (keyNum (keyNum ([103, 47] : Str) id ([47, 113, 47] : Str)) (h + 1) []) with
      | (m, n) => ((m.lay (keyNum (keyNum ([103, 47] : Str) id ([47, 113, 47] : Str)) (h + 1) []) []).setNum (keyNum ([103, 47] : Str) id ([47, 104] : Str)) (h + 1), n, 0)
def setTimer (m : MS) (id at_ : Int) : MS × Int := if 0 ≤ at_ ∧ at_ ≤ 999 then (m.setNum (keyNum ([116, 47] : Str) id []) at_, 0) else (m, 4)
def tickL (clock : Int) : List Str → MS → Int → MS × Int
  | [], m, k => (m, k)
  | x :: l, m, k => match m.num x with
    | (m, n) => if clock < n then tickL clock l m k else
      match (m.lay x []).send (numOf (x.drop 2)) 14 with
      | (m, _) => tickL clock l m (k + 1)
def tick (m : MS) (n : Int) : MS × Int × Int :=
  if n < 1 then (m, 0, 4) else
    match m.num ([99, 47, 99, 108, 111, 99, 107] : Str) with
    | (m, c) => if 999 - c < n then (m, 0, 3) else
      match (m.setNum ([99, 47, 99, 108, 111, 99, 107] : Str) (c + n)).under ([116, 47] : Str) with
      | (m, l) => match tickL (c + n) l m 0 with
        | (m, k) => (m, k, 0)

/- pages -/
def storePage (m : MS) (id page : Int) (text : Str) : MS × Int :=
  if 0 ≤ page ∧ page ≤ 3 then
    if 20 < (text.length : Int) then (m, 4) else
      (m.lay (keyNum (keyNum ([109, 47] : Str) id ([47] : Str)) page []) (if text = [] then [] else ([45] : Str) ++ hexS text), 0)
  else (m, 4)
def loadPage (m : MS) (id page : Int) : MS × Str × Int :=
  if 0 ≤ page ∧ page ≤ 3 then
    match m.message (keyNum (keyNum ([109, 47] : Str) id ([47] : Str)) page []) with
    | (m, x) => (m, x, 0)
  else (m, [], 4)
def forkL (k : Nat) (to_ : Int) : List Str → MS → MS
  | [], m => m
  | x :: l, m => match m.look x with
    | (m, v) => forkL k to_ l (m.lay (keyNum ([109, 47] : Str) to_ ([47] : Str) ++ x.drop k) v)
def forkPages (m : MS) (from_ to_ : Int) : MS := match m.under (keyNum ([109, 47] : Str) from_ ([47] : Str)) with | (m, l) => forkL (keyNum ([109, 47] : Str) from_ ([47] : Str)).length to_ l m
def dropPages (m : MS) (id : Int) : MS := m.wipe' (keyNum ([109, 47] : Str) id ([47] : Str))

/- output -/
def putOut (m : MS) (text : Str) : MS × Int :=
  if 1 ≤ (text.length : Int) ∧ (text.length : Int) ≤ 20 then
    match m.num ([100, 47, 110] : Str) with
    | (m, n) => if 40 ≤ n then (m, 3) else ((m.setNum ([100, 47, 110] : Str) (n + 1)).lay (keyNum ([100, 47] : Str) (n + 1) []) (([45] : Str) ++ hexS text), 0)
  else (m, 4)
end MS
end Go.Proofs.YtghfijncihbojaaGreatDoor

set_option linter.unusedSimpArgs false
set_option linter.unusedVariables false
set_option linter.unnecessarySimpa false
namespace Go.Proofs.YtghfijncihbojaaGreatDoor
open Go Go.RowKit

theorem Has.below {w w' : World} (h : Has [] w) (hb : Below w.heap.size w w') : St w (idsOf []) [] w' :=
  ⟨⟨fun _ hr => by simp at hr, by simp [idsOf], fun _ hi => by simp [idsOf] at hi, Nat.le_trans h.room hb.size, h.glob.keep fun k hk => hb.block k (Nat.lt_of_lt_of_le hk h.room)⟩, hb.os, hb.tape, hb.output, hb.size, fun _ hi => by simp [idsOf] at hi, fun k hk _ => hb.block k hk⟩
theorem below_grow (w : World) (k : Nat) (os : Array Obj) : Below w.heap.size w (Sort.grow (w.drewN k) os) :=
  ⟨rfl, rfl, rfl, by simp [Sort.grow, World.drewN], fun j hj => by
    simp only [Sort.grow, World.drewN]
    rw [Array.getElem?_append_left hj]⟩

end Go.Proofs.YtghfijncihbojaaGreatDoor

namespace Go.Proofs
open Go.Shelf
def Tryz.laysM171_ren : Go.Shelf.Ren := ⟨fun | 171 => 183 | 243 => 209 | 246 => 226 | 283 => 238 | 284 => 239 | 285 => 240 | 286 => 241 | 129 => 251 | 317 => 250 | 318 => 252 | 319 => 253 | 320 => 254 | 337 => 259 | 338 => 260 | n => n, fun | 3 => 3 | 9 => 9 | 2 => 2 | 4 => 4 | 171 => 218 | 0 => 0 | 53 => 219 | 37 => 22 | 5 => 5 | 173 => 222 | 212 => 232 | 51 => 233 | 20 => 20 | 213 => 234 | 46 => 156 | 232 => 249 | 233 => 250 | n => n, fun | 17 => 0 | 18 => 4 | 19 => 5 | n => n⟩
theorem Tryz.laysM171 : Go.Proofs.LaysM.n171 Tryz.prog Tryz.laysM171_ren := {
  mixed := by kernel_rfl
  f129 := Tryz.func251.trans (congrArg some (by kernel_rfl))
  f171 := Tryz.func183.trans (congrArg some (by kernel_rfl))
  f243 := Tryz.func209.trans (congrArg some (by kernel_rfl))
  f246 := Tryz.func226.trans (congrArg some (by kernel_rfl))
  f283 := Tryz.func238.trans (congrArg some (by kernel_rfl))
  f284 := Tryz.func239.trans (congrArg some (by kernel_rfl))
  f285 := Tryz.func240.trans (congrArg some (by kernel_rfl))
  f286 := Tryz.func241.trans (congrArg some (by kernel_rfl))
  f317 := Tryz.func250.trans (congrArg some (by kernel_rfl))
  f318 := Tryz.func252.trans (congrArg some (by kernel_rfl))
  f319 := Tryz.func253.trans (congrArg some (by kernel_rfl))
  f320 := Tryz.func254.trans (congrArg some (by kernel_rfl))
  f337 := Tryz.func259.trans (congrArg some (by kernel_rfl))
  f338 := Tryz.func260.trans (congrArg some (by kernel_rfl))
  t0 := Tryz.underlying0
  a0 := Tryz.isAgg0
  z0 := Tryz.sizeOf0
  v0 := Tryz.zeroValue0
  t2 := Tryz.underlying2
  a2 := Tryz.isAgg2
  z2 := Tryz.sizeOf2
  v2 := Tryz.zeroValue2
  t3 := Tryz.underlying3
  a3 := Tryz.isAgg3
  z3 := Tryz.sizeOf3
  v3 := Tryz.zeroValue3
  t4 := Tryz.underlying4
  a4 := Tryz.isAgg4
  z4 := Tryz.sizeOf4
  v4 := Tryz.zeroValue4
  t5 := Tryz.underlying5
  a5 := Tryz.isAgg5
  z5 := Tryz.sizeOf5
  v5 := Tryz.zeroValue5
  t9 := Tryz.underlying9
  a9 := Tryz.isAgg9
  z9 := Tryz.sizeOf9
  v9 := Tryz.zeroValue9
  t20 := Tryz.underlying20
  a20 := Tryz.isAgg20
  z20 := Tryz.sizeOf20
  v20 := Tryz.zeroValue20
  t37 := Tryz.underlying22
  a37 := Tryz.isAgg22
  z37 := Tryz.sizeOf22
  v37 := Tryz.zeroValue22
  t46 := Tryz.underlying156
  a46 := Tryz.isAgg156
  z46 := Tryz.sizeOf156
  v46 := Tryz.zeroValue156
  t51 := Tryz.underlying233
  a51 := Tryz.isAgg233
  z51 := Tryz.sizeOf233
  v51 := Tryz.zeroValue233
  t53 := Tryz.underlying219
  a53 := Tryz.isAgg219
  z53 := Tryz.sizeOf219
  v53 := Tryz.zeroValue219
  t171 := Tryz.underlying218
  a171 := Tryz.isAgg218
  z171 := Tryz.sizeOf218
  v171 := Tryz.zeroValue218
  t173 := Tryz.underlying222
  a173 := Tryz.isAgg222
  z173 := Tryz.sizeOf222
  v173 := Tryz.zeroValue222
  t212 := Tryz.underlying232
  a212 := Tryz.isAgg232
  z212 := Tryz.sizeOf232
  v212 := Tryz.zeroValue232
  t213 := Tryz.underlying234
  a213 := Tryz.isAgg234
  z213 := Tryz.sizeOf234
  t232 := Tryz.underlying249
  a232 := Tryz.isAgg249
  z232 := Tryz.sizeOf249
  v232 := Tryz.zeroValue249
  t233 := Tryz.underlying250
  a233 := Tryz.isAgg250
  z233 := Tryz.sizeOf250
  v233 := Tryz.zeroValue250
  g17 := by kernel_rfl
  g18 := by kernel_rfl
  g19 := by kernel_rfl
  i0 := by kernel_rfl
  i2 := by kernel_rfl
  i3 := by kernel_rfl
  i4 := by kernel_rfl
  i5 := by kernel_rfl
  i9 := by kernel_rfl
  i20 := by kernel_rfl
  i37 := by kernel_rfl
  i46 := by kernel_rfl
  i51 := by kernel_rfl
  i53 := by kernel_rfl
  i171 := by kernel_rfl
  i173 := by kernel_rfl
  i212 := by kernel_rfl
  i232 := by kernel_rfl
  i233 := by kernel_rfl
  m17 := by kernel_rfl
  m18 := by kernel_rfl
  m19 := by kernel_rfl }
open Go.RowKit Go.Sort Go.Lib in
theorem Tryz.strconv_Itoa (n : Int) (h0 : -9223372036854775808 ≤ n) (h1 : n ≤ 9223372036854775807) (w : World) (htab : Lib.TabIs Tryz.prog w "internal/strconv.uint64pow10" .u64 Lib.pow10Tab) :
    Calls Tryz.prog 183 #[.int .i64 n] w fun e w' => e = .returned (.string ⟨(Lib.itoa n).toArray⟩) ∧ ∃ k os, w' = grow (w.drewN k) os := Any.strconv_Itoa Tryz.laysM171 n h0 h1 w htab
def Tryz.laysC172_ren : Go.Shelf.Ren := ⟨fun | 172 => 225 | 244 => 236 | 245 => 237 | 247 => 245 | 279 => 246 | 280 => 247 | 281 => 248 | 282 => 249 | 287 => 256 | 316 => 257 | 171 => 183 | 205 => 258 | 321 => 261 | 322 => 262 | 243 => 209 | 246 => 226 | 283 => 238 | 284 => 239 | 285 => 240 | 286 => 241 | 129 => 251 | 317 => 250 | 318 => 252 | 319 => 253 | 320 => 254 | 337 => 259 | 338 => 260 | n => n, fun | 9 => 9 | 3 => 3 | 75 => 208 | 76 => 209 | 4 => 4 | 5 => 5 | 167 => 225 | 37 => 22 | 0 => 0 | 85 => 226 | 2 => 2 | 168 => 228 | 53 => 219 | 175 => 238 | 46 => 156 | 210 => 241 | 127 => 245 | 145 => 248 | 143 => 246 | 21 => 21 | 171 => 218 | 173 => 222 | 212 => 232 | 51 => 233 | 20 => 20 | 213 => 234 | 232 => 249 | 233 => 250 | 80 => 253 | n => n, fun | 15 => 2 | 16 => 3 | 17 => 0 | 18 => 4 | 19 => 5 | n => n⟩
theorem Tryz.laysC172 : Go.Proofs.LaysC.n172 Tryz.prog Tryz.laysC172_ren := {
  mixed := by kernel_rfl
  f129 := Tryz.func251.trans (congrArg some (by kernel_rfl))
  f171 := Tryz.func183.trans (congrArg some (by kernel_rfl))
  f172 := Tryz.func225.trans (congrArg some (by kernel_rfl))
  f205 := Tryz.func258.trans (congrArg some (by kernel_rfl))
  f243 := Tryz.func209.trans (congrArg some (by kernel_rfl))
  f244 := Tryz.func236.trans (congrArg some (by kernel_rfl))
  f245 := Tryz.func237.trans (congrArg some (by kernel_rfl))
  f246 := Tryz.func226.trans (congrArg some (by kernel_rfl))
  f247 := Tryz.func245.trans (congrArg some (by kernel_rfl))
  f279 := Tryz.func246.trans (congrArg some (by kernel_rfl))
  f280 := Tryz.func247.trans (congrArg some (by kernel_rfl))
  f281 := Tryz.func248.trans (congrArg some (by kernel_rfl))
  f282 := Tryz.func249.trans (congrArg some (by kernel_rfl))
  f283 := Tryz.func238.trans (congrArg some (by kernel_rfl))
  f284 := Tryz.func239.trans (congrArg some (by kernel_rfl))
  f285 := Tryz.func240.trans (congrArg some (by kernel_rfl))
  f286 := Tryz.func241.trans (congrArg some (by kernel_rfl))
  f287 := Tryz.func256.trans (congrArg some (by kernel_rfl))
  f316 := Tryz.func257.trans (congrArg some (by kernel_rfl))
  f317 := Tryz.func250.trans (congrArg some (by kernel_rfl))
  f318 := Tryz.func252.trans (congrArg some (by kernel_rfl))
  f319 := Tryz.func253.trans (congrArg some (by kernel_rfl))
  f320 := Tryz.func254.trans (congrArg some (by kernel_rfl))
  f321 := Tryz.func261.trans (congrArg some (by kernel_rfl))
  f322 := Tryz.func262.trans (congrArg some (by kernel_rfl))
  f337 := Tryz.func259.trans (congrArg some (by kernel_rfl))
  f338 := Tryz.func260.trans (congrArg some (by kernel_rfl))
  t0 := Tryz.underlying0
  a0 := Tryz.isAgg0
  z0 := Tryz.sizeOf0
  v0 := Tryz.zeroValue0
  t2 := Tryz.underlying2
  a2 := Tryz.isAgg2
  z2 := Tryz.sizeOf2
  v2 := Tryz.zeroValue2
  t3 := Tryz.underlying3
  a3 := Tryz.isAgg3
  z3 := Tryz.sizeOf3
  v3 := Tryz.zeroValue3
  t4 := Tryz.underlying4
  a4 := Tryz.isAgg4
  z4 := Tryz.sizeOf4
  v4 := Tryz.zeroValue4
  t5 := Tryz.underlying5
  a5 := Tryz.isAgg5
  z5 := Tryz.sizeOf5
  v5 := Tryz.zeroValue5
  t9 := Tryz.underlying9
  a9 := Tryz.isAgg9
  z9 := Tryz.sizeOf9
  v9 := Tryz.zeroValue9
  t20 := Tryz.underlying20
  a20 := Tryz.isAgg20
  z20 := Tryz.sizeOf20
  v20 := Tryz.zeroValue20
  t21 := Tryz.underlying21
  a21 := Tryz.isAgg21
  z21 := Tryz.sizeOf21
  v21 := Tryz.zeroValue21
  t37 := Tryz.underlying22
  a37 := Tryz.isAgg22
  z37 := Tryz.sizeOf22
  v37 := Tryz.zeroValue22
  t46 := Tryz.underlying156
  a46 := Tryz.isAgg156
  z46 := Tryz.sizeOf156
  v46 := Tryz.zeroValue156
  t51 := Tryz.underlying233
  a51 := Tryz.isAgg233
  z51 := Tryz.sizeOf233
  v51 := Tryz.zeroValue233
  t53 := Tryz.underlying219
  a53 := Tryz.isAgg219
  z53 := Tryz.sizeOf219
  v53 := Tryz.zeroValue219
  t75 := Tryz.underlying208
  a75 := Tryz.isAgg208
  z75 := Tryz.sizeOf208
  v75 := Tryz.zeroValue208
  t76 := Tryz.underlying209
  a76 := Tryz.isAgg209
  z76 := Tryz.sizeOf209
  v76 := Tryz.zeroValue209
  t85 := Tryz.underlying226
  a85 := Tryz.isAgg226
  z85 := Tryz.sizeOf226
  v85 := Tryz.zeroValue226
  t127 := Tryz.underlying245
  a127 := Tryz.isAgg245
  z127 := Tryz.sizeOf245
  v127 := Tryz.zeroValue245
  t143 := Tryz.underlying246
  a143 := Tryz.isAgg246
  z143 := Tryz.sizeOf246
  v143 := Tryz.zeroValue246
  t145 := Tryz.underlying248
  a145 := Tryz.isAgg248
  z145 := Tryz.sizeOf248
  v145 := Tryz.zeroValue248
  t167 := Tryz.underlying225
  a167 := Tryz.isAgg225
  z167 := Tryz.sizeOf225
  v167 := Tryz.zeroValue225
  t168 := Tryz.underlying228
  a168 := Tryz.isAgg228
  z168 := Tryz.sizeOf228
  v168 := Tryz.zeroValue228
  t171 := Tryz.underlying218
  a171 := Tryz.isAgg218
  z171 := Tryz.sizeOf218
  v171 := Tryz.zeroValue218
  t173 := Tryz.underlying222
  a173 := Tryz.isAgg222
  z173 := Tryz.sizeOf222
  v173 := Tryz.zeroValue222
  t175 := Tryz.underlying238
  a175 := Tryz.isAgg238
  z175 := Tryz.sizeOf238
  v175 := Tryz.zeroValue238
  t210 := Tryz.underlying241
  a210 := Tryz.isAgg241
  z210 := Tryz.sizeOf241
  v210 := Tryz.zeroValue241
  t212 := Tryz.underlying232
  a212 := Tryz.isAgg232
  z212 := Tryz.sizeOf232
  v212 := Tryz.zeroValue232
  t213 := Tryz.underlying234
  a213 := Tryz.isAgg234
  z213 := Tryz.sizeOf234
  t232 := Tryz.underlying249
  a232 := Tryz.isAgg249
  z232 := Tryz.sizeOf249
  v232 := Tryz.zeroValue249
  t233 := Tryz.underlying250
  a233 := Tryz.isAgg250
  z233 := Tryz.sizeOf250
  v233 := Tryz.zeroValue250
  g15 := by kernel_rfl
  g16 := by kernel_rfl
  g17 := by kernel_rfl
  g18 := by kernel_rfl
  g19 := by kernel_rfl
  t80 := Tryz.underlying253
  a80 := Tryz.isAgg253
  z80 := Tryz.sizeOf253
  v80 := Tryz.zeroValue253
  i0 := by kernel_rfl
  i2 := by kernel_rfl
  i3 := by kernel_rfl
  i4 := by kernel_rfl
  i5 := by kernel_rfl
  i9 := by kernel_rfl
  i20 := by kernel_rfl
  i21 := by kernel_rfl
  i37 := by kernel_rfl
  i46 := by kernel_rfl
  i51 := by kernel_rfl
  i53 := by kernel_rfl
  i75 := by kernel_rfl
  i76 := by kernel_rfl
  i80 := by kernel_rfl
  i85 := by kernel_rfl
  i127 := by kernel_rfl
  i143 := by kernel_rfl
  i145 := by kernel_rfl
  i167 := by kernel_rfl
  i168 := by kernel_rfl
  i171 := by kernel_rfl
  i173 := by kernel_rfl
  i175 := by kernel_rfl
  i210 := by kernel_rfl
  i212 := by kernel_rfl
  i232 := by kernel_rfl
  i233 := by kernel_rfl
  m15 := by kernel_rfl
  m16 := by kernel_rfl
  m17 := by kernel_rfl
  m18 := by kernel_rfl
  m19 := by kernel_rfl
  c0 := by kernel_rfl
  c2 := by kernel_rfl
  c3 := by kernel_rfl
  c4 := by kernel_rfl
  c5 := by kernel_rfl
  c9 := by kernel_rfl
  c20 := by kernel_rfl
  c21 := by kernel_rfl
  c37 := by kernel_rfl
  c46 := by kernel_rfl
  c51 := by kernel_rfl
  c53 := by kernel_rfl
  c75 := by kernel_rfl
  c76 := by kernel_rfl
  c80 := by kernel_rfl
  c85 := by kernel_rfl
  c127 := by kernel_rfl
  c143 := by kernel_rfl
  c145 := by kernel_rfl
  c167 := by kernel_rfl
  c168 := by kernel_rfl
  c171 := by kernel_rfl
  c173 := by kernel_rfl
  c175 := by kernel_rfl
  c210 := by kernel_rfl
  c212 := by kernel_rfl
  c213 := by kernel_rfl
  c232 := by kernel_rfl
  c233 := by kernel_rfl }
open Go.RowKit in
theorem Tryz.strconv_Atoi_ok (s : ByteArray) (hmax : s.size ≤ 9223372036854775806) (v : Int) (h : Lib.atoiAll s.data.toList = .ok v) (w : World) :
    Calls Tryz.prog 225 #[.string s] w fun e w' => e = .returned (.tuple #[.int .i64 v, .nilIface]) ∧ (w' = w ∨ ∃ t, w' = Lib.bytesWorld w 5 t) := Any.strconv_Atoi_ok Tryz.laysC172 s hmax v h w
open Go.RowKit in
theorem Tryz.strconv_Atoi_range_var (s : ByteArray) (hlim : s.size ≤ 281474976710656) (h : Lib.atoiAll s.data.toList = .range) (tp : TypeId) (p : Value) (w : World) (hvar : w.var? Tryz.prog "strconv.ErrRange" = some #[.iface tp p]) :
    Calls Tryz.prog 225 #[.string s] w fun e w' => ∃ N, e = .returned (.tuple #[.int .i64 (Lib.atoiSat s.data.toList), .iface 228 (.pointer (some ⟨N, 0, none⟩))]) ∧ w.heap.size ≤ N ∧ w'.heap[N]? = some (.cells #[.string ⟨#[65, 116, 111, 105]⟩, .string s, .iface tp p] 241 (0, 0)) ∧ Below w.heap.size w w' := Any.strconv_Atoi_range_var Tryz.laysC172 s hlim h tp p w hvar
def Tryz.lays103_ren : Go.Shelf.Ren := ⟨fun | 103 => 222 | 210 => 234 | 206 => 230 | n => n, fun | 9 => 9 | 4 => 4 | 24 => 173 | 3 => 3 | n => n, fun | n => n⟩
theorem Tryz.lays103 : Go.Proofs.Lays.n103 Tryz.prog Tryz.lays103_ren := {
  mixed := by kernel_rfl
  f103 := Tryz.func222.trans (congrArg some (by kernel_rfl))
  f206 := Tryz.func230.trans (congrArg some (by kernel_rfl))
  f210 := Tryz.func234.trans (congrArg some (by kernel_rfl))
  t3 := Tryz.underlying3
  a3 := Tryz.isAgg3
  z3 := Tryz.sizeOf3
  v3 := Tryz.zeroValue3
  t4 := Tryz.underlying4
  a4 := Tryz.isAgg4
  z4 := Tryz.sizeOf4
  v4 := Tryz.zeroValue4
  t9 := Tryz.underlying9
  a9 := Tryz.isAgg9
  z9 := Tryz.sizeOf9
  v9 := Tryz.zeroValue9
  t24 := Tryz.underlying173
  a24 := Tryz.isAgg173
  z24 := Tryz.sizeOf173
  v24 := Tryz.zeroValue173 }
open Go.RowKit in
theorem Tryz.strings_CutPrefix (s p : ByteArray) (w : World) :
    Calls Tryz.prog 222 #[.string s, .string p] w fun e w' => e = .returned (.tuple #[.string ⟨(Lib.trimPrefix s.data.toList p.data.toList).toArray⟩, .bool (Lib.hasPrefix s.data.toList p.data.toList)]) ∧ w' = w := Any.strings_CutPrefix Tryz.lays103 s p w
def Tryz.lays104_ren : Go.Shelf.Ren := ⟨fun | 104 => 181 | 211 => 207 | 207 => 224 | n => n, fun | 9 => 9 | 4 => 4 | 24 => 173 | 3 => 3 | n => n, fun | n => n⟩
theorem Tryz.lays104 : Go.Proofs.Lays.n104 Tryz.prog Tryz.lays104_ren := {
  mixed := by kernel_rfl
  f104 := Tryz.func181.trans (congrArg some (by kernel_rfl))
  f207 := Tryz.func224.trans (congrArg some (by kernel_rfl))
  f211 := Tryz.func207.trans (congrArg some (by kernel_rfl))
  t3 := Tryz.underlying3
  a3 := Tryz.isAgg3
  z3 := Tryz.sizeOf3
  v3 := Tryz.zeroValue3
  t4 := Tryz.underlying4
  a4 := Tryz.isAgg4
  z4 := Tryz.sizeOf4
  v4 := Tryz.zeroValue4
  t9 := Tryz.underlying9
  a9 := Tryz.isAgg9
  z9 := Tryz.sizeOf9
  v9 := Tryz.zeroValue9
  t24 := Tryz.underlying173
  a24 := Tryz.isAgg173
  z24 := Tryz.sizeOf173
  v24 := Tryz.zeroValue173 }
open Go.RowKit in
theorem Tryz.strings_CutSuffix (s p : ByteArray) (w : World) (hs : s.size ≤ 9223372036854775807) :
    Calls Tryz.prog 181 #[.string s, .string p] w fun e w' => e = .returned (.tuple #[.string ⟨(Lib.trimSuffix s.data.toList p.data.toList).toArray⟩, .bool (Lib.hasSuffix s.data.toList p.data.toList)]) ∧ w' = w := Any.strings_CutSuffix Tryz.lays104 s p w hs
def Tryz.lays99_ren : Go.Shelf.Ren := ⟨fun | 99 => 219 | 206 => 230 | n => n, fun | 9 => 9 | 4 => 4 | 3 => 3 | n => n, fun | n => n⟩
theorem Tryz.lays99 : Go.Proofs.Lays.n99 Tryz.prog Tryz.lays99_ren := {
  mixed := by kernel_rfl
  f99 := Tryz.func219.trans (congrArg some (by kernel_rfl))
  f206 := Tryz.func230.trans (congrArg some (by kernel_rfl))
  t3 := Tryz.underlying3
  a3 := Tryz.isAgg3
  z3 := Tryz.sizeOf3
  v3 := Tryz.zeroValue3
  t4 := Tryz.underlying4
  a4 := Tryz.isAgg4
  z4 := Tryz.sizeOf4
  v4 := Tryz.zeroValue4
  t9 := Tryz.underlying9
  a9 := Tryz.isAgg9
  z9 := Tryz.sizeOf9
  v9 := Tryz.zeroValue9 }
open Go.RowKit Go.Lib in
theorem Tryz.strings_HasPrefix (s p : ByteArray) (w : World) :
    Calls Tryz.prog 219 #[.string s, .string p] w fun e w' => e = .returned (.bool (Lib.hasPrefix s.data.toList p.data.toList)) ∧ w' = w := Any.strings_HasPrefix Tryz.lays99 s p w
def Tryz.laysPah39_ren : Go.Shelf.Ren := ⟨fun | 39 => 221 | 41 => 232 | 40 => 233 | n => n, fun | 30 => 22 | 9 => 9 | 3 => 3 | 0 => 0 | 5 => 5 | 46 => 156 | n => n, fun | n => n⟩
theorem Tryz.laysPah39 : Go.Proofs.Lays.ph39 Tryz.prog Tryz.laysPah39_ren := {
  mixed := by kernel_rfl
  f39 := Tryz.func221.trans (congrArg some (by kernel_rfl))
  f40 := Tryz.func233.trans (congrArg some (by kernel_rfl))
  f41 := Tryz.func232.trans (congrArg some (by kernel_rfl))
  t0 := Tryz.underlying0
  a0 := Tryz.isAgg0
  z0 := Tryz.sizeOf0
  v0 := Tryz.zeroValue0
  t3 := Tryz.underlying3
  a3 := Tryz.isAgg3
  z3 := Tryz.sizeOf3
  v3 := Tryz.zeroValue3
  t5 := Tryz.underlying5
  a5 := Tryz.isAgg5
  z5 := Tryz.sizeOf5
  v5 := Tryz.zeroValue5
  t9 := Tryz.underlying9
  a9 := Tryz.isAgg9
  z9 := Tryz.sizeOf9
  v9 := Tryz.zeroValue9
  t30 := Tryz.underlying22
  a30 := Tryz.isAgg22
  z30 := Tryz.sizeOf22
  v30 := Tryz.zeroValue22
  t46 := Tryz.underlying156
  a46 := Tryz.isAgg156
  z46 := Tryz.sizeOf156
  v46 := Tryz.zeroValue156
  info5 := by kernel_rfl }
open Go.RowKit Go.Lib in
theorem Tryz.hex_EncodeToString_bytes (bs os cs : Nat) (l : List UInt8) (w : World) (hsrc : ∀ i (h : i < l.length), w.cell? ⟨bs, os + i, none⟩ = some (.int .u8 ((l[i]'h).toNat : Int))) (hb : bs < w.heap.size) (hbig : 2 * l.length ≤ 281474976710656) :
    Calls Tryz.prog 221 #[.slice (some ⟨bs, os, none⟩) l.length cs] w fun e w' => e = .returned (.string ⟨(Hx.encode l).toArray⟩) ∧ Below w.heap.size w w' := Any.hex_EncodeToString_bytes Tryz.laysPah39 bs os cs l w hsrc hb hbig
open Go.RowKit Go.Lib in
theorem Tryz.hex_EncodeToString_nil (w : World) :
    Calls Tryz.prog 221 #[.slice none 0 0] w fun e w' => e = .returned (.string ⟨#[]⟩) ∧ Below w.heap.size w w' := Any.hex_EncodeToString_nil Tryz.laysPah39 w
def Tryz.laysPah43_ren : Go.Shelf.Ren := ⟨fun | 43 => 231 | 42 => 243 | 44 => 244 | n => n, fun | 9 => 9 | 30 => 22 | 35 => 208 | 3 => 3 | 38 => 209 | 4 => 4 | 0 => 0 | 5 => 5 | 47 => 237 | 46 => 156 | 45 => 253 | n => n, fun | 0 => 1 | n => n⟩
theorem Tryz.laysPah43 : Go.Proofs.Lays.ph43 Tryz.prog Tryz.laysPah43_ren := {
  mixed := by kernel_rfl
  f42 := Tryz.func243.trans (congrArg some (by kernel_rfl))
  f43 := Tryz.func231.trans (congrArg some (by kernel_rfl))
  f44 := Tryz.func244.trans (congrArg some (by kernel_rfl))
  t0 := Tryz.underlying0
  a0 := Tryz.isAgg0
  z0 := Tryz.sizeOf0
  v0 := Tryz.zeroValue0
  t3 := Tryz.underlying3
  a3 := Tryz.isAgg3
  z3 := Tryz.sizeOf3
  v3 := Tryz.zeroValue3
  t4 := Tryz.underlying4
  a4 := Tryz.isAgg4
  z4 := Tryz.sizeOf4
  v4 := Tryz.zeroValue4
  t5 := Tryz.underlying5
  a5 := Tryz.isAgg5
  z5 := Tryz.sizeOf5
  v5 := Tryz.zeroValue5
  t9 := Tryz.underlying9
  a9 := Tryz.isAgg9
  z9 := Tryz.sizeOf9
  v9 := Tryz.zeroValue9
  t30 := Tryz.underlying22
  a30 := Tryz.isAgg22
  z30 := Tryz.sizeOf22
  v30 := Tryz.zeroValue22
  t35 := Tryz.underlying208
  a35 := Tryz.isAgg208
  z35 := Tryz.sizeOf208
  v35 := Tryz.zeroValue208
  t38 := Tryz.underlying209
  a38 := Tryz.isAgg209
  z38 := Tryz.sizeOf209
  v38 := Tryz.zeroValue209
  t45 := Tryz.underlying253
  a45 := Tryz.isAgg253
  z45 := Tryz.sizeOf253
  v45 := Tryz.zeroValue253
  t46 := Tryz.underlying156
  a46 := Tryz.isAgg156
  z46 := Tryz.sizeOf156
  v46 := Tryz.zeroValue156
  t47 := Tryz.underlying237
  a47 := Tryz.isAgg237
  z47 := Tryz.sizeOf237
  v47 := Tryz.zeroValue237
  g0 := by kernel_rfl
  info5 := by kernel_rfl }
open Go.RowKit Go.Lib in
theorem Tryz.hex_DecodeString_owns (s : ByteArray) (w : World) (ev : Value) (hE : w.cell? ⟨1, 0, none⟩ = some ev) (hbig : s.size ≤ 281474976710656) :
    Calls Tryz.prog 231 #[.string s] w fun e w' => ∃ v, e = .returned (.tuple #[v, Hx.errVal 237 ev (Hx.decode s.data.toList).2]) ∧
      w'.ownsRow w.heap.size 5 1 v (Hx.decode s.data.toList).1.length ((Hx.decode s.data.toList).1.map fun b => Value.int .u8 (b.toNat : Int)) ∧ Below w.heap.size w w' := Any.hex_DecodeString_owns Tryz.laysPah43 s w ev hE hbig
end Go.Proofs

set_option linter.unusedSimpArgs false
set_option linter.unusedVariables false
set_option linter.unnecessarySimpa false
namespace Go.Proofs.YtghfijncihbojaaGreatDoor
open Go Go.RowKit

theorem hasPrefix_eq (s p : Str) : Lib.hasPrefix s p = prefixB s p := by
  unfold Lib.hasPrefix prefixB
  rw [Bool.eq_iff_iff]
  simp only [List.isPrefixOf_iff_prefix, Bool.and_eq_true, decide_eq_true_eq]
  constructor
  · rintro ⟨t, rfl⟩; simp
  · rintro ⟨h1, h2⟩; exact ⟨s.drop p.length, (congrArg (fun q => q ++ s.drop p.length) h2).symm.trans (List.take_append_drop _ _)⟩
def suffixB (s p : Str) : Bool := decide (p.length ≤ s.length) && decide (s.drop (s.length - p.length) = p)
theorem hasSuffix_eq (s p : Str) : Lib.hasSuffix s p = suffixB s p := by
  unfold Lib.hasSuffix suffixB
  rw [Bool.eq_iff_iff]
  simp only [List.isSuffixOf_iff_suffix, Bool.and_eq_true, decide_eq_true_eq]
  constructor
  · rintro ⟨t, rfl⟩; simp
  · rintro ⟨h1, h2⟩; exact ⟨s.take (s.length - p.length), (congrArg (fun q => s.take (s.length - p.length) ++ q) h2).symm.trans (List.take_append_drop _ _)⟩
def cutPre (s p : Str) : Str × Bool := if prefixB s p = true then (s.drop p.length, true) else (s, false)
def cutSuf (s p : Str) : Str × Bool := if suffixB s p = true then (s.take (s.length - p.length), true) else (s, false)
theorem cutPre_lib (s p : Str) : cutPre s p = (Lib.trimPrefix s p, Lib.hasPrefix s p) := by
  unfold cutPre Lib.trimPrefix
  rw [hasPrefix_eq]
  cases prefixB s p <;> rfl
theorem cutSuf_lib (s p : Str) : cutSuf s p = (Lib.trimSuffix s p, Lib.hasSuffix s p) := by
  unfold cutSuf Lib.trimSuffix
  rw [hasSuffix_eq]
  cases suffixB s p <;> rfl
theorem cutPre_len (s p : Str) : (cutPre s p).1.length ≤ s.length := by unfold cutPre; split <;> simp
theorem cutSuf_len (s p : Str) : (cutSuf s p).1.length ≤ s.length := by unfold cutSuf; split <;> simp [List.length_take]

theorem N_hasPrefix (s p : Str) : Ct Tryz.prog 219 [str s, str p] [] (fun _ => True) (fun v A' => ∃ b, prefixB s p = b ∧ v = .bool b ∧ A' = []) := fun w hA _ => by
  refine (Tryz.strings_HasPrefix ⟨s.toArray⟩ ⟨p.toArray⟩ w).mono fun e w' h => ?_
  obtain ⟨rfl, rfl⟩ := h
  exact ⟨_, [], rfl, ⟨_, rfl, by simp only [← hasPrefix_eq], rfl⟩, hA.below (Below.refl _ _)⟩
theorem N_cutPrefix (s p : Str) : Ct Tryz.prog 222 [str s, str p] [] (fun _ => True) (fun v A' => ∃ u b, cutPre s p = (u, b) ∧ u.length ≤ s.length ∧ v = .tuple #[str u, .bool b] ∧ A' = []) := fun w hA _ => by
  refine (Tryz.strings_CutPrefix ⟨s.toArray⟩ ⟨p.toArray⟩ w).mono fun e w' h => ?_
  obtain ⟨rfl, rfl⟩ := h
  exact ⟨_, [], rfl, ⟨_, _, cutPre_lib s p, by have := cutPre_len s p; rw [cutPre_lib] at this; exact this, rfl, rfl⟩, hA.below (Below.refl _ _)⟩
theorem N_cutSuffix (s p : Str) (hs : s.length ≤ 9223372036854775807) : Ct Tryz.prog 181 [str s, str p] [] (fun _ => True) (fun v A' => ∃ u b, cutSuf s p = (u, b) ∧ u.length ≤ s.length ∧ v = .tuple #[str u, .bool b] ∧ A' = []) := fun w hA _ => by
  refine (Tryz.strings_CutSuffix ⟨s.toArray⟩ ⟨p.toArray⟩ w (by rw [size_mk]; omega)).mono fun e w' h => ?_
  obtain ⟨rfl, rfl⟩ := h
  exact ⟨_, [], rfl, ⟨_, _, cutSuf_lib s p, by have := cutSuf_len s p; rw [cutSuf_lib] at this; exact this, rfl, rfl⟩, hA.below (Below.refl _ _)⟩
end Go.Proofs.YtghfijncihbojaaGreatDoor

set_option linter.unusedSimpArgs false
set_option linter.unusedVariables false
set_option linter.unnecessarySimpa false
namespace Go.Proofs.YtghfijncihbojaaGreatDoor
open Go Go.RowKit

theorem C_itoa (n : Int) (h0 : -9223372036854775808 ≤ n) (h1 : n ≤ 9223372036854775807) : Ct Tryz.prog 183 [.int .i64 n] [] (fun _ => True) (fun v A' => v = str (dec n) ∧ A' = []) := fun w hA _ => by
  refine (Tryz.strconv_Itoa n h0 h1 w hA.glob.1).mono fun e w' h => ?_
  obtain ⟨rfl, k, os, rfl⟩ := h
  exact ⟨_, [], rfl, ⟨rfl, rfl⟩, hA.below (below_grow w k os)⟩

/-- What Atoi says. -/
def atoiPost (t : Str) (v : Value) : Prop := (∃ n, Lib.atoiAll t = .ok n ∧ v = .tuple #[.int .i64 n, .nilIface]) ∨ ((∀ n, Lib.atoiAll t ≠ .ok n) ∧ ∃ n te pe, v = .tuple #[.int .i64 n, .iface te pe])
theorem C_atoi (t : Str) (ht : t.length ≤ 281474976710656) : Ct Tryz.prog 225 [str t] [] (fun _ => True) (fun v A' => atoiPost t v ∧ A' = []) := fun w hA _ => by
  have hs : (ByteArray.mk t.toArray).size = t.length := size_mk t
  have hl : (ByteArray.mk t.toArray).data.toList = t := by simp
  obtain ⟨tp, p, hv1⟩ := hA.glob.two
  obtain ⟨tp', p', hv2⟩ := hA.glob.three
  rcases hat : Lib.atoiAll t with n | _ | _
  · skip
    refine (Tryz.strconv_Atoi_ok ⟨t.toArray⟩ (by rw [hs]; omega) n (by rw [hl]; exact hat) w).mono fun e w' h => ?_
    obtain ⟨rfl, h⟩ := h
    have hb : Below w.heap.size w w' := by
      rcases h with rfl | ⟨q, rfl⟩
      · exact Below.refl _ _
      · exact ⟨rfl, rfl, rfl, by rw [Lib.bytesWorld_size]; omega, fun k hk => Lib.bytesWorld_at_old w _ _ k hk⟩
    exact ⟨_, [], rfl, ⟨.inl ⟨n, hat, rfl⟩, rfl⟩, hA.below hb⟩
  · skip
    refine (Any.strconv_Atoi_syntax_var Tryz.laysC172 ⟨t.toArray⟩ (by rw [hs]; omega) (by rw [hl]; exact hat) tp p w hv1).mono fun e w' h => ?_
    obtain ⟨N, rfl, _, _, hb⟩ := h
    exact ⟨_, [], rfl, ⟨.inr ⟨fun n hn => by rw [hat] at hn; simp at hn, _, _, _, rfl⟩, rfl⟩, hA.below hb⟩
  · skip
    refine (Tryz.strconv_Atoi_range_var ⟨t.toArray⟩ (by rw [hs]; omega) (by rw [hl]; exact hat) tp' p' w hv2).mono fun e w' h => ?_
    obtain ⟨N, rfl, _, _, hb⟩ := h
    exact ⟨_, [], rfl, ⟨.inr ⟨fun n hn => by rw [hat] at hn; simp at hn, _, _, _, rfl⟩, rfl⟩, hA.below hb⟩
end Go.Proofs.YtghfijncihbojaaGreatDoor

set_option linter.unusedSimpArgs false
set_option linter.unusedVariables false
set_option linter.unnecessarySimpa false
namespace Go.Proofs.YtghfijncihbojaaGreatDoor
open Go Go.RowKit
attribute [local irreducible] JL JC JQ JO LO PO JA JX Ct

theorem C_within (n lo hi : Int) :
    Ct Tryz.prog 35 [.int .i64 n, .int .i64 lo, .int .i64 hi] [] (fun _ => True) (fun v A' => v = .bool (decide (lo ≤ n) && decide (n ≤ hi)) ∧ A' = []) := by
  refine Ct.intro Tryz.func35 rfl Tryz.ntmps35 (lb rfl) fun w0 hpre => ?_
  refine jD <| jF <| jA (jG (v := .bool false) rfl) <| jE <| jB <| jD <| jF <| jA (jC (v := iv n) rfl) <| jA (jC (v := iv lo) rfl) <| jA (kT rfl rfl) ?_
  refine jA (jC (v := .bool (decide (lo ≤ n))) rfl) ?_
  by_cases h_1 : lo ≤ n
  · refine jX rfl rfl rfl (cB (dT h_1)) (jZ (jd (jC (v := iv n) rfl))) ?_
    rintro _ _ ⟨rfl, rfl⟩
    refine jX rfl rfl rfl (cB (dT h_1)) (jZ (jd (jC (v := iv hi) rfl))) ?_
    rintro _ _ ⟨rfl, rfl⟩
    refine jX rfl rfl rfl (cB (dT h_1)) (jZ (jd (PO.leq rfl rfl))) ?_
    rintro _ _ ⟨rfl, rfl⟩
    refine jA (jw (v := .bool (decide (n ≤ hi))) (cB (dT h_1)) rfl) <| jA (jG (v := .bool (decide (n ≤ hi))) rfl) <| jE <| jB <| jM <| jU (.inl rfl) rfl (jN (v := .bool (decide (n ≤ hi))) rfl) (List.nil_sublist _) ?_
    refine ⟨?_, rfl⟩
    simp_all <;> omega
  refine jO (b := false) rfl rfl rfl (cB (dF h_1)) <| jO (b := false) rfl rfl rfl (cB (dF h_1)) <| jO (b := false) rfl rfl rfl (cB (dF h_1)) <| jA (js (v := .bool false) (cB (dF h_1)) rfl) <| jA (jG (v := .bool false) rfl) <| jE <| jB <| jM <| jU (.inl rfl) rfl (jN (v := .bool false) rfl) (List.nil_sublist _) ?_
  refine ⟨?_, rfl⟩
  simp_all <;> omega

theorem C_keyOk (key : Str) (hk : key.length ≤ 1000000000000) :
    Ct Tryz.prog 213 [str key] [] (fun _ => True) (fun v A' => v = .bool (keyOk key) ∧ A' = []) := by
  refine Ct.intro Tryz.func213 rfl Tryz.ntmps213 (lb rfl) fun w0 hpre => ?_
  refine jD <| jF <| jA (jG (v := .bool false) rfl) <| jE <| jB <| jD <| jD <| jF <| jA (jC (v := str key) rfl) <| jA (kM kf rfl) ?_
  refine jA (jC (v := iv 0) rfl) <| jE <| jB <| jl <| kE (fun k_ e_ L_ => ∃ j : Nat, (j ≤ key.length) ∧ (∀ i, i < j → i < key.length → keyByte (key.getD i 0) = true) ∧ e_ 0 = str key ∧ e_ 5 = iv (key.length : Int) ∧ e_ 6 = nv j ∧ L_ = [] ∧ k_ = key.length - j) _ ⟨0, by omega, (fun i hi => absurd hi (Nat.not_lt_zero i)), rfl, rfl, rfl, rfl, rfl⟩ ?_
  rintro _ e_1 _ ⟨j, hj, hN, he_2, he_3, he_4, rfl, rfl⟩
  refine jD <| jF <| jA (jr he_4 he_3) <| jE <| jB <| jD ?_
  by_cases h_5 : ((j : Nat) : Int) < (key.length : Int)
  · refine jQ (cB (dT h_5)) <| jW <| jB <| jD <| jl <| jD <| jF <| jA (jC (v := nv j) he_4) <| jA (jG (v := nv j) rfl) <| jE ?_
    refine jB <| jD <| jF <| jA (jC (v := str key) he_2) <| jA (jC (v := nv j) rfl) <| jA (kY (i := j) (c := key.getD j 0) kf rfl rfl (getD_some (by omega))) ?_
    have hu_6 := UInt8.toNat_lt (key.getD j 0)
    refine jA (jr rfl rfl) <| jA (jC (v := .bool (decide (((key.getD j 0).toNat : Int) < 33))) rfl) ?_
    by_cases h_7 : ((key.getD j 0).toNat : Int) < 33
    · refine jO (b := true) rfl rfl rfl (cB (dT h_7)) <| jO (b := true) rfl rfl rfl (cB (dT h_7)) <| jO (b := true) rfl rfl rfl (cB (dT h_7)) <| jO (b := true) rfl rfl rfl (cB (dT h_7)) <| jA (jw (v := .bool true) (cB (dT h_7)) rfl) <| jA (jC (v := .bool true) rfl) <| jO (b := true) rfl rfl rfl (cB rfl) <| jO (b := true) rfl rfl rfl (cB rfl) <| jO (b := true) rfl rfl rfl (cB rfl) <| jO (b := true) rfl rfl rfl (cB rfl) ?_
      refine jA (jw (v := .bool true) (cB rfl) rfl) <| jE <| jB <| jQ (cB rfl) <| jD <| jF <| jA (jG (v := .bool false) rfl) <| jE <| jB <| jM ?_
      refine kA <| jb <| jb <| kA <| jb <| jU (.inl rfl) rfl (jN (v := .bool false) rfl) (List.nil_sublist _) ?_
      refine ⟨?_, rfl⟩
      rw [keyOk_bad (j := j) (by omega) (by simp only [keyByte, Bool.and_eq_true, Bool.and_eq_false_iff, decide_eq_true_eq, decide_eq_false_iff_not, Bool.not_eq_true', Bool.not_eq_false']; omega)]
    refine jX rfl rfl rfl (cB (dF h_7)) (jZ (jd (jC (v := str key) he_2))) ?_
    rintro _ _ ⟨rfl, rfl⟩
    refine jX rfl rfl rfl (cB (dF h_7)) (jZ (jd (jC (v := nv j) rfl))) ?_
    rintro _ _ ⟨rfl, rfl⟩
    refine jX rfl rfl rfl (cB (dF h_7)) (jZ (jd (kY (i := j) (c := key.getD j 0) kf rfl rfl (getD_some (by omega))))) ?_
    rintro _ _ ⟨rfl, rfl⟩
    have hu_8 := UInt8.toNat_lt (key.getD j 0)
    refine jX rfl rfl rfl (cB (dF h_7)) (jZ (jd (kU rfl rfl))) ?_
    rintro _ _ ⟨rfl, rfl⟩
    refine jA (js (v := .bool (decide (126 < ((key.getD j 0).toNat : Int)))) (cB (dF h_7)) rfl) <| jA (jC (v := .bool (decide (126 < ((key.getD j 0).toNat : Int)))) rfl) ?_
    by_cases h_9 : 126 < ((key.getD j 0).toNat : Int)
    · refine jO (b := true) rfl rfl rfl (cB (dT h_9)) <| jO (b := true) rfl rfl rfl (cB (dT h_9)) <| jO (b := true) rfl rfl rfl (cB (dT h_9)) <| jO (b := true) rfl rfl rfl (cB (dT h_9)) <| jA (jw (v := .bool true) (cB (dT h_9)) rfl) <| jE <| jB <| jQ (cB rfl) <| jD <| jF ?_
      refine jA (jG (v := .bool false) rfl) <| jE <| jB <| jM <| kA <| jb <| jb <| kA <| jb <| jU (.inl rfl) rfl (jN (v := .bool false) rfl) (List.nil_sublist _) ?_
      refine ⟨?_, rfl⟩
      rw [keyOk_bad (j := j) (by omega) (by simp only [keyByte, Bool.and_eq_true, Bool.and_eq_false_iff, decide_eq_true_eq, decide_eq_false_iff_not, Bool.not_eq_true', Bool.not_eq_false']; omega)]
    refine jX rfl rfl rfl (cB (dF h_9)) (jZ (jd (jC (v := str key) he_2))) ?_
    rintro _ _ ⟨rfl, rfl⟩
    refine jX rfl rfl rfl (cB (dF h_9)) (jZ (jd (jC (v := nv j) rfl))) ?_
    rintro _ _ ⟨rfl, rfl⟩
    refine jX rfl rfl rfl (cB (dF h_9)) (jZ (jd (kY (i := j) (c := key.getD j 0) kf rfl rfl (getD_some (by omega))))) ?_
    rintro _ _ ⟨rfl, rfl⟩
    have hu_10 := UInt8.toNat_lt (key.getD j 0)
    refine jX rfl rfl rfl (cB (dF h_9)) (jZ (jd (jx rfl rfl))) ?_
    rintro _ _ ⟨rfl, rfl⟩
    refine jA (js (v := .bool (decide (((key.getD j 0).toNat : Int) = 42))) (cB (dF h_9)) rfl) <| jE <| jB ?_
    by_cases h_11 : ((key.getD j 0).toNat : Int) = 42
    · refine jQ (cB (dT h_11)) <| jD <| jF <| jA (jG (v := .bool false) rfl) <| jE <| jB <| jM <| kA <| jb <| jb ?_
      refine kA <| jb <| jU (.inl rfl) rfl (jN (v := .bool false) rfl) (List.nil_sublist _) ?_
      refine ⟨?_, rfl⟩
      rw [keyOk_bad (j := j) (by omega) (by simp only [keyByte, Bool.and_eq_true, Bool.and_eq_false_iff, decide_eq_true_eq, decide_eq_false_iff_not, Bool.not_eq_true', Bool.not_eq_false']; omega)]
    refine jR (cB (dF h_11)) <| jW <| jk <| jB <| jF <| jA (ji (c := ((j + 1 : Nat) : Int)) he_4 rfl (wr (by omega))) <| jA (jC (v := iv ((j + 1 : Nat) : Int)) rfl) <| jE ?_
    refine ju (key.length - (j + 1)) (by omega) ⟨j + 1, by omega, (fun i hi hl => if h : i = j then h ▸ (by simp only [keyByte, Bool.and_eq_true, Bool.and_eq_false_iff, decide_eq_true_eq, decide_eq_false_iff_not, Bool.not_eq_true', Bool.not_eq_false']; omega : keyByte (key.getD j 0) = true) else hN i (by omega) hl), he_2, he_3, rfl, rfl, rfl⟩
  refine jR (cB (dF h_5)) <| kB <| jm <| jm <| kC <| jB <| jD <| jF <| jA (jC (v := str key) he_2) <| jA (kM kf rfl) ?_
  refine jH rfl (jI [] Tryz.call35 rfl (C_within (key.length : Int) 1 40) rfl (fun _ _ => trivial)) ?_
  rintro _ _ ⟨_, ⟨rfl, rfl⟩, rfl⟩
  refine jA (jG (v := .bool (decide (1 ≤ (key.length : Int)) && decide ((key.length : Int) ≤ 40))) rfl) <| jE <| jB <| jM <| jU (.inl rfl) rfl (jN (v := .bool (decide (1 ≤ (key.length : Int)) && decide ((key.length : Int) ≤ 40))) rfl) (List.nil_sublist _) ?_
  refine ⟨?_, rfl⟩
  rw [keyOk_good (j := j) (by omega) hN]
  exact cB (by congr 1 <;> exact decide_eq_decide.2 (by omega))

theorem C_cellAt1 (kb : Nat) (key : Str) (x : Cell) :
    Ct Tryz.prog 235 [.agg #[str x.1, str x.2], .pointer (some ⟨kb, 0, none⟩)] [bk kb 9 [str key]] (fun _ => True) (fun v A' => v = .bool (decide (x.1 = key)) ∧ A' = [bk kb 9 [str key]]) := by
  refine Ct.intro Tryz.func235 rfl Tryz.ntmps235 (lb rfl) fun w0 hpre => ?_
  refine jD <| jF ?_
  refine jH rfl (jv (cs := [str x.1, str x.2]) rfl rfl) ?_
  rintro _ _ ⟨b_1, rfl, rfl⟩
  refine jA (jG (v := .bool false) rfl) <| jE <| jB <| jD <| jF <| jA (jY fo130_0 rfl) <| jT (jf 0 (v := str x.1) rfl rfl kg rfl) <| jT (jf 1 (v := str key) rfl rfl kg rfl) <| jA (PO.eqlS rfl rfl) <| jA (jG (v := .bool (decide (x.1 = key))) rfl) ?_
  refine jE <| jB <| jM <| kK (pick_perm [1] (A := [bk kb 9 [str key]]) (F := [bk b_1 130 [str x.1, str x.2]]) rfl).symm <| jU (.inl rfl) rfl (jN (v := .bool (decide (x.1 = key))) rfl) (sL [bk kb 9 [str key]] [bk b_1 130 [str x.1, str x.2]]) ?_
  exact ⟨rfl, rfl⟩

theorem C_put1 (kb : Nat) (key : Str) (x : Cell) :
    Ct Tryz.prog 215 [.agg #[str x.1, str x.2], .pointer (some ⟨kb, 0, none⟩)] [bk kb 9 [str key]] (fun _ => True) (fun v A' => v = .bool (decide (x.1 = key)) ∧ A' = [bk kb 9 [str key]]) := by
  refine Ct.intro Tryz.func215 rfl Tryz.ntmps215 (lb rfl) fun w0 hpre => ?_
  refine jD <| jF ?_
  refine jH rfl (jv (cs := [str x.1, str x.2]) rfl rfl) ?_
  rintro _ _ ⟨b_1, rfl, rfl⟩
  refine jA (jG (v := .bool false) rfl) <| jE <| jB <| jD <| jF <| jA (jY fo130_0 rfl) <| jT (jf 0 (v := str x.1) rfl rfl kg rfl) <| jT (jf 1 (v := str key) rfl rfl kg rfl) <| jA (PO.eqlS rfl rfl) <| jA (jG (v := .bool (decide (x.1 = key))) rfl) ?_
  refine jE <| jB <| jM <| kK (pick_perm [1] (A := [bk kb 9 [str key]]) (F := [bk b_1 130 [str x.1, str x.2]]) rfl).symm <| jU (.inl rfl) rfl (jN (v := .bool (decide (x.1 = key))) rfl) (sL [bk kb 9 [str key]] [bk b_1 130 [str x.1, str x.2]]) ?_
  exact ⟨rfl, rfl⟩

theorem C_put2 (kb : Nat) (key : Str) (x : Cell) :
    Ct Tryz.prog 217 [.agg #[str x.1, str x.2], .pointer (some ⟨kb, 0, none⟩)] [bk kb 9 [str key]] (fun _ => True) (fun v A' => v = .bool (gtrB x.1 key) ∧ A' = [bk kb 9 [str key]]) := by
  refine Ct.intro Tryz.func217 rfl Tryz.ntmps217 (lb rfl) fun w0 hpre => ?_
  refine jD <| jF ?_
  refine jH rfl (jv (cs := [str x.1, str x.2]) rfl rfl) ?_
  rintro _ _ ⟨b_1, rfl, rfl⟩
  refine jA (jG (v := .bool false) rfl) <| jE <| jB <| jD <| jF <| jA (jY fo130_0 rfl) <| jT (jf 0 (v := str x.1) rfl rfl kg rfl) <| jT (jf 1 (v := str key) rfl rfl kg rfl) <| jA (PO.gtrS rfl rfl) <| jA (jG (v := .bool (!Op.bytesLess x.1 key && !decide (x.1 = key))) rfl) ?_
  refine jE <| jB <| jM <| kK (pick_perm [1] (A := [bk kb 9 [str key]]) (F := [bk b_1 130 [str x.1, str x.2]]) rfl).symm <| jU (.inl rfl) rfl (jN (v := .bool (!Op.bytesLess x.1 key && !decide (x.1 = key))) rfl) (sL [bk kb 9 [str key]] [bk b_1 130 [str x.1, str x.2]]) ?_
  exact ⟨rfl, rfl⟩

theorem C_addSpan1 (kb : Nat) (key : Str) (x : Str) :
    Ct Tryz.prog 130 [str x, .pointer (some ⟨kb, 0, none⟩)] [bk kb 9 [str key]] (fun _ => True) (fun v A' => v = .bool (geqB x key) ∧ A' = [bk kb 9 [str key]]) := by
  refine Ct.intro Tryz.func130 rfl Tryz.ntmps130 (lb rfl) fun w0 hpre => ?_
  refine jD <| jF <| jA (jG (v := .bool false) rfl) <| jE <| jB <| jD <| jF <| jA (jC (v := str x) rfl) <| jT (jf 0 (v := str key) rfl rfl kg rfl) <| jA (PO.geqS rfl rfl) ?_
  refine jA (jG (v := .bool (!(Op.bytesLess x key))) rfl) <| jE <| jB <| jM <| jU (.inl rfl) rfl (jN (v := .bool (!(Op.bytesLess x key))) rfl) (List.Sublist.refl _) ?_
  exact ⟨rfl, rfl⟩

theorem C_cellAt (a : Option Addr) (c : Nat) (s : List Cell) (key : Str) (hn : s.length ≤ 1000000000000) :
    Ct Tryz.prog 223 [.slice a s.length c, str key] [] (fun w_ => Sees w_ (.slice a s.length c) 2 s.length (s.flatMap encC)) (fun v A' => v = .int .i64 (idxI (fun q_ => decide (q_.1 = key)) s) ∧ A' = []) := by
  refine Ct.intro Tryz.func223 rfl Tryz.ntmps223 (lb rfl) fun w0 hpre => ?_
  have hs_a : Sees w0 _ _ _ _ := hpre
  refine jD <| jF ?_
  refine jH rfl (jv (cs := [str key]) rfl rfl) ?_
  rintro _ _ ⟨b_1, rfl, rfl⟩
  refine jA (jG (v := iv 0) rfl) <| jE <| jB <| jD <| jF <| jA (jC (v := .slice a s.length c) rfl) <| jA (PO.makeFunc (fv := []) (cv := [.pointer (some ⟨b_1, 0, none⟩)]) rfl rfl) ?_
  refine jH rfl (jI [0] Tryz.call216 rfl (C_idxC 235 Tryz.call235 b_1 key (fun q_ => decide (q_.1 = key)) (C_cellAt1 b_1 key) a c s (by omega)) rfl (fun w hw => ⟨hw.seeOut_ hs_a nM, hw.apartF 0 hs_a rfl List.not_mem_nil⟩)) ?_
  rintro _ _ ⟨_, ⟨rfl, rfl⟩, rfl⟩
  have hix1 := idxI_lo (fun q_ => decide (q_.1 = key)) s
  have hfl1 := findAt_le (fun q_ => decide (q_.1 = key)) s
  refine jA (jG (v := iv (idxI (fun q_ => decide (q_.1 = key)) s)) rfl) <| jE <| jB <| jM <| jU (.inl rfl) rfl (jN (v := iv (idxI (fun q_ => decide (q_.1 = key)) s)) rfl) (List.nil_sublist _) ?_
  exact ⟨rfl, rfl⟩

theorem C_getKey (a : Option Addr) (c : Nat) (s : List Cell) (key : Str) (hn : s.length ≤ 1000000000000) :
    Ct Tryz.prog 206 [.slice a s.length c, str key] [] (fun w_ => Sees w_ (.slice a s.length c) 2 s.length (s.flatMap encC)) (fun v A' => v = str (getKey s key) ∧ A' = []) := by
  refine Ct.intro Tryz.func206 rfl Tryz.ntmps206 (lb rfl) fun w0 hpre => ?_
  have hs_a : Sees w0 _ _ _ _ := hpre
  refine jD <| jF <| jA (jG (v := str []) rfl) <| jE <| jB <| jD <| jD <| jF <| jA (jC (v := .slice a s.length c) rfl) <| jA (jC (v := str key) rfl) ?_
  refine jH rfl (jI [] Tryz.call223 rfl (C_cellAt a c s key (by omega)) rfl (fun w hw => hw.seeOut_ hs_a nM)) ?_
  rintro _ _ ⟨_, ⟨rfl, rfl⟩, rfl⟩
  have hix0 := idxI_lo (fun q_ => decide (q_.1 = key)) s
  have hfl0 := findAt_le (fun q_ => decide (q_.1 = key)) s
  refine jA (jG (v := iv (idxI (fun q_ => decide (q_.1 = key)) s)) rfl) <| jE <| jB <| jD <| jF <| jA (jC (v := iv (idxI (fun q_ => decide (q_.1 = key)) s)) rfl) <| jA (kT rfl rfl) <| jE <| jB ?_
  by_cases h_1 : 0 ≤ (idxI (fun q_ => decide (q_.1 = key)) s)
  · have hx_2l : findAt (fun q_ => decide (q_.1 = key)) s < s.length := by omega
    have hx_2e : idxI (fun q_ => decide (q_.1 = key)) s = ((findAt (fun q_ => decide (q_.1 = key)) s : Nat) : Int) := by omega
    refine jQ (cB (dT h_1)) <| jD <| jF <| jA (jC (v := .slice a s.length c) rfl) <| jA (jC (v := iv ((findAt (fun q_ => decide (q_.1 = key)) s : Nat) : Int)) (congrArg (Value.int .i64) hx_2e)) ?_
    obtain ⟨hr_3, hr_3b, -⟩ := sees_some hs_a (by omega)
    refine jA (kD (i := (findAt (fun q_ => decide (q_.1 = key)) s)) ki kp hr_3 hr_3b rfl rfl (by omega)) <| jA (PO.fieldAddrE fo130_1 hr_3 rfl) <| jT (kV (v := str ((s.getD (findAt (fun q_ => decide (q_.1 = key)) s) c0).2)) hs_a nM rfl kg (atC2 (by omega))) <| jA (jG (v := str ((s.getD (findAt (fun q_ => decide (q_.1 = key)) s) c0).2)) rfl) <| jE <| jB <| jM <| jb <| jU (.inl rfl) rfl (jN (v := str ((s.getD (findAt (fun q_ => decide (q_.1 = key)) s) c0).2)) rfl) (List.nil_sublist _) ?_
    refine ⟨?_, rfl⟩
    rw [getKey_found hx_2l]
  have hx_4l : findAt (fun q_ => decide (q_.1 = key)) s = s.length := by omega
  refine jR (cB (dF h_1)) <| jW <| jB <| jD <| jF <| jA (jG (v := str []) rfl) <| jE <| jB <| jM <| jU (.inl rfl) rfl (jN (v := str []) rfl) (List.nil_sublist _) ?_
  refine ⟨?_, rfl⟩
  rw [getKey_none hx_4l]

theorem C_addSpan (a : Option Addr) (c : Nat) (l : List Str) (x : Str) (hn : l.length ≤ 100000000000) :
    Ct Tryz.prog 66 [.slice a l.length c, str x] [Res.row (.slice a l.length c) 9 1 l.length (l.map str)] (fun _ => True) (fun v A' => ∃ a' c', v = .slice a' (addSpan l x).length c' ∧ A' = [.row (.slice a' (addSpan l x).length c') 9 1 (addSpan l x).length ((addSpan l x).map str)]) := by
  refine Ct.intro Tryz.func66 rfl Tryz.ntmps66 (lb rfl) fun w0 hpre => ?_
  refine jD <| jF ?_
  refine jH rfl (jv (cs := [str x]) rfl rfl) ?_
  rintro _ _ ⟨b_1, rfl, rfl⟩
  refine jA (jG (v := .slice none 0 0) rfl) <| jE <| jB <| jD <| jF <| jA (jC (v := .slice a l.length c) rfl) <| jA (PO.makeFunc (fv := []) (cv := [.pointer (some ⟨b_1, 0, none⟩)]) rfl rfl) ?_
  refine jH rfl (jI [0] Tryz.call129 rfl (C_idxS 130 Tryz.call130 b_1 x (fun q_ => geqB q_ x) (C_addSpan1 b_1 x) a c l (by omega)) rfl (fun w hw => ⟨hw.see (i := 1) rfl, hw.apartO 1 0 rfl rfl rfl⟩)) ?_
  rintro _ _ ⟨_, ⟨rfl, rfl⟩, rfl⟩
  have hix1 := idxI_lo (fun q_ => geqB q_ x) l
  have hfl1 := findAt_le (fun q_ => geqB q_ x) l
  refine jA (jG (v := iv (idxI (fun q_ => geqB q_ x) l)) rfl) <| jE <| jB <| jD <| jD <| jF <| jA (jC (v := iv (idxI (fun q_ => geqB q_ x) l)) rfl) <| jA (jr rfl rfl) <| jE <| jB ?_
  by_cases h_2 : (idxI (fun q_ => geqB q_ x) l) < 0
  · have hx_3l : findAt (fun q_ => geqB q_ x) l = l.length := by omega
    refine jQ (cB (dT h_2)) <| jD <| jF <| jA (jC (v := .slice a l.length c) rfl) <| jT (jf 0 (v := str x) rfl rfl kg rfl) ?_
    refine jH rfl (kH (ps := [(0, str x)]) (cur := #[str x]) kd kh gA rfl (by kernel_rfl) (by decide) (by decide)) ?_
    rintro _ _ ⟨a_4, rfl, rfl⟩
    refine jH rfl (kG 2 (q := 1) (news := ([x] : List Str).map str) (n' := (l ++ ([x] : List Str)).length) (cs' := (l ++ ([x] : List Str)).map str) rfl kd kd kt rfl (by' := 16) rfl rfl rfl rfl rfl (fun w hw => Src.sees (hw.see (i := 0) rfl) (oneS _)) (by (try simp only [LE]); omega) (by (try simp only [LE]); omega) (by simp only [List.length_append, List.length_take, List.length_drop, List.length_cons, List.length_nil] <;> first | rfl | omega) (by simp only [List.map_append])) ?_
    rintro _ _ ⟨a_5, c_6, rfl, rfl⟩
    refine jA (jG (v := .slice a_5 ((l ++ ([x] : List Str)).length) c_6) rfl) <| jE <| jB <| jM <| jb <| kK (pick_perm [2] (A := [Res.row (.slice a_5 ((l ++ ([x] : List Str)).length) c_6) 9 1 ((l ++ ([x] : List Str)).length) ((l ++ ([x] : List Str)).map str)]) (F := [Res.row (.slice a_4 1 1) 9 1 1 (([x] : List Str).map str), bk b_1 9 [str x]]) rfl).symm <| jU (.inl rfl) rfl (jN (v := .slice a_5 ((l ++ ([x] : List Str)).length) c_6) rfl) (sL [Res.row (.slice a_5 ((l ++ ([x] : List Str)).length) c_6) 9 1 ((l ++ ([x] : List Str)).length) ((l ++ ([x] : List Str)).map str)] [Res.row (.slice a_4 1 1) 9 1 1 (([x] : List Str).map str), bk b_1 9 [str x]]) ?_
    exact ⟨_, _, by rw [addSpan_end hx_3l], by rw [addSpan_end hx_3l] <;> rfl⟩
  have hx_7l : findAt (fun q_ => geqB q_ x) l < l.length := by omega
  have hx_7e : idxI (fun q_ => geqB q_ x) l = ((findAt (fun q_ => geqB q_ x) l : Nat) : Int) := by omega
  refine jR (cB (dF h_2)) <| jW <| jB <| jD <| jD <| jq [bk b_1 9 [str x], Res.row (.slice a l.length c) 9 1 l.length (l.map str)] 5 mixed (by simp) <| jJ 0 rfl (jC (v := .slice a l.length c) rfl) <| jJ 1 rfl (jC (v := iv ((findAt (fun q_ => geqB q_ x) l : Nat) : Int)) (congrArg (Value.int .i64) hx_7e)) ?_
  refine JA.facts fun hst => ?_
  obtain ⟨hr_8, hr_8b, -⟩ := row_some 1 rfl (by omega) hst
  refine jJ 2 rfl (kD (i := (findAt (fun q_ => geqB q_ x) l)) kd kh hr_8 hr_8b rfl rfl (by omega)) <| jj 3 rfl (kX 1 (v := str (l.getD (findAt (fun q_ => geqB q_ x) l) [])) rfl rfl kg (atS (by omega))) <| jj 4 rfl (jf 0 (v := str x) rfl rfl kg rfl) <| jJ 5 rfl (PO.eqlS rfl rfl) <| kI (by kernel_rfl) <| jB ?_
  by_cases h_9 : (l.getD (findAt (fun q_ => geqB q_ x) l) []) = x
  · have hsame := h_9
    refine jQ (cB (dT h_9)) <| jD <| jF <| jA (jC (v := .slice a l.length c) rfl) <| jA (jG (v := .slice a l.length c) rfl) <| jE <| jB <| jM <| jb <| kK (pick_perm [1] (A := [Res.row (.slice a l.length c) 9 1 l.length (l.map str)]) (F := [bk b_1 9 [str x]]) rfl).symm ?_
    refine jU (.inl rfl) rfl (jN (v := .slice a l.length c) rfl) (sL [Res.row (.slice a l.length c) 9 1 l.length (l.map str)] [bk b_1 9 [str x]]) ?_
    exact ⟨_, _, by rw [addSpan_same hx_7l hsame], by rw [addSpan_same hx_7l hsame] <;> rfl⟩
  have hsame := h_9
  refine jR (cB (dF h_9)) <| jW <| jB <| jD <| jF <| jA (jC (v := .slice a l.length c) rfl) <| jA (jC (v := iv ((findAt (fun q_ => geqB q_ x) l : Nat) : Int)) (congrArg (Value.int .i64) hx_7e)) <| jT (jf 0 (v := str x) rfl rfl kg rfl) ?_
  refine jH rfl (kH (ps := [(0, str x)]) (cur := #[str x]) kd kh gA rfl (by kernel_rfl) (by decide) (by decide)) ?_
  rintro _ _ ⟨a_10, rfl, rfl⟩
  refine jH rfl (jI [2, 0] Tryz.call131 rfl (C_insS a a_10 c l (findAt (fun q_ => geqB q_ x) l) x (by omega) (by omega) (by rw [List.length_map, Nat.mul_one])) rfl (fun _ _ => trivial)) ?_
  rintro _ _ ⟨_, ⟨a_11, c_12, rfl, rfl⟩, rfl⟩
  refine jA (jG (v := .slice a_11 ((insertAt (findAt (fun q_ => geqB q_ x) l) x l).length) c_12) rfl) <| jE <| jB <| jM <| jU (.inl rfl) rfl (jN (v := .slice a_11 ((insertAt (findAt (fun q_ => geqB q_ x) l) x l).length) c_12) rfl) (sL [Res.row (.slice a_11 ((insertAt (findAt (fun q_ => geqB q_ x) l) x l).length) c_12) 9 1 ((insertAt (findAt (fun q_ => geqB q_ x) l) x l).length) ((insertAt (findAt (fun q_ => geqB q_ x) l) x l).map str)] [bk b_1 9 [str x]]) ?_
  exact ⟨_, _, by rw [addSpan_ins hx_7l hsame], by rw [addSpan_ins hx_7l hsame] <;> rfl⟩

theorem C_put (a : Option Addr) (c : Nat) (s : List Cell) (key val : Str) (hn : s.length ≤ 100000000000) (hk : key.length ≤ 1000000000000) :
    Ct Tryz.prog 199 [.slice a s.length c, str key, str val] [Res.row (.slice a s.length c) 130 2 s.length (s.flatMap encC)] (fun _ => True) (fun v A' => ∃ a' c', v = .slice a' (putKey s key val).length c' ∧ A' = [.row (.slice a' (putKey s key val).length c') 130 2 (putKey s key val).length ((putKey s key val).flatMap encC)]) := by
  refine Ct.intro Tryz.func199 rfl Tryz.ntmps199 (lb rfl) fun w0 hpre => ?_
  refine jD <| jF ?_
  refine jH rfl (jv (cs := [str key]) rfl rfl) ?_
  rintro _ _ ⟨b_1, rfl, rfl⟩
  refine jA (jG (v := .slice none 0 0) rfl) <| jE <| jB <| jD <| jD <| jF <| jT (jf 0 (v := str key) rfl rfl kg rfl) ?_
  refine jH rfl (jI [] Tryz.call213 rfl (C_keyOk key (by omega)) rfl (fun _ _ => trivial)) ?_
  rintro _ _ ⟨_, ⟨rfl, rfl⟩, rfl⟩
  refine jA (kF rfl) <| jA (jC (v := .bool (!(keyOk key))) rfl) ?_
  rcases Bool.eq_false_or_eq_true (keyOk key) with h_2 | h_2
  · refine jX rfl rfl rfl (cB (cN h_2)) (jZ (jd (jC (v := str val) rfl))) ?_
    rintro _ _ ⟨rfl, rfl⟩
    refine jX rfl rfl rfl (cB (cN h_2)) (jZ (jd (kM kf rfl))) ?_
    rintro _ _ ⟨rfl, rfl⟩
    refine jX rfl rfl rfl (cB (cN h_2)) (jZ (jd (kU rfl rfl))) ?_
    rintro _ _ ⟨rfl, rfl⟩
    refine jA (js (v := .bool (decide (60 < (val.length : Int)))) (cB (cN h_2)) rfl) <| jE <| jB ?_
    by_cases h_3 : 60 < (val.length : Int)
    · refine jQ (cB (dT h_3)) <| jD <| jF <| jA (jC (v := .slice a s.length c) rfl) <| jA (jG (v := .slice a s.length c) rfl) <| jE <| jB <| jM <| jb <| kK (pick_perm [1] (A := [Res.row (.slice a s.length c) 130 2 s.length (s.flatMap encC)]) (F := [bk b_1 9 [str key]]) rfl).symm ?_
      refine jU (.inl rfl) rfl (jN (v := .slice a s.length c) rfl) (sL [Res.row (.slice a s.length c) 130 2 s.length (s.flatMap encC)] [bk b_1 9 [str key]]) ?_
      have he := (putKey_bad2 (by omega) : putKey s key val = _)
      exact ⟨_, _, by rw [he], by rw [he] <;> rfl⟩
    refine jR (cB (dF h_3)) <| jW <| jB <| jD <| jF <| jA (jC (v := .slice a s.length c) rfl) <| jA (PO.makeFunc (fv := []) (cv := [.pointer (some ⟨b_1, 0, none⟩)]) rfl rfl) ?_
    refine jH rfl (jI [0, 0] Tryz.call214 rfl (C_delC 215 Tryz.call215 b_1 key (fun q_ => decide (q_.1 = key)) (C_put1 b_1 key) a c s (by omega)) rfl (fun _ _ => trivial)) ?_
    rintro _ _ ⟨_, ⟨a_4, c_5, rfl, rfl⟩, rfl⟩
    have hfi5 : (s.filter (fun c => !decide (c.1 = key))).length ≤ s.length := List.length_filter_le _ _
    refine jA (jG (v := .slice a_4 ((s.filter (fun c => !decide (c.1 = key))).length) c_5) rfl) <| jE <| jB <| jD <| jD <| jF <| jA (jC (v := str val) rfl) <| jA (PO.eqlS rfl rfl) <| jE <| jB ?_
    by_cases h_6 : val = []
    · refine jQ (cB (dT h_6)) <| jD <| jF <| jA (jC (v := .slice a_4 ((s.filter (fun c => !decide (c.1 = key))).length) c_5) rfl) <| jA (jG (v := .slice a_4 ((s.filter (fun c => !decide (c.1 = key))).length) c_5) rfl) <| jE <| jB <| jM <| jb <| kK (pick_perm [1] (A := [Res.row (.slice a_4 ((s.filter (fun c => !decide (c.1 = key))).length) c_5) 130 2 ((s.filter (fun c => !decide (c.1 = key))).length) ((s.filter (fun c => !decide (c.1 = key))).flatMap encC)]) (F := [bk b_1 9 [str key]]) rfl).symm ?_
      refine jU (.inl rfl) rfl (jN (v := .slice a_4 ((s.filter (fun c => !decide (c.1 = key))).length) c_5) rfl) (sL [Res.row (.slice a_4 ((s.filter (fun c => !decide (c.1 = key))).length) c_5) 130 2 ((s.filter (fun c => !decide (c.1 = key))).length) ((s.filter (fun c => !decide (c.1 = key))).flatMap encC)] [bk b_1 9 [str key]]) ?_
      have he := (putKey_nil h_2 (by omega) h_6 : putKey s key val = _)
      exact ⟨_, _, by rw [he], by rw [he] <;> rfl⟩
    refine jR (cB (dF h_6)) <| jW <| jB <| jD <| jF <| jA (jC (v := .slice a_4 ((s.filter (fun c => !decide (c.1 = key))).length) c_5) rfl) <| jA (PO.makeFunc (fv := []) (cv := [.pointer (some ⟨b_1, 0, none⟩)]) rfl rfl) ?_
    refine jH rfl (jI [0] Tryz.call216 rfl (C_idxC 217 Tryz.call217 b_1 key (fun q_ => gtrB q_.1 key) (C_put2 b_1 key) a_4 c_5 (s.filter (fun c => !decide (c.1 = key))) (by omega)) rfl (fun w hw => ⟨hw.see (i := 1) rfl, hw.apartO 1 0 rfl rfl rfl⟩)) ?_
    rintro _ _ ⟨_, ⟨rfl, rfl⟩, rfl⟩
    have hix6 := idxI_lo (fun q_ => gtrB q_.1 key) (s.filter (fun c => !decide (c.1 = key)))
    have hfl6 := findAt_le (fun q_ => gtrB q_.1 key) (s.filter (fun c => !decide (c.1 = key)))
    refine jA (jG (v := iv (idxI (fun q_ => gtrB q_.1 key) (s.filter (fun c => !decide (c.1 = key))))) rfl) <| jE <| jB <| jD <| jD <| jF <| jA (jC (v := iv (idxI (fun q_ => gtrB q_.1 key) (s.filter (fun c => !decide (c.1 = key))))) rfl) <| jA (jr rfl rfl) <| jE <| jB ?_
    by_cases h_7 : (idxI (fun q_ => gtrB q_.1 key) (s.filter (fun c => !decide (c.1 = key)))) < 0
    · have hx_8l : findAt (fun q_ => gtrB q_.1 key) (s.filter (fun c => !decide (c.1 = key))) = (s.filter (fun c => !decide (c.1 = key))).length := by omega
      refine jQ (cB (dT h_7)) <| jF <| jA (jC (v := .slice a_4 ((s.filter (fun c => !decide (c.1 = key))).length) c_5) rfl) <| jA (jy ki rfl) <| jA (jG (v := iv (((s.filter (fun c => !decide (c.1 = key))).length : Nat) : Int)) rfl) <| jE <| jB <| jD <| jF <| jA (jC (v := .slice a_4 ((s.filter (fun c => !decide (c.1 = key))).length) c_5) rfl) ?_
      refine jA (jC (v := iv (((s.filter (fun c => !decide (c.1 = key))).length : Nat) : Int)) rfl) <| jT (jf 0 (v := str key) rfl rfl kg rfl) <| jA (jC (v := str val) rfl) <| jA (kN (ps := [(0, str key), (1, str val)]) (cs := [str key, str val]) rfl (by kernel_rfl)) ?_
      refine jH rfl (kH (ps := [(0, .agg #[str key, str val])]) (cur := #[str key, str val]) ki kp gJ rfl (by kernel_rfl) (by decide) (by decide)) ?_
      rintro _ _ ⟨a_9, rfl, rfl⟩
      refine jH rfl (jI [2, 0] Tryz.call218 rfl (C_insC a_4 a_9 c_5 (s.filter (fun c => !decide (c.1 = key))) ((s.filter (fun c => !decide (c.1 = key))).length) (key, val) (by omega) (by omega) (by rw [lenC])) rfl (fun _ _ => trivial)) ?_
      rintro _ _ ⟨_, ⟨a_10, c_11, rfl, rfl⟩, rfl⟩
      refine jA (jG (v := .slice a_10 ((insertAt ((s.filter (fun c => !decide (c.1 = key))).length) (key, val) (s.filter (fun c => !decide (c.1 = key)))).length) c_11) rfl) <| jE <| jB <| jM <| jU (.inl rfl) rfl (jN (v := .slice a_10 ((insertAt ((s.filter (fun c => !decide (c.1 = key))).length) (key, val) (s.filter (fun c => !decide (c.1 = key)))).length) c_11) rfl) (sL [Res.row (.slice a_10 ((insertAt ((s.filter (fun c => !decide (c.1 = key))).length) (key, val) (s.filter (fun c => !decide (c.1 = key)))).length) c_11) 130 2 ((insertAt ((s.filter (fun c => !decide (c.1 = key))).length) (key, val) (s.filter (fun c => !decide (c.1 = key)))).length) ((insertAt ((s.filter (fun c => !decide (c.1 = key))).length) (key, val) (s.filter (fun c => !decide (c.1 = key)))).flatMap encC)] [bk b_1 9 [str key]]) ?_
      have he := (putKey_ins h_2 (by omega) h_6 : putKey s key val = _)
      exact ⟨_, _, by rw [he, hx_8l], by rw [he, hx_8l] <;> rfl⟩
    have hx_12l : findAt (fun q_ => gtrB q_.1 key) (s.filter (fun c => !decide (c.1 = key))) < (s.filter (fun c => !decide (c.1 = key))).length := by omega
    have hx_12e : idxI (fun q_ => gtrB q_.1 key) (s.filter (fun c => !decide (c.1 = key))) = ((findAt (fun q_ => gtrB q_.1 key) (s.filter (fun c => !decide (c.1 = key))) : Nat) : Int) := by omega
    refine jR (cB (dF h_7)) <| jW <| jB <| jD <| jF <| jA (jC (v := .slice a_4 ((s.filter (fun c => !decide (c.1 = key))).length) c_5) rfl) <| jA (jC (v := iv ((findAt (fun q_ => gtrB q_.1 key) (s.filter (fun c => !decide (c.1 = key))) : Nat) : Int)) (congrArg (Value.int .i64) hx_12e)) <| jT (jf 0 (v := str key) rfl rfl kg rfl) <| jA (jC (v := str val) rfl) <| jA (kN (ps := [(0, str key), (1, str val)]) (cs := [str key, str val]) rfl (by kernel_rfl)) ?_
    refine jH rfl (kH (ps := [(0, .agg #[str key, str val])]) (cur := #[str key, str val]) ki kp gJ rfl (by kernel_rfl) (by decide) (by decide)) ?_
    rintro _ _ ⟨a_13, rfl, rfl⟩
    refine jH rfl (jI [2, 0] Tryz.call218 rfl (C_insC a_4 a_13 c_5 (s.filter (fun c => !decide (c.1 = key))) (findAt (fun q_ => gtrB q_.1 key) (s.filter (fun c => !decide (c.1 = key)))) (key, val) (by omega) (by omega) (by rw [lenC])) rfl (fun _ _ => trivial)) ?_
    rintro _ _ ⟨_, ⟨a_14, c_15, rfl, rfl⟩, rfl⟩
    refine jA (jG (v := .slice a_14 ((insertAt (findAt (fun q_ => gtrB q_.1 key) (s.filter (fun c => !decide (c.1 = key)))) (key, val) (s.filter (fun c => !decide (c.1 = key)))).length) c_15) rfl) <| jE <| jB <| jM <| jU (.inl rfl) rfl (jN (v := .slice a_14 ((insertAt (findAt (fun q_ => gtrB q_.1 key) (s.filter (fun c => !decide (c.1 = key)))) (key, val) (s.filter (fun c => !decide (c.1 = key)))).length) c_15) rfl) (sL [Res.row (.slice a_14 ((insertAt (findAt (fun q_ => gtrB q_.1 key) (s.filter (fun c => !decide (c.1 = key)))) (key, val) (s.filter (fun c => !decide (c.1 = key)))).length) c_15) 130 2 ((insertAt (findAt (fun q_ => gtrB q_.1 key) (s.filter (fun c => !decide (c.1 = key)))) (key, val) (s.filter (fun c => !decide (c.1 = key)))).length) ((insertAt (findAt (fun q_ => gtrB q_.1 key) (s.filter (fun c => !decide (c.1 = key)))) (key, val) (s.filter (fun c => !decide (c.1 = key)))).flatMap encC)] [bk b_1 9 [str key]]) ?_
    have he := (putKey_ins h_2 (by omega) h_6 : putKey s key val = _)
    exact ⟨_, _, by rw [he], by rw [he] <;> rfl⟩
  refine jO (b := true) rfl rfl rfl (cB (cN h_2)) <| jO (b := true) rfl rfl rfl (cB (cN h_2)) <| jO (b := true) rfl rfl rfl (cB (cN h_2)) <| jA (jw (v := .bool true) (cB (cN h_2)) rfl) <| jE <| jB <| jQ (cB rfl) <| jD <| jF <| jA (jC (v := .slice a s.length c) rfl) ?_
  refine jA (jG (v := .slice a s.length c) rfl) <| jE <| jB <| jM <| jb <| kK (pick_perm [1] (A := [Res.row (.slice a s.length c) 130 2 s.length (s.flatMap encC)]) (F := [bk b_1 9 [str key]]) rfl).symm <| jU (.inl rfl) rfl (jN (v := .slice a s.length c) rfl) (sL [Res.row (.slice a s.length c) 130 2 s.length (s.flatMap encC)] [bk b_1 9 [str key]]) ?_
  have he := (putKey_bad1 h_2 : putKey s key val = _)
  exact ⟨_, _, by rw [he], by rw [he] <;> rfl⟩

end Go.Proofs.YtghfijncihbojaaGreatDoor

set_option linter.unusedSimpArgs false
set_option linter.unusedVariables false
set_option linter.unnecessarySimpa false
namespace Go.Proofs.YtghfijncihbojaaGreatDoor
open Go Go.RowKit
attribute [local irreducible] JL JC JQ JO LO PO JA JX Ct

theorem C_look (p : Nat) (a0 a1 a2 : Option Addr) (c0_ c1 c2 : Nat) (m : MS) (key : Str) (h0 : m.s.length ≤ 10000000000) (h1 : m.r.length ≤ 10000000000) (h2 : m.w.length ≤ 10000000000) :
    Ct Tryz.prog 180 [.pointer (some ⟨p, 0, none⟩), str key] [bk p 58 [.slice a0 m.s.length c0_, .slice a1 m.r.length c1, .slice a2 m.w.length c2], Res.row (.slice a0 m.s.length c0_) 130 2 m.s.length (m.s.flatMap encC), Res.row (.slice a1 m.r.length c1) 9 1 m.r.length (m.r.map str), Res.row (.slice a2 m.w.length c2) 9 1 m.w.length (m.w.map str)] (fun _ => True) (fun v A' => ∃ x0 y0 x1 y1 x2 y2, v = str (m.look key).2 ∧ A' = [bk p 58 [.slice x0 (((m.look key).1).s.length) y0, .slice x1 (((m.look key).1).r.length) y1, .slice x2 (((m.look key).1).w.length) y2], Res.row (.slice x0 (((m.look key).1).s.length) y0) 130 2 ((((m.look key).1).s).length) ((((m.look key).1).s).flatMap encC), Res.row (.slice x1 (((m.look key).1).r.length) y1) 9 1 ((((m.look key).1).r).length) ((((m.look key).1).r).map str), Res.row (.slice x2 (((m.look key).1).w.length) y2) 9 1 ((((m.look key).1).w).length) ((((m.look key).1).w).map str)]) := by
  refine Ct.intro Tryz.func180 rfl Tryz.ntmps180 (lb rfl) fun w0 hpre => ?_
  refine jD <| jF <| jA (jG (v := str []) rfl) <| jE <| jB <| jD <| jF <| jA (jC (v := pv p) rfl) <| jA (jC (v := pv p) rfl) <| jA (ka rfl) ?_
  refine jA (jY fo58_1 rfl) <| jA (jY fo30_0 rfl) <| jT (jf 0 (v := .slice a1 m.r.length c1) rfl rfl ku rfl) <| jA (jC (v := str key) rfl) ?_
  refine jH rfl (jI [2] Tryz.call66 rfl (C_addSpan a1 c1 m.r key (by omega)) rfl (fun _ _ => trivial)) ?_
  rintro _ _ ⟨_, ⟨a_1, c_2, rfl, rfl⟩, rfl⟩
  refine jA (ka rfl) <| jA (jY fo58_1 rfl) <| jA (jY fo30_0 rfl) ?_
  refine jH rfl (ja 1 (vs := [.slice a_1 ((addSpan m.r key).length) c_2]) (cs' := [.slice a0 m.s.length c0_, .slice a_1 ((addSpan m.r key).length) c_2, .slice a2 m.w.length c2]) rfl rfl rfl rfl gM rfl rfl (lb rfl) rfl) ?_
  rintro _ _ rfl
  refine jE <| jB <| jD <| jF <| jA (jC (v := pv p) rfl) <| jA (ka rfl) <| jA (jY fo58_0 rfl) <| jT (jf 1 (v := .slice a0 m.s.length c0_) rfl rfl gL rfl) <| jA (jC (v := str key) rfl) ?_
  refine jH rfl (jI [] Tryz.call206 rfl (C_getKey a0 c0_ m.s key (by omega)) rfl (fun w hw => hw.see (i := 2) rfl)) ?_
  rintro _ _ ⟨_, ⟨rfl, rfl⟩, rfl⟩
  refine jA (jG (v := str (getKey m.s key)) rfl) <| jE <| jB <| jM <| kK (pick_perm [1, 1, 0, 0] (A := [bk p 58 [.slice a0 m.s.length c0_, .slice a_1 ((addSpan m.r key).length) c_2, .slice a2 m.w.length c2], Res.row (.slice a0 m.s.length c0_) 130 2 m.s.length (m.s.flatMap encC), Res.row (.slice a_1 ((addSpan m.r key).length) c_2) 9 1 ((addSpan m.r key).length) ((addSpan m.r key).map str), Res.row (.slice a2 m.w.length c2) 9 1 m.w.length (m.w.map str)]) (F := []) rfl).symm <| jU (.inl rfl) rfl (jN (v := str (getKey m.s key)) rfl) (tS 4 _) ?_
  exact ⟨_, _, _, _, _, _, rfl, rfl⟩

theorem C_lay (p : Nat) (a0 a1 a2 : Option Addr) (c0_ c1 c2 : Nat) (m : MS) (key val : Str) (h0 : m.s.length ≤ 10000000000) (h1 : m.r.length ≤ 10000000000) (h2 : m.w.length ≤ 10000000000) (hk : key.length ≤ 1000000000000) :
    Ct Tryz.prog 168 [.pointer (some ⟨p, 0, none⟩), str key, str val] [bk p 58 [.slice a0 m.s.length c0_, .slice a1 m.r.length c1, .slice a2 m.w.length c2], Res.row (.slice a0 m.s.length c0_) 130 2 m.s.length (m.s.flatMap encC), Res.row (.slice a1 m.r.length c1) 9 1 m.r.length (m.r.map str), Res.row (.slice a2 m.w.length c2) 9 1 m.w.length (m.w.map str)] (fun _ => True) (fun v A' => ∃ x0 y0 x1 y1 x2 y2, v = .tuple #[] ∧ A' = [bk p 58 [.slice x0 ((m.lay key val).s.length) y0, .slice x1 ((m.lay key val).r.length) y1, .slice x2 ((m.lay key val).w.length) y2], Res.row (.slice x0 ((m.lay key val).s.length) y0) 130 2 (((m.lay key val).s).length) (((m.lay key val).s).flatMap encC), Res.row (.slice x1 ((m.lay key val).r.length) y1) 9 1 (((m.lay key val).r).length) (((m.lay key val).r).map str), Res.row (.slice x2 ((m.lay key val).w.length) y2) 9 1 (((m.lay key val).w).length) (((m.lay key val).w).map str)]) := by
  refine Ct.intro Tryz.func168 rfl Tryz.ntmps168 (lb rfl) fun w0 hpre => ?_
  refine jD <| jF <| jA (jC (v := pv p) rfl) <| jA (jC (v := pv p) rfl) <| jA (ka rfl) <| jA (jY fo58_1 rfl) <| jA (jY fo30_1 rfl) <| jT (jf 0 (v := .slice a2 m.w.length c2) rfl rfl ku rfl) <| jA (jC (v := str key) rfl) ?_
  refine jH rfl (jI [3] Tryz.call66 rfl (C_addSpan a2 c2 m.w key (by omega)) rfl (fun _ _ => trivial)) ?_
  rintro _ _ ⟨_, ⟨a_1, c_2, rfl, rfl⟩, rfl⟩
  refine jA (ka rfl) <| jA (jY fo58_1 rfl) <| jA (jY fo30_1 rfl) ?_
  refine jH rfl (ja 1 (vs := [.slice a_1 ((addSpan m.w key).length) c_2]) (cs' := [.slice a0 m.s.length c0_, .slice a1 m.r.length c1, .slice a_1 ((addSpan m.w key).length) c_2]) rfl rfl rfl rfl gM rfl rfl (lb rfl) rfl) ?_
  rintro _ _ rfl
  refine jE <| jB <| jF <| jA (jC (v := pv p) rfl) <| jA (jC (v := pv p) rfl) <| jA (ka rfl) <| jA (jY fo58_0 rfl) <| jT (jf 1 (v := .slice a0 m.s.length c0_) rfl rfl gL rfl) <| jA (jC (v := str key) rfl) <| jA (jC (v := str val) rfl) ?_
  refine jH rfl (jI [2] Tryz.call199 rfl (C_put a0 c0_ m.s key val (by omega) (by omega)) rfl (fun _ _ => trivial)) ?_
  rintro _ _ ⟨_, ⟨a_3, c_4, rfl, rfl⟩, rfl⟩
  refine jA (ka rfl) <| jA (jY fo58_0 rfl) ?_
  refine jH rfl (ja 2 (vs := [.slice a_3 ((putKey m.s key val).length) c_4]) (cs' := [.slice a_3 ((putKey m.s key val).length) c_4, .slice a1 m.r.length c1, .slice a_1 ((addSpan m.w key).length) c_2]) rfl rfl rfl rfl Tryz.sizeOf40 rfl rfl (lb rfl) rfl) ?_
  rintro _ _ rfl
  refine jE <| kK (pick_perm [2, 0, 1, 0] (A := [bk p 58 [.slice a_3 ((putKey m.s key val).length) c_4, .slice a1 m.r.length c1, .slice a_1 ((addSpan m.w key).length) c_2], Res.row (.slice a_3 ((putKey m.s key val).length) c_4) 130 2 ((putKey m.s key val).length) ((putKey m.s key val).flatMap encC), Res.row (.slice a1 m.r.length c1) 9 1 m.r.length (m.r.map str), Res.row (.slice a_1 ((addSpan m.w key).length) c_2) 9 1 ((addSpan m.w key).length) ((addSpan m.w key).map str)]) (F := []) rfl).symm <| Done.none (.inr rfl) rfl (tS 4 _) ?_
  exact ⟨_, _, _, _, _, _, rfl, rfl⟩

theorem C_decimal (n : Int) (h0 : -9223372036854775808 ≤ n) (h1 : n ≤ 9223372036854775807) :
    Ct Tryz.prog 114 [.int .i64 n] [] (fun _ => True) (fun v A' => v = str (dec n) ∧ A' = []) := by
  refine Ct.intro Tryz.func114 rfl Tryz.ntmps114 (lb rfl) fun w0 hpre => ?_
  refine jD <| jF <| jA (jG (v := str []) rfl) <| jE <| jB <| jD <| jF <| jA (jC (v := iv n) rfl) ?_
  refine jH rfl (jI [] Tryz.call183 rfl (C_itoa n (by omega) (by omega)) rfl (fun _ _ => trivial)) ?_
  rintro _ _ ⟨_, ⟨rfl, rfl⟩, rfl⟩
  refine jA (jG (v := str (dec n)) rfl) <| jE <| jB <| jM <| jU (.inl rfl) rfl (jN (v := str (dec n)) rfl) (List.nil_sublist _) ?_
  exact ⟨rfl, rfl⟩

theorem C_readDecimal (t : Str) (ht : t.length ≤ 281474976710656) :
    Ct Tryz.prog 208 [str t] [] (fun _ => True) (fun v A' => v = .tuple #[.int .i64 (readDec t).1, .bool (readDec t).2] ∧ A' = []) := by
  refine Ct.intro Tryz.func208 rfl Tryz.ntmps208 (lb rfl) fun w0 hpre => ?_
  refine jD <| jF <| jA (jG (v := iv 0) rfl) <| jA (jG (v := .bool false) rfl) <| jE <| jB <| jD <| jF <| jA (jC (v := str t) rfl) ?_
  refine jH rfl (jI [] Tryz.call225 rfl (C_atoi t (by omega)) rfl (fun _ _ => trivial)) ?_
  rintro _ _ ⟨_, ⟨⟨n_, hat, rfl⟩ | ⟨hat, n_, te, pe, rfl⟩, rfl⟩, rfl⟩
  · refine jA (jC (v := .tuple #[iv n_, .nilIface]) rfl) <| jA (jS (v := iv n_) rfl rfl) <| jA (jS (v := .nilIface) rfl rfl) <| jA (jG (v := iv n_) rfl) <| jA (jG (v := .nilIface) rfl) <| jE <| jB <| jD <| jD <| jF ?_
    refine jA (jC (v := .nilIface) rfl) <| jA (PO.neqIfN Tryz.underlying208 rfl rfl) <| jA (jC (v := .bool false) rfl) <| jX rfl rfl rfl (cB rfl) (jZ (jd (jC (v := iv n_) rfl))) ?_
    rintro _ _ ⟨rfl, rfl⟩
    refine jX rfl rfl rfl (cB rfl) (jI [] Tryz.call35 rfl (C_within n_ 0 1000000000) rfl (fun _ _ => trivial)) ?_
    rintro _ _ ⟨_, ⟨rfl, rfl⟩, rfl⟩
    refine jX rfl rfl rfl (cB rfl) (jZ (jd (kF rfl))) ?_
    rintro _ _ ⟨rfl, rfl⟩
    refine jA (js (v := .bool (!(decide (0 ≤ n_) && decide (n_ ≤ 1000000000)))) (cB rfl) rfl) <| jA (jC (v := .bool (!(decide (0 ≤ n_) && decide (n_ ≤ 1000000000)))) rfl) ?_
    rcases Bool.eq_false_or_eq_true (decide (0 ≤ n_) && decide (n_ ≤ 1000000000)) with h_1 | h_1
    · have h_1d := h_1
      simp only [Bool.and_eq_true, Bool.and_eq_false_iff, decide_eq_true_eq, decide_eq_false_iff_not] at h_1d
      refine jX rfl rfl rfl (cB (cN h_1)) (jZ (jd (jC (v := iv n_) rfl))) ?_
      rintro _ _ ⟨rfl, rfl⟩
      refine jX rfl rfl rfl (cB (cN h_1)) (jI [] Tryz.call114 rfl (C_decimal n_ (by omega) (by omega)) rfl (fun _ _ => trivial)) ?_
      rintro _ _ ⟨_, ⟨rfl, rfl⟩, rfl⟩
      refine jX rfl rfl rfl (cB (cN h_1)) (jZ (jd (jC (v := str t) rfl))) ?_
      rintro _ _ ⟨rfl, rfl⟩
      refine jX rfl rfl rfl (cB (cN h_1)) (jZ (jd (PO.neqS rfl rfl))) ?_
      rintro _ _ ⟨rfl, rfl⟩
      refine jA (js (v := .bool (!(decide ((dec n_) = t)))) (cB (cN h_1)) rfl) <| jE <| jB ?_
      by_cases h_2 : (dec n_) = t
      · refine jR (cB (cN (dT h_2))) <| jW <| jB <| jD <| jF <| jA (jC (v := iv n_) rfl) <| jA (jG (v := iv n_) rfl) <| jA (jG (v := .bool true) rfl) <| jE <| jB ?_
        refine jM <| jn (.inl rfl) rfl (jN (v := iv n_) rfl) (jN (v := .bool true) rfl) (List.nil_sublist _) ?_
        refine ⟨?_, rfl⟩
        rw [readDec_ok hat, if_pos (by refine ⟨?_, ?_, ?_⟩ <;> first | omega | simp_all)]
      refine jQ (cB (cN (dF h_2))) <| jD <| jF <| jA (jG (v := iv 0) rfl) <| jA (jG (v := .bool false) rfl) <| jE <| jB <| jM <| jb <| jn (.inl rfl) rfl (jN (v := iv 0) rfl) (jN (v := .bool false) rfl) (List.nil_sublist _) ?_
      refine ⟨?_, rfl⟩
      rw [readDec_ok hat, if_neg (fun h => by simp_all <;> omega)]
    have h_1d := h_1
    simp only [Bool.and_eq_true, Bool.and_eq_false_iff, decide_eq_true_eq, decide_eq_false_iff_not] at h_1d
    refine jO (b := true) rfl rfl rfl (cB (cN h_1)) <| jO (b := true) rfl rfl rfl (cB (cN h_1)) <| jO (b := true) rfl rfl rfl (cB (cN h_1)) <| jO (b := true) rfl rfl rfl (cB (cN h_1)) <| jA (jw (v := .bool true) (cB (cN h_1)) rfl) <| jE <| jB <| jQ (cB rfl) <| jD <| jF ?_
    refine jA (jG (v := iv 0) rfl) <| jA (jG (v := .bool false) rfl) <| jE <| jB <| jM <| jb <| jn (.inl rfl) rfl (jN (v := iv 0) rfl) (jN (v := .bool false) rfl) (List.nil_sublist _) ?_
    refine ⟨?_, rfl⟩
    rw [readDec_ok hat, if_neg (fun h => by simp_all <;> omega)]
  refine jA (jC (v := .tuple #[iv n_, .iface te pe]) rfl) <| jA (jS (v := iv n_) rfl rfl) <| jA (jS (v := .iface te pe) rfl rfl) <| jA (jG (v := iv n_) rfl) <| jA (jG (v := .iface te pe) rfl) <| jE <| jB <| jD <| jD <| jF ?_
  refine jA (jC (v := .iface te pe) rfl) <| jA (PO.neqIfS Tryz.underlying208 rfl rfl) <| jA (jC (v := .bool true) rfl) <| jO (b := true) rfl rfl rfl (cB rfl) <| jO (b := true) rfl rfl rfl (cB rfl) <| jO (b := true) rfl rfl rfl (cB rfl) <| jA (jw (v := .bool true) (cB rfl) rfl) <| jA (jC (v := .bool true) rfl) <| jO (b := true) rfl rfl rfl (cB rfl) <| jO (b := true) rfl rfl rfl (cB rfl) ?_
  refine jO (b := true) rfl rfl rfl (cB rfl) <| jO (b := true) rfl rfl rfl (cB rfl) <| jA (jw (v := .bool true) (cB rfl) rfl) <| jE <| jB <| jQ (cB rfl) <| jD <| jF <| jA (jG (v := iv 0) rfl) <| jA (jG (v := .bool false) rfl) ?_
  refine jE <| jB <| jM <| jb <| jn (.inl rfl) rfl (jN (v := iv 0) rfl) (jN (v := .bool false) rfl) (List.nil_sublist _) ?_
  rw [readDec_err hat]
  exact ⟨rfl, rfl⟩

theorem C_numOf (t : Str) (ht : t.length ≤ 281474976710656) :
    Ct Tryz.prog 182 [str t] [] (fun _ => True) (fun v A' => v = .int .i64 (numOf t) ∧ A' = []) := by
  refine Ct.intro Tryz.func182 rfl Tryz.ntmps182 (lb rfl) fun w0 hpre => ?_
  refine jD <| jF <| jA (jG (v := iv 0) rfl) <| jE <| jB <| jD <| jF <| jA (jC (v := str t) rfl) ?_
  refine jH rfl (jI [] Tryz.call208 rfl (C_readDecimal t ht) rfl (fun _ _ => trivial)) ?_
  rintro _ _ ⟨_, ⟨rfl, rfl⟩, rfl⟩
  refine jA (jC (v := .tuple #[iv ((readDec t).1), .bool ((readDec t).2)]) rfl) <| jA (jS (v := iv ((readDec t).1)) rfl rfl) <| jA (jS (v := .bool ((readDec t).2)) rfl rfl) <| jA (jG (v := iv ((readDec t).1)) rfl) <| jA (jG (v := .bool ((readDec t).2)) rfl) <| jE <| jB <| jD <| jD <| jF ?_
  refine jA (jC (v := iv ((readDec t).1)) rfl) <| jA (kU rfl rfl) <| jE <| jB ?_
  by_cases h_1 : 999 < ((readDec t).1)
  · refine jQ (cB (dT h_1)) <| jD <| jF <| jA (jG (v := iv 0) rfl) <| jE <| jB <| jM <| jb <| jU (.inl rfl) rfl (jN (v := iv 0) rfl) (List.nil_sublist _) ?_
    refine ⟨?_, rfl⟩
    unfold numOf
    first | rw [if_pos (by omega)] | rw [if_neg (by omega)]
  refine jR (cB (dF h_1)) <| jW <| jB <| jD <| jF <| jA (jC (v := iv ((readDec t).1)) rfl) <| jA (jG (v := iv ((readDec t).1)) rfl) <| jE <| jB <| jM ?_
  refine jU (.inl rfl) rfl (jN (v := iv ((readDec t).1)) rfl) (List.nil_sublist _) ?_
  refine ⟨?_, rfl⟩
  unfold numOf
  first | rw [if_pos (by omega)] | rw [if_neg (by omega)]

theorem C_num (p : Nat) (a0 a1 a2 : Option Addr) (c0_ c1 c2 : Nat) (m : MS) (key : Str) (h0 : m.s.length ≤ 10000000000) (h1 : m.r.length ≤ 10000000000) (h2 : m.w.length ≤ 10000000000) (hv : (getKey m.s key).length ≤ 281474976710656) :
    Ct Tryz.prog 160 [.pointer (some ⟨p, 0, none⟩), str key] [bk p 58 [.slice a0 m.s.length c0_, .slice a1 m.r.length c1, .slice a2 m.w.length c2], Res.row (.slice a0 m.s.length c0_) 130 2 m.s.length (m.s.flatMap encC), Res.row (.slice a1 m.r.length c1) 9 1 m.r.length (m.r.map str), Res.row (.slice a2 m.w.length c2) 9 1 m.w.length (m.w.map str)] (fun _ => True) (fun v A' => ∃ x0 y0 x1 y1 x2 y2, v = .int .i64 (m.num key).2 ∧ A' = [bk p 58 [.slice x0 (((m.num key).1).s.length) y0, .slice x1 (((m.num key).1).r.length) y1, .slice x2 (((m.num key).1).w.length) y2], Res.row (.slice x0 (((m.num key).1).s.length) y0) 130 2 ((((m.num key).1).s).length) ((((m.num key).1).s).flatMap encC), Res.row (.slice x1 (((m.num key).1).r.length) y1) 9 1 ((((m.num key).1).r).length) ((((m.num key).1).r).map str), Res.row (.slice x2 (((m.num key).1).w.length) y2) 9 1 ((((m.num key).1).w).length) ((((m.num key).1).w).map str)]) := by
  refine Ct.intro Tryz.func160 rfl Tryz.ntmps160 (lb rfl) fun w0 hpre => ?_
  refine jD <| jF <| jA (jG (v := iv 0) rfl) <| jE <| jB <| jD <| jF <| jA (jC (v := pv p) rfl) <| jA (jC (v := str key) rfl) ?_
  refine jH rfl (jI [0, 0, 0, 0] Tryz.call180 rfl (C_look p a0 a1 a2 c0_ c1 c2 m key (by omega) (by omega) (by omega)) rfl (fun _ _ => trivial)) ?_
  rintro _ _ ⟨_, ⟨a_1, c_2, a_3, c_4, a_5, c_6, rfl, rfl⟩, rfl⟩
  have hlk6 := look_len m key
  refine jH rfl (jI [] Tryz.call182 rfl (C_numOf ((MS.look m key).2) hv) rfl (fun _ _ => trivial)) ?_
  rintro _ _ ⟨_, ⟨rfl, rfl⟩, rfl⟩
  have hno6 := numOf_lo ((MS.look m key).2)
  refine jA (jG (v := iv (numOf ((MS.look m key).2))) rfl) <| jE <| jB <| jM <| jU (.inl rfl) rfl (jN (v := iv (numOf ((MS.look m key).2))) rfl) (List.Sublist.refl _) ?_
  exact ⟨_, _, _, _, _, _, rfl, rfl⟩

theorem C_setNum (p : Nat) (a0 a1 a2 : Option Addr) (c0_ c1 c2 : Nat) (m : MS) (key : Str) (n : Int) (h0 : m.s.length ≤ 10000000000) (h1 : m.r.length ≤ 10000000000) (h2 : m.w.length ≤ 10000000000) (hk : key.length ≤ 1000000000000) (hn0 : -9223372036854775808 ≤ n) (hn1 : n ≤ 9223372036854775807) :
    Ct Tryz.prog 165 [.pointer (some ⟨p, 0, none⟩), str key, .int .i64 n] [bk p 58 [.slice a0 m.s.length c0_, .slice a1 m.r.length c1, .slice a2 m.w.length c2], Res.row (.slice a0 m.s.length c0_) 130 2 m.s.length (m.s.flatMap encC), Res.row (.slice a1 m.r.length c1) 9 1 m.r.length (m.r.map str), Res.row (.slice a2 m.w.length c2) 9 1 m.w.length (m.w.map str)] (fun _ => True) (fun v A' => ∃ x0 y0 x1 y1 x2 y2, v = .tuple #[] ∧ A' = [bk p 58 [.slice x0 ((m.setNum key n).s.length) y0, .slice x1 ((m.setNum key n).r.length) y1, .slice x2 ((m.setNum key n).w.length) y2], Res.row (.slice x0 ((m.setNum key n).s.length) y0) 130 2 (((m.setNum key n).s).length) (((m.setNum key n).s).flatMap encC), Res.row (.slice x1 ((m.setNum key n).r.length) y1) 9 1 (((m.setNum key n).r).length) (((m.setNum key n).r).map str), Res.row (.slice x2 ((m.setNum key n).w.length) y2) 9 1 (((m.setNum key n).w).length) (((m.setNum key n).w).map str)]) := by
  refine Ct.intro Tryz.func165 rfl Tryz.ntmps165 (lb rfl) fun w0 hpre => ?_
  refine jD <| jF <| jA (jG (v := str []) rfl) <| jE <| jB <| jD <| jD <| jF <| jA (jC (v := iv n) rfl) ?_
  refine jH rfl (jI [] Tryz.call35 rfl (C_within n 1 999) rfl (fun _ _ => trivial)) ?_
  rintro _ _ ⟨_, ⟨rfl, rfl⟩, rfl⟩
  refine jE <| jB ?_
  rcases Bool.eq_false_or_eq_true (decide (1 ≤ n) && decide (n ≤ 999)) with h_1 | h_1
  · have h_1d := h_1
    simp only [Bool.and_eq_true, Bool.and_eq_false_iff, decide_eq_true_eq, decide_eq_false_iff_not] at h_1d
    refine jQ (cB h_1) <| jF <| jA (jC (v := iv n) rfl) ?_
    refine jH rfl (jI [] Tryz.call114 rfl (C_decimal n (by omega) (by omega)) rfl (fun _ _ => trivial)) ?_
    rintro _ _ ⟨_, ⟨rfl, rfl⟩, rfl⟩
    refine jA (jG (v := str (dec n)) rfl) <| jE <| jB <| jF <| jA (jC (v := pv p) rfl) <| jA (jC (v := str key) rfl) <| jA (jC (v := str (dec n)) rfl) ?_
    refine jH rfl (jI [0, 0, 0, 0] Tryz.call168 rfl (C_lay p a0 a1 a2 c0_ c1 c2 m key (dec n) (by omega) (by omega) (by omega) (by omega)) rfl (fun _ _ => trivial)) ?_
    rintro _ _ ⟨_, ⟨a_2, c_3, a_4, c_5, a_6, c_7, rfl, rfl⟩, rfl⟩
    have hly7 := lay_len m key (dec n)
    refine jE <| Done.none (.inr rfl) rfl (List.Sublist.refl _) ?_
    have hb : m.setNum key n = m.lay key (dec n) := by unfold MS.setNum; rw [if_pos (by omega)]
    rw [hb]
    exact ⟨_, _, _, _, _, _, rfl, rfl⟩
  have h_1d := h_1
  simp only [Bool.and_eq_true, Bool.and_eq_false_iff, decide_eq_true_eq, decide_eq_false_iff_not] at h_1d
  refine jR (cB h_1) <| jW <| jB <| jF <| jA (jC (v := pv p) rfl) <| jA (jC (v := str key) rfl) <| jA (jC (v := str []) rfl) ?_
  refine jH rfl (jI [0, 0, 0, 0] Tryz.call168 rfl (C_lay p a0 a1 a2 c0_ c1 c2 m key [] (by omega) (by omega) (by omega) (by omega)) rfl (fun _ _ => trivial)) ?_
  rintro _ _ ⟨_, ⟨a_8, c_9, a_10, c_11, a_12, c_13, rfl, rfl⟩, rfl⟩
  have hly13 := lay_len m key []
  refine jE <| Done.none (.inr rfl) rfl (List.Sublist.refl _) ?_
  have hb : m.setNum key n = m.lay key [] := by unfold MS.setNum; rw [if_neg (by omega)]
  rw [hb]
  exact ⟨_, _, _, _, _, _, rfl, rfl⟩

theorem C_bump (p : Nat) (a0 a1 a2 : Option Addr) (c0_ c1 c2 : Nat) (m : MS) (key : Str) (h0 : m.s.length ≤ 1000000000) (h1 : m.r.length ≤ 1000000000) (h2 : m.w.length ≤ 1000000000) (hv : (getKey m.s key).length ≤ 281474976710656) (hk : key.length ≤ 1000000000000) :
    Ct Tryz.prog 164 [.pointer (some ⟨p, 0, none⟩), str key] [bk p 58 [.slice a0 m.s.length c0_, .slice a1 m.r.length c1, .slice a2 m.w.length c2], Res.row (.slice a0 m.s.length c0_) 130 2 m.s.length (m.s.flatMap encC), Res.row (.slice a1 m.r.length c1) 9 1 m.r.length (m.r.map str), Res.row (.slice a2 m.w.length c2) 9 1 m.w.length (m.w.map str)] (fun _ => True) (fun v A' => ∃ x0 y0 x1 y1 x2 y2, v = .int .i64 (m.bump key).2 ∧ A' = [bk p 58 [.slice x0 (((m.bump key).1).s.length) y0, .slice x1 (((m.bump key).1).r.length) y1, .slice x2 (((m.bump key).1).w.length) y2], Res.row (.slice x0 (((m.bump key).1).s.length) y0) 130 2 ((((m.bump key).1).s).length) ((((m.bump key).1).s).flatMap encC), Res.row (.slice x1 (((m.bump key).1).r.length) y1) 9 1 ((((m.bump key).1).r).length) ((((m.bump key).1).r).map str), Res.row (.slice x2 (((m.bump key).1).w.length) y2) 9 1 ((((m.bump key).1).w).length) ((((m.bump key).1).w).map str)]) := by
  refine Ct.intro Tryz.func164 rfl Tryz.ntmps164 (lb rfl) fun w0 hpre => ?_
  refine jD <| jF <| jA (jG (v := iv 0) rfl) <| jE <| jB <| jD <| jF <| jA (jC (v := pv p) rfl) <| jA (jC (v := str key) rfl) ?_
  refine jH rfl (jI [0, 0, 0, 0] Tryz.call160 rfl (C_num p a0 a1 a2 c0_ c1 c2 m key (by omega) (by omega) (by omega) hv) rfl (fun _ _ => trivial)) ?_
  rintro _ _ ⟨_, ⟨a_1, c_2, a_3, c_4, a_5, c_6, rfl, rfl⟩, rfl⟩
  have hnm6 := num_len m key
  have hnn6 : 0 ≤ (MS.num m key).2 ∧ (MS.num m key).2 ≤ 999 := numOf_lo _
  refine jA (ji (c := ((MS.num m key).2) + 1) rfl rfl (wr (by omega))) <| jA (jG (v := iv (((MS.num m key).2) + 1)) rfl) <| jE <| jB <| jD <| jD <| jF <| jA (jC (v := iv (((MS.num m key).2) + 1)) rfl) <| jA (kU rfl rfl) <| jE ?_
  refine jB ?_
  by_cases h_7 : 999 < (((MS.num m key).2) + 1)
  · refine jQ (cB (dT h_7)) <| jD <| jF <| jA (jG (v := iv 0) rfl) <| jE <| jB <| jM <| jb <| jU (.inl rfl) rfl (jN (v := iv 0) rfl) (List.Sublist.refl _) ?_
    have hb : m.bump key = ((m.num key).1, 0) := by unfold MS.bump; rw [if_pos (by omega)]
    rw [hb]
    exact ⟨_, _, _, _, _, _, rfl, rfl⟩
  refine jR (cB (dF h_7)) <| jW <| jB <| jD <| jF <| jA (jC (v := pv p) rfl) <| jA (jC (v := str key) rfl) <| jA (jC (v := iv (((MS.num m key).2) + 1)) rfl) ?_
  refine jH rfl (jI [0, 0, 0, 0] Tryz.call165 rfl (C_setNum p a_1 a_3 a_5 c_2 c_4 c_6 ((MS.num m key).1) key (((MS.num m key).2) + 1) (by omega) (by omega) (by omega) (by omega) (by omega) (by omega)) rfl (fun _ _ => trivial)) ?_
  rintro _ _ ⟨_, ⟨a_8, c_9, a_10, c_11, a_12, c_13, rfl, rfl⟩, rfl⟩
  have hsn13 := setNum_len ((MS.num m key).1) key (((MS.num m key).2) + 1)
  refine jE <| jB <| jD <| jF <| jA (jC (v := iv (((MS.num m key).2) + 1)) rfl) <| jA (jG (v := iv (((MS.num m key).2) + 1)) rfl) <| jE <| jB <| jM <| jU (.inl rfl) rfl (jN (v := iv (((MS.num m key).2) + 1)) rfl) (List.Sublist.refl _) ?_
  have hb : m.bump key = ((m.num key).1.setNum key ((m.num key).2 + 1), (m.num key).2 + 1) := by unfold MS.bump; rw [if_neg (by omega)]
  rw [hb]
  exact ⟨_, _, _, _, _, _, rfl, rfl⟩

end Go.Proofs.YtghfijncihbojaaGreatDoor

set_option linter.unusedSimpArgs false
set_option linter.unusedVariables false
set_option linter.unnecessarySimpa false
namespace Go.Proofs.YtghfijncihbojaaGreatDoor
open Go Go.RowKit
attribute [local irreducible] JL JC JQ JO LO PO JA JX Ct

theorem C_l01In (n lo hi : Int) :
    Ct Tryz.prog 136 [.int .i64 n, .int .i64 lo, .int .i64 hi] [] (fun _ => True) (fun v A' => v = .bool (decide (lo ≤ n) && decide (n ≤ hi)) ∧ A' = []) := by
  refine Ct.intro Tryz.func136 rfl Tryz.ntmps136 (lb rfl) fun w0 hpre => ?_
  refine jD <| jF <| jA (jG (v := .bool false) rfl) <| jE <| jB <| jD <| jF <| jA (jC (v := iv n) rfl) <| jA (jC (v := iv lo) rfl) <| jA (kT rfl rfl) ?_
  refine jA (jC (v := .bool (decide (lo ≤ n))) rfl) ?_
  by_cases h_1 : lo ≤ n
  · refine jX rfl rfl rfl (cB (dT h_1)) (jZ (jd (jC (v := iv n) rfl))) ?_
    rintro _ _ ⟨rfl, rfl⟩
    refine jX rfl rfl rfl (cB (dT h_1)) (jZ (jd (jC (v := iv hi) rfl))) ?_
    rintro _ _ ⟨rfl, rfl⟩
    refine jX rfl rfl rfl (cB (dT h_1)) (jZ (jd (PO.leq rfl rfl))) ?_
    rintro _ _ ⟨rfl, rfl⟩
    refine jA (jw (v := .bool (decide (n ≤ hi))) (cB (dT h_1)) rfl) <| jA (jG (v := .bool (decide (n ≤ hi))) rfl) <| jE <| jB <| jM <| jU (.inl rfl) rfl (jN (v := .bool (decide (n ≤ hi))) rfl) (List.nil_sublist _) ?_
    refine ⟨?_, rfl⟩
    simp_all <;> omega
  refine jO (b := false) rfl rfl rfl (cB (dF h_1)) <| jO (b := false) rfl rfl rfl (cB (dF h_1)) <| jO (b := false) rfl rfl rfl (cB (dF h_1)) <| jA (js (v := .bool false) (cB (dF h_1)) rfl) <| jA (jG (v := .bool false) rfl) <| jE <| jB <| jM <| jU (.inl rfl) rfl (jN (v := .bool false) rfl) (List.nil_sublist _) ?_
  refine ⟨?_, rfl⟩
  simp_all <;> omega

theorem C_sKeyOk (key : Str) (hk : key.length ≤ 1000000000000) :
    Ct Tryz.prog 211 [str key] [] (fun _ => True) (fun v A' => v = .bool (keyOk key) ∧ A' = []) := by
  refine Ct.intro Tryz.func211 rfl Tryz.ntmps211 (lb rfl) fun w0 hpre => ?_
  refine jD <| jF <| jA (jG (v := .bool false) rfl) <| jE <| jB <| jD <| jD <| jF <| jA (jG (v := iv 0) rfl) <| jE ?_
  refine jB <| jl <| kE (fun k_ e_ L_ => ∃ j : Nat, (j ≤ key.length) ∧ (∀ i, i < j → i < key.length → keyByte (key.getD i 0) = true) ∧ e_ 0 = str key ∧ e_ 3 = nv j ∧ L_ = [] ∧ k_ = key.length - j) _ ⟨0, by omega, (fun i hi => absurd hi (Nat.not_lt_zero i)), rfl, rfl, rfl, rfl⟩ ?_
  rintro _ e_1 _ ⟨j, hj, hN, he_2, he_3, rfl, rfl⟩
  refine jD <| jD <| jF <| jA (jC (v := nv j) he_3) <| jA (jC (v := str key) he_2) <| jA (kM kf rfl) <| jA (jr rfl rfl) <| jE <| jB ?_
  by_cases h_4 : ((j : Nat) : Int) < (key.length : Int)
  · refine jQ (cB (dT h_4)) <| jW <| jB <| jD <| jl <| jD <| jF <| jA (jC (v := str key) he_2) <| jA (jC (v := nv j) he_3) <| jA (kY (i := j) (c := key.getD j 0) kf rfl rfl (getD_some (by omega))) ?_
    have hu_5 := UInt8.toNat_lt (key.getD j 0)
    refine jA (PO.convI (c := ((key.getD j 0).toNat : Int)) kx gD rfl (wr (by omega))) ?_
    refine jH rfl (jI [] Tryz.call136 rfl (C_l01In ((key.getD j 0).toNat : Int) 33 126) rfl (fun _ _ => trivial)) ?_
    rintro _ _ ⟨_, ⟨rfl, rfl⟩, rfl⟩
    refine jA (kF rfl) <| jA (jC (v := .bool (!(decide (33 ≤ ((key.getD j 0).toNat : Int)) && decide (((key.getD j 0).toNat : Int) ≤ 126)))) rfl) ?_
    rcases Bool.eq_false_or_eq_true (decide (33 ≤ ((key.getD j 0).toNat : Int)) && decide (((key.getD j 0).toNat : Int) ≤ 126)) with h_6 | h_6
    · have h_6d := h_6
      simp only [Bool.and_eq_true, Bool.and_eq_false_iff, decide_eq_true_eq, decide_eq_false_iff_not] at h_6d
      refine jX rfl rfl rfl (cB (cN h_6)) (jZ (jd (jC (v := str key) he_2))) ?_
      rintro _ _ ⟨rfl, rfl⟩
      refine jX rfl rfl rfl (cB (cN h_6)) (jZ (jd (jC (v := nv j) he_3))) ?_
      rintro _ _ ⟨rfl, rfl⟩
      refine jX rfl rfl rfl (cB (cN h_6)) (jZ (jd (kY (i := j) (c := key.getD j 0) kf rfl rfl (getD_some (by omega))))) ?_
      rintro _ _ ⟨rfl, rfl⟩
      have hu_7 := UInt8.toNat_lt (key.getD j 0)
      refine jX rfl rfl rfl (cB (cN h_6)) (jZ (jd (jx rfl rfl))) ?_
      rintro _ _ ⟨rfl, rfl⟩
      refine jA (js (v := .bool (decide (((key.getD j 0).toNat : Int) = 42))) (cB (cN h_6)) rfl) <| jE <| jB ?_
      by_cases h_8 : ((key.getD j 0).toNat : Int) = 42
      · refine jQ (cB (dT h_8)) <| jD <| jF <| jA (jG (v := .bool false) rfl) <| jE <| jB <| jM <| kA <| jb <| jb ?_
        refine kA <| jb <| jU (.inl rfl) rfl (jN (v := .bool false) rfl) (List.nil_sublist _) ?_
        refine ⟨?_, rfl⟩
        rw [keyOk_bad (j := j) (by omega) (by simp only [keyByte, Bool.and_eq_true, Bool.and_eq_false_iff, decide_eq_true_eq, decide_eq_false_iff_not, Bool.not_eq_true', Bool.not_eq_false']; omega)]
      refine jR (cB (dF h_8)) <| jW <| jk <| jB <| jF <| jA (jC (v := nv j) he_3) <| jA (ji (c := ((j + 1 : Nat) : Int)) rfl rfl (wr (by omega))) <| jA (jG (v := iv ((j + 1 : Nat) : Int)) rfl) <| jE ?_
      refine ju (key.length - (j + 1)) (by omega) ⟨j + 1, by omega, (fun i hi hl => if h : i = j then h ▸ (by simp only [keyByte, Bool.and_eq_true, Bool.and_eq_false_iff, decide_eq_true_eq, decide_eq_false_iff_not, Bool.not_eq_true', Bool.not_eq_false']; omega : keyByte (key.getD j 0) = true) else hN i (by omega) hl), he_2, rfl, rfl, rfl⟩
    have h_6d := h_6
    simp only [Bool.and_eq_true, Bool.and_eq_false_iff, decide_eq_true_eq, decide_eq_false_iff_not] at h_6d
    refine jO (b := true) rfl rfl rfl (cB (cN h_6)) <| jO (b := true) rfl rfl rfl (cB (cN h_6)) <| jO (b := true) rfl rfl rfl (cB (cN h_6)) <| jO (b := true) rfl rfl rfl (cB (cN h_6)) <| jA (jw (v := .bool true) (cB (cN h_6)) rfl) <| jE <| jB <| jQ (cB rfl) <| jD <| jF ?_
    refine jA (jG (v := .bool false) rfl) <| jE <| jB <| jM <| kA <| jb <| jb <| kA <| jb <| jU (.inl rfl) rfl (jN (v := .bool false) rfl) (List.nil_sublist _) ?_
    refine ⟨?_, rfl⟩
    rw [keyOk_bad (j := j) (by omega) (by simp only [keyByte, Bool.and_eq_true, Bool.and_eq_false_iff, decide_eq_true_eq, decide_eq_false_iff_not, Bool.not_eq_true', Bool.not_eq_false']; omega)]
  refine jR (cB (dF h_4)) <| kB <| jm <| jm <| kC <| jB <| jD <| jF <| jA (jC (v := str key) he_2) <| jA (kM kf rfl) ?_
  refine jH rfl (jI [] Tryz.call136 rfl (C_l01In (key.length : Int) 1 40) rfl (fun _ _ => trivial)) ?_
  rintro _ _ ⟨_, ⟨rfl, rfl⟩, rfl⟩
  refine jA (jG (v := .bool (decide (1 ≤ (key.length : Int)) && decide ((key.length : Int) ≤ 40))) rfl) <| jE <| jB <| jM <| jU (.inl rfl) rfl (jN (v := .bool (decide (1 ≤ (key.length : Int)) && decide ((key.length : Int) ≤ 40))) rfl) (List.nil_sublist _) ?_
  refine ⟨?_, rfl⟩
  rw [keyOk_good (j := j) (by omega) hN]
  exact cB (by congr 1 <;> exact decide_eq_decide.2 (by omega))

theorem C_sGetKey (a : Option Addr) (c : Nat) (s : List Cell) (key : Str) (hn : s.length ≤ 1000000000000) :
    Ct Tryz.prog 187 [.slice a s.length c, str key] [] (fun w_ => Sees w_ (.slice a s.length c) 2 s.length (s.flatMap encC)) (fun v A' => v = str (getKey s key) ∧ A' = []) := by
  refine Ct.intro Tryz.func187 rfl Tryz.ntmps187 (lb rfl) fun w0 hpre => ?_
  have hs_a : Sees w0 _ _ _ _ := hpre
  refine jD <| jF <| jA (jG (v := str []) rfl) <| jE <| jB <| jD <| jD <| jF <| jA (jG (v := iv 0) rfl) <| jE ?_
  refine jB <| jl <| kE (fun k_ e_ L_ => ∃ j : Nat, (j ≤ s.length) ∧ (getKey (s.drop j) key = getKey s key) ∧ e_ 0 = .slice a s.length c ∧ e_ 1 = str key ∧ e_ 5 = nv j ∧ L_ = [] ∧ k_ = s.length - j) _ ⟨0, by omega, rfl, rfl, rfl, rfl, rfl, rfl⟩ ?_
  rintro _ e_1 _ ⟨j, hj, hR, he_2, he_3, he_4, rfl, rfl⟩
  refine jD <| jD <| jF <| jA (jC (v := nv j) he_4) <| jA (jC (v := .slice a s.length c) he_2) <| jA (jy ki rfl) <| jA (jr rfl rfl) <| jE <| jB ?_
  by_cases h_5 : ((j : Nat) : Int) < ((s.length : Nat) : Int)
  · have hlt : j < s.length := by omega
    refine jQ (cB (dT h_5)) <| jW <| jB <| jD <| jl <| jD <| jF <| jA (jC (v := .slice a s.length c) he_2) <| jA (jC (v := nv j) he_4) ?_
    obtain ⟨hr_6, hr_6b, -⟩ := sees_some hs_a (by omega)
    refine jA (kD (i := j) ki kp hr_6 hr_6b rfl rfl (by omega)) <| jA (PO.fieldAddrE fo130_0 hr_6 rfl) <| jT (kV (v := str ((s.getD j c0).1)) hs_a nM rfl kg (atC1 (by omega))) <| jA (jC (v := str key) he_3) <| jA (PO.eqlS rfl rfl) <| jE <| jB ?_
    by_cases h_7 : ((s.getD j c0).1) = key
    · have hk := h_7
      refine jQ (cB (dT h_7)) <| jD <| jF <| jA (jC (v := .slice a s.length c) he_2) <| jA (jC (v := nv j) he_4) <| jA (kD (i := j) ki kp hr_6 hr_6b rfl rfl (by omega)) <| jA (PO.fieldAddrE fo130_1 hr_6 rfl) <| jT (kV (v := str ((s.getD j c0).2)) hs_a nM rfl kg (atC2 (by omega))) <| jA (jG (v := str ((s.getD j c0).2)) rfl) <| jE ?_
      refine jB <| jM <| kA <| jb <| jb <| kA <| jb <| jU (.inl rfl) rfl (jN (v := str ((s.getD j c0).2)) rfl) (List.nil_sublist _) ?_
      refine ⟨?_, rfl⟩
      rw [drop_at (getD_some (d := c0) hlt), getKey, if_pos hk] at hR
      rw [← hR]
    have hk := h_7
    refine jR (cB (dF h_7)) <| jW <| jk <| jB <| jF <| jA (jC (v := nv j) he_4) <| jA (ji (c := ((j + 1 : Nat) : Int)) rfl rfl (wr (by omega))) <| jA (jG (v := iv ((j + 1 : Nat) : Int)) rfl) <| jE ?_
    refine ju (s.length - (j + 1)) (by omega) ⟨j + 1, by omega, (by rw [drop_at (getD_some (d := c0) hlt), getKey, if_neg hk] at hR; exact hR), he_2, he_3, rfl, rfl, rfl⟩
  refine jR (cB (dF h_5)) <| kB <| jm <| jm <| kC <| jB <| jD <| jF <| jA (jG (v := str []) rfl) <| jE ?_
  refine jB <| jM <| jU (.inl rfl) rfl (jN (v := str []) rfl) (List.nil_sublist _) ?_
  refine ⟨?_, rfl⟩
  rw [List.drop_of_length_le (by omega)] at hR
  rw [← hR]
  rfl

theorem C_sPutKey (a : Option Addr) (c : Nat) (s : List Cell) (key val : Str) (hn : s.length ≤ 100000000000) (hk_ : key.length ≤ 1000000000000) :
    Ct Tryz.prog 189 [.slice a s.length c, str key, str val] [] (fun w_ => Sees w_ (.slice a s.length c) 2 s.length (s.flatMap encC)) (fun v A' => ∃ a' c', v = .slice a' (putKey s key val).length c' ∧ A' = [.row (.slice a' (putKey s key val).length c') 130 2 (putKey s key val).length ((putKey s key val).flatMap encC)]) := by
  refine Ct.intro Tryz.func189 rfl Tryz.ntmps189 (lb rfl) fun w0 hpre => ?_
  have hs_a : Sees w0 _ _ _ _ := hpre
  refine jD <| jF <| jA (jG (v := .slice none 0 0) rfl) <| jE <| jB <| jD <| jF ?_
  refine jH rfl (kH (ps := []) (cur := #[]) ki kp gJ rfl (by kernel_rfl) (by decide) (by decide)) ?_
  rintro _ _ ⟨a_1, rfl, rfl⟩
  refine jA (jG (v := .slice a_1 0 0) rfl) <| jE <| jB <| jD <| jD <| jF <| jA (jC (v := str key) rfl) ?_
  refine jH rfl (jI [] Tryz.call211 rfl (C_sKeyOk key (by omega)) rfl (fun _ _ => trivial)) ?_
  rintro _ _ ⟨_, ⟨rfl, rfl⟩, rfl⟩
  refine jA (kF rfl) <| jA (jC (v := .bool (!(keyOk key))) rfl) ?_
  rcases Bool.eq_false_or_eq_true (keyOk key) with h_2 | h_2
  · have hkey := h_2
    refine jX rfl rfl rfl (cB (cN h_2)) (jZ (jd (jC (v := str val) rfl))) ?_
    rintro _ _ ⟨rfl, rfl⟩
    refine jX rfl rfl rfl (cB (cN h_2)) (jZ (jd (kM kf rfl))) ?_
    rintro _ _ ⟨rfl, rfl⟩
    refine jX rfl rfl rfl (cB (cN h_2)) (jZ (jd (kU rfl rfl))) ?_
    rintro _ _ ⟨rfl, rfl⟩
    refine jA (js (v := .bool (decide (60 < (val.length : Int)))) (cB (cN h_2)) rfl) <| jE <| jB ?_
    by_cases h_3 : 60 < (val.length : Int)
    · refine jQ (cB (dT h_3)) <| jD <| jF <| jA (jC (v := .slice a_1 0 0) rfl) <| jA (jC (v := .slice a s.length c) rfl) ?_
      refine jH rfl (kG 0 (q := s.length) (news := s.flatMap encC) (n' := s.length) (cs' := s.flatMap encC) rfl ki ki gN rfl (by' := 32) rfl rfl rfl rfl rfl (fun w hw => Src.sees (hw.seeOut_ hs_a nM) (oneC _)) (by (try simp only [LE]); omega) (by (try simp only [LE]); omega) (by (try simp only [List.length_take, List.length_drop]); first | rfl | omega) rfl) ?_
      rintro _ _ ⟨a_4, c_5, rfl, rfl⟩
      refine jA (jG (v := .slice a_4 s.length c_5) rfl) <| jE <| jB <| jM <| jb <| jU (.inl rfl) rfl (jN (v := .slice a_4 s.length c_5) rfl) (List.Sublist.refl _) ?_
      have he := (putKey_bad2 (by omega) : putKey s key val = _)
      exact ⟨_, _, by rw [he] <;> rfl, by rw [he] <;> rfl⟩
    refine jR (cB (dF h_3)) <| jW <| jB <| jD <| jF <| jA (jC (v := str val) rfl) <| jA (PO.eqlS rfl rfl) <| jA (jG (v := .bool (decide (val = []))) rfl) <| jE <| jB ?_
    refine jD <| jD <| jF <| jA (jG (v := iv 0) rfl) <| jE <| jB <| jl <| kE (fun k_ e_ L_ => ∃ j : Nat, ∃ xa : Option Addr, ∃ xc : Nat, ∃ o_ : List Cell, ∃ done : Bool, (j ≤ s.length) ∧ (o_.length ≤ 2 * j) ∧ (o_ ++ putL key val done (s.drop j) = putKey s key val) ∧ e_ 0 = .slice a s.length c ∧ e_ 1 = str key ∧ e_ 2 = str val ∧ e_ 6 = .slice none 0 0 ∧ e_ 7 = .slice xa o_.length xc ∧ e_ 8 = .bool done ∧ e_ 9 = nv j ∧ L_ = [Res.row (.slice xa o_.length xc) 130 2 o_.length (o_.flatMap encC)] ∧ k_ = s.length - j) _ ⟨0, a_1, 0, [], (decide (val = [])), by omega, (by simp), (putL_put hkey (by omega)), rfl, rfl, rfl, rfl, rfl, rfl, rfl, rfl, rfl⟩ ?_
    rintro _ e_6 _ ⟨j, xa, xc, o_, done, hj, hl, hR, he_7, he_8, he_9, he_10, he_11, he_12, he_13, rfl, rfl⟩
    refine jD <| jD <| jF <| jA (jC (v := nv j) he_13) <| jA (jC (v := .slice a s.length c) he_7) <| jA (jy ki rfl) <| jA (jr rfl rfl) <| jE <| jB ?_
    by_cases h_14 : ((j : Nat) : Int) < ((s.length : Nat) : Int)
    · have hlt : j < s.length := by omega
      refine jQ (cB (dT h_14)) <| jW <| jB <| jD <| jl <| jD <| jD <| jF <| jA (jC (v := .bool done) he_12) <| jA (kF rfl) ?_
      refine jA (jC (v := .bool (!done)) rfl) ?_
      rcases Bool.eq_false_or_eq_true (done) with h_15 | h_15
      · have hd := h_15
        refine jO (b := false) rfl rfl rfl (cB (cN h_15)) <| jO (b := false) rfl rfl rfl (cB (cN h_15)) <| jO (b := false) rfl rfl rfl (cB (cN h_15)) <| jO (b := false) rfl rfl rfl (cB (cN h_15)) <| jO (b := false) rfl rfl rfl (cB (cN h_15)) <| jO (b := false) rfl rfl rfl (cB (cN h_15)) <| jO (b := false) rfl rfl rfl (cB (cN h_15)) <| jA (js (v := .bool false) (cB (cN h_15)) rfl) <| jE <| jB ?_
        refine jR (cB rfl) <| jW <| jB <| jD <| jF <| jA (jC (v := .slice a s.length c) he_7) <| jA (jC (v := nv j) he_13) ?_
        obtain ⟨hr_16, hr_16b, -⟩ := sees_some hs_a (by omega)
        refine jA (kD (i := j) ki kp hr_16 hr_16b rfl rfl (by omega)) <| jA (PO.fieldAddrE fo130_0 hr_16 rfl) <| jT (kV (v := str ((s.getD j c0).1)) hs_a nM rfl kg (atC1 (by omega))) <| jA (jC (v := str key) he_8) <| jA (PO.neqS rfl rfl) <| jE <| jB ?_
        by_cases h_17 : ((s.getD j c0).1) = key
        · have hk := h_17
          refine jR (cB (cN (dT h_17))) <| jW <| jk <| jB <| jF <| jA (jC (v := nv j) he_13) <| jA (ji (c := ((j + 1 : Nat) : Int)) rfl rfl (wr (by omega))) <| jA (jG (v := iv ((j + 1 : Nat) : Int)) rfl) <| jE <| jt [0] (A := [Res.row (.slice xa o_.length xc) 130 2 o_.length (o_.flatMap encC)]) rfl ?_
          refine ju (s.length - (j + 1)) (by omega) ⟨j + 1, xa, xc, o_, done, by omega, (by (try simp only [List.length_append, List.length_cons, List.length_nil]); omega), (by rw [putL_step hlt] at hR; simp only [hd, hk, Bool.not_true, Bool.not_false, Bool.true_and, Bool.false_and, Bool.or_true, Bool.true_or, Bool.or_false, Bool.false_or, if_true, if_false, Bool.false_eq_true, List.nil_append, List.append_nil, List.append_assoc] at hR ⊢; exact hR), he_7, he_8, he_9, he_10, he_11, he_12, rfl, rfl, rfl⟩
        have hk := h_17
        refine jQ (cB (cN (dF h_17))) <| jF <| jA (jC (v := .slice xa o_.length xc) he_11) <| jA (jC (v := .slice a s.length c) he_7) <| jA (jC (v := nv j) he_13) <| jA (kD (i := j) ki kp hr_16 hr_16b rfl rfl (by omega)) <| jT (LO.loadSK (vs := [str ((s.getD j c0).1), str ((s.getD j c0).2)]) hs_a nM rfl gR kp (atC (by omega)) rfl (by decide)) ?_
        refine jH rfl (kH (ps := [(0, .agg #[str ((s.getD j c0).1), str ((s.getD j c0).2)])]) (cur := #[str ((s.getD j c0).1), str ((s.getD j c0).2)]) ki kp gJ rfl (by kernel_rfl) (by decide) (by decide)) ?_
        rintro _ _ ⟨a_18, rfl, rfl⟩
        refine jH rfl (kG 1 (q := 1) (news := ([((s.getD j c0).1, (s.getD j c0).2)] : List Cell).flatMap encC) (n' := (o_ ++ ([((s.getD j c0).1, (s.getD j c0).2)] : List Cell)).length) (cs' := (o_ ++ ([((s.getD j c0).1, (s.getD j c0).2)] : List Cell)).flatMap encC) rfl ki ki gN rfl (by' := 32) rfl rfl rfl rfl rfl (fun w hw => Src.sees (hw.see (i := 0) rfl) (oneC _)) (by (try simp only [LE]); omega) (by (try simp only [LE]); omega) (by simp only [List.length_append, List.length_take, List.length_drop, List.length_cons, List.length_nil] <;> first | rfl | omega) (by simp only [List.flatMap_append])) ?_
        rintro _ _ ⟨a_19, c_20, rfl, rfl⟩
        refine jA (jG (v := .slice a_19 ((o_ ++ ([((s.getD j c0).1, (s.getD j c0).2)] : List Cell)).length) c_20) rfl) <| jE <| jk <| jB <| jF <| jA (jC (v := nv j) he_13) <| jA (ji (c := ((j + 1 : Nat) : Int)) rfl rfl (wr (by omega))) <| jA (jG (v := iv ((j + 1 : Nat) : Int)) rfl) <| jE <| jt [1] (A := [Res.row (.slice a_19 ((o_ ++ ([((s.getD j c0).1, (s.getD j c0).2)] : List Cell)).length) c_20) 130 2 ((o_ ++ ([((s.getD j c0).1, (s.getD j c0).2)] : List Cell)).length) ((o_ ++ ([((s.getD j c0).1, (s.getD j c0).2)] : List Cell)).flatMap encC)]) rfl ?_
        refine ju (s.length - (j + 1)) (by omega) ⟨j + 1, a_19, c_20, (o_ ++ ([((s.getD j c0).1, (s.getD j c0).2)] : List Cell)), done, by omega, (by (try simp only [List.length_append, List.length_cons, List.length_nil]); omega), (by rw [putL_step hlt] at hR; simp only [hd, hk, Bool.not_true, Bool.not_false, Bool.true_and, Bool.false_and, Bool.or_true, Bool.true_or, Bool.or_false, Bool.false_or, if_true, if_false, Bool.false_eq_true, List.nil_append, List.append_nil, List.append_assoc] at hR ⊢; exact hR), he_7, he_8, he_9, he_10, rfl, he_12, rfl, rfl, rfl⟩
      have hd := h_15
      refine jX rfl rfl rfl (cB (cN h_15)) (jZ (jd (jC (v := .slice a s.length c) he_7))) ?_
      rintro _ _ ⟨rfl, rfl⟩
      refine jX rfl rfl rfl (cB (cN h_15)) (jZ (jd (jC (v := nv j) he_13))) ?_
      rintro _ _ ⟨rfl, rfl⟩
      obtain ⟨hr_21, hr_21b, -⟩ := sees_some hs_a (by omega)
      refine jX rfl rfl rfl (cB (cN h_15)) (jZ (jd (kD (i := j) ki kp hr_21 hr_21b rfl rfl (by omega)))) ?_
      rintro _ _ ⟨rfl, rfl⟩
      refine jX rfl rfl rfl (cB (cN h_15)) (jZ (jd (PO.fieldAddrE fo130_0 hr_21 rfl))) ?_
      rintro _ _ ⟨rfl, rfl⟩
      refine jX rfl rfl rfl (cB (cN h_15)) (jZ (kV (v := str ((s.getD j c0).1)) hs_a nM rfl kg (atC1 (by omega)))) ?_
      rintro _ _ ⟨rfl, rfl⟩
      refine jX rfl rfl rfl (cB (cN h_15)) (jZ (jd (jC (v := str key) he_8))) ?_
      rintro _ _ ⟨rfl, rfl⟩
      refine jX rfl rfl rfl (cB (cN h_15)) (jZ (jd (PO.gtrS rfl rfl))) ?_
      rintro _ _ ⟨rfl, rfl⟩
      refine jA (jw (v := .bool (!Op.bytesLess ((s.getD j c0).1) key && !decide (((s.getD j c0).1) = key))) (cB (cN h_15)) rfl) <| jE <| jB ?_
      rcases Bool.eq_false_or_eq_true (!Op.bytesLess ((s.getD j c0).1) key && !decide (((s.getD j c0).1) = key)) with h_22 | h_22
      · have h_22d := h_22
        simp only [Bool.and_eq_true, Bool.and_eq_false_iff, decide_eq_true_eq, decide_eq_false_iff_not] at h_22d
        have hg : gtrB (s.getD j c0).1 key = true := h_22
        refine jQ (cB h_22) <| jD <| jF <| jA (jC (v := .slice xa o_.length xc) he_11) <| jA (jC (v := str key) he_8) <| jA (jC (v := str val) he_9) <| jA (kN (ps := [(0, str key), (1, str val)]) (cs := [str key, str val]) rfl (by kernel_rfl)) ?_
        refine jH rfl (kH (ps := [(0, .agg #[str key, str val])]) (cur := #[str key, str val]) ki kp gJ rfl (by kernel_rfl) (by decide) (by decide)) ?_
        rintro _ _ ⟨a_23, rfl, rfl⟩
        refine jH rfl (kG 1 (q := 1) (news := ([(key, val)] : List Cell).flatMap encC) (n' := (o_ ++ ([(key, val)] : List Cell)).length) (cs' := (o_ ++ ([(key, val)] : List Cell)).flatMap encC) rfl ki ki gN rfl (by' := 32) rfl rfl rfl rfl rfl (fun w hw => Src.sees (hw.see (i := 0) rfl) (oneC _)) (by (try simp only [LE]); omega) (by (try simp only [LE]); omega) (by simp only [List.length_append, List.length_take, List.length_drop, List.length_cons, List.length_nil] <;> first | rfl | omega) (by simp only [List.flatMap_append])) ?_
        rintro _ _ ⟨a_24, c_25, rfl, rfl⟩
        refine jA (jG (v := .slice a_24 ((o_ ++ ([(key, val)] : List Cell)).length) c_25) rfl) <| jE <| jB <| jF <| jA (jG (v := .bool true) rfl) <| jE <| jB <| jD <| jF <| jA (jC (v := .slice a s.length c) he_7) ?_
        refine jA (jC (v := nv j) he_13) <| jA (kD (i := j) ki kp hr_21 hr_21b rfl rfl (by omega)) <| jA (PO.fieldAddrE fo130_0 hr_21 rfl) <| jT (kV (v := str ((s.getD j c0).1)) hs_a nM rfl kg (atC1 (by omega))) <| jA (jC (v := str key) he_8) <| jA (PO.neqS rfl rfl) <| jE <| jB ?_
        by_cases h_26 : ((s.getD j c0).1) = key
        · have hk := h_26
          have hg2 : gtrB key key = true := hk ▸ hg
          refine jR (cB (cN (dT h_26))) <| jW <| jk <| jB <| jF <| jA (jC (v := nv j) he_13) <| jA (ji (c := ((j + 1 : Nat) : Int)) rfl rfl (wr (by omega))) <| jA (jG (v := iv ((j + 1 : Nat) : Int)) rfl) <| jE <| jt [1] (A := [Res.row (.slice a_24 ((o_ ++ ([(key, val)] : List Cell)).length) c_25) 130 2 ((o_ ++ ([(key, val)] : List Cell)).length) ((o_ ++ ([(key, val)] : List Cell)).flatMap encC)]) rfl ?_
          refine ju (s.length - (j + 1)) (by omega) ⟨j + 1, a_24, c_25, (o_ ++ ([(key, val)] : List Cell)), true, by omega, (by (try simp only [List.length_append, List.length_cons, List.length_nil]); omega), (by rw [putL_step hlt] at hR; simp only [hd, hg, hg2, hk, Bool.not_true, Bool.not_false, Bool.true_and, Bool.false_and, Bool.or_true, Bool.true_or, Bool.or_false, Bool.false_or, if_true, if_false, Bool.false_eq_true, List.nil_append, List.append_nil, List.append_assoc] at hR ⊢; exact hR), he_7, he_8, he_9, he_10, rfl, rfl, rfl, rfl, rfl⟩
        have hk := h_26
        refine jQ (cB (cN (dF h_26))) <| jF <| jA (jC (v := .slice a_24 ((o_ ++ ([(key, val)] : List Cell)).length) c_25) rfl) <| jA (jC (v := .slice a s.length c) he_7) <| jA (jC (v := nv j) he_13) <| jA (kD (i := j) ki kp hr_21 hr_21b rfl rfl (by omega)) <| jT (LO.loadSK (vs := [str ((s.getD j c0).1), str ((s.getD j c0).2)]) hs_a nM rfl gR kp (atC (by omega)) rfl (by decide)) ?_
        refine jH rfl (kH (ps := [(0, .agg #[str ((s.getD j c0).1), str ((s.getD j c0).2)])]) (cur := #[str ((s.getD j c0).1), str ((s.getD j c0).2)]) ki kp gJ rfl (by kernel_rfl) (by decide) (by decide)) ?_
        rintro _ _ ⟨a_27, rfl, rfl⟩
        refine jH rfl (kG 2 (q := 1) (news := ([((s.getD j c0).1, (s.getD j c0).2)] : List Cell).flatMap encC) (n' := ((o_ ++ ([(key, val)] : List Cell)) ++ ([((s.getD j c0).1, (s.getD j c0).2)] : List Cell)).length) (cs' := ((o_ ++ ([(key, val)] : List Cell)) ++ ([((s.getD j c0).1, (s.getD j c0).2)] : List Cell)).flatMap encC) rfl ki ki gN rfl (by' := 32) rfl rfl rfl rfl rfl (fun w hw => Src.sees (hw.see (i := 0) rfl) (oneC _)) (by (try simp only [LE]); omega) (by (try simp only [LE]); omega) (by simp only [List.length_append, List.length_take, List.length_drop, List.length_cons, List.length_nil] <;> first | rfl | omega) (by simp only [List.flatMap_append])) ?_
        rintro _ _ ⟨a_28, c_29, rfl, rfl⟩
        refine jA (jG (v := .slice a_28 (((o_ ++ ([(key, val)] : List Cell)) ++ ([((s.getD j c0).1, (s.getD j c0).2)] : List Cell)).length) c_29) rfl) <| jE <| jk <| jB <| jF <| jA (jC (v := nv j) he_13) <| jA (ji (c := ((j + 1 : Nat) : Int)) rfl rfl (wr (by omega))) <| jA (jG (v := iv ((j + 1 : Nat) : Int)) rfl) <| jE <| jt [2] (A := [Res.row (.slice a_28 (((o_ ++ ([(key, val)] : List Cell)) ++ ([((s.getD j c0).1, (s.getD j c0).2)] : List Cell)).length) c_29) 130 2 (((o_ ++ ([(key, val)] : List Cell)) ++ ([((s.getD j c0).1, (s.getD j c0).2)] : List Cell)).length) (((o_ ++ ([(key, val)] : List Cell)) ++ ([((s.getD j c0).1, (s.getD j c0).2)] : List Cell)).flatMap encC)]) rfl ?_
        refine ju (s.length - (j + 1)) (by omega) ⟨j + 1, a_28, c_29, ((o_ ++ ([(key, val)] : List Cell)) ++ ([((s.getD j c0).1, (s.getD j c0).2)] : List Cell)), true, by omega, (by (try simp only [List.length_append, List.length_cons, List.length_nil]); omega), (by rw [putL_step hlt] at hR; simp only [hd, hg, hk, Bool.not_true, Bool.not_false, Bool.true_and, Bool.false_and, Bool.or_true, Bool.true_or, Bool.or_false, Bool.false_or, if_true, if_false, Bool.false_eq_true, List.nil_append, List.append_nil, List.append_assoc] at hR ⊢; exact hR), he_7, he_8, he_9, he_10, rfl, rfl, rfl, rfl, rfl⟩
      have h_22d := h_22
      simp only [Bool.and_eq_true, Bool.and_eq_false_iff, decide_eq_true_eq, decide_eq_false_iff_not] at h_22d
      have hg : gtrB (s.getD j c0).1 key = false := h_22
      refine jR (cB h_22) <| jW <| jB <| jD <| jF <| jA (jC (v := .slice a s.length c) he_7) <| jA (jC (v := nv j) he_13) <| jA (kD (i := j) ki kp hr_21 hr_21b rfl rfl (by omega)) <| jA (PO.fieldAddrE fo130_0 hr_21 rfl) <| jT (kV (v := str ((s.getD j c0).1)) hs_a nM rfl kg (atC1 (by omega))) ?_
      refine jA (jC (v := str key) he_8) <| jA (PO.neqS rfl rfl) <| jE <| jB ?_
      by_cases h_30 : ((s.getD j c0).1) = key
      · have hk := h_30
        have hg2 : gtrB key key = false := hk ▸ hg
        refine jR (cB (cN (dT h_30))) <| jW <| jk <| jB <| jF <| jA (jC (v := nv j) he_13) <| jA (ji (c := ((j + 1 : Nat) : Int)) rfl rfl (wr (by omega))) <| jA (jG (v := iv ((j + 1 : Nat) : Int)) rfl) <| jE <| jt [0] (A := [Res.row (.slice xa o_.length xc) 130 2 o_.length (o_.flatMap encC)]) rfl ?_
        refine ju (s.length - (j + 1)) (by omega) ⟨j + 1, xa, xc, o_, done, by omega, (by (try simp only [List.length_append, List.length_cons, List.length_nil]); omega), (by rw [putL_step hlt] at hR; simp only [hd, hg, hg2, hk, Bool.not_true, Bool.not_false, Bool.true_and, Bool.false_and, Bool.or_true, Bool.true_or, Bool.or_false, Bool.false_or, if_true, if_false, Bool.false_eq_true, List.nil_append, List.append_nil, List.append_assoc] at hR ⊢; exact hR), he_7, he_8, he_9, he_10, he_11, he_12, rfl, rfl, rfl⟩
      have hk := h_30
      refine jQ (cB (cN (dF h_30))) <| jF <| jA (jC (v := .slice xa o_.length xc) he_11) <| jA (jC (v := .slice a s.length c) he_7) <| jA (jC (v := nv j) he_13) <| jA (kD (i := j) ki kp hr_21 hr_21b rfl rfl (by omega)) <| jT (LO.loadSK (vs := [str ((s.getD j c0).1), str ((s.getD j c0).2)]) hs_a nM rfl gR kp (atC (by omega)) rfl (by decide)) ?_
      refine jH rfl (kH (ps := [(0, .agg #[str ((s.getD j c0).1), str ((s.getD j c0).2)])]) (cur := #[str ((s.getD j c0).1), str ((s.getD j c0).2)]) ki kp gJ rfl (by kernel_rfl) (by decide) (by decide)) ?_
      rintro _ _ ⟨a_31, rfl, rfl⟩
      refine jH rfl (kG 1 (q := 1) (news := ([((s.getD j c0).1, (s.getD j c0).2)] : List Cell).flatMap encC) (n' := (o_ ++ ([((s.getD j c0).1, (s.getD j c0).2)] : List Cell)).length) (cs' := (o_ ++ ([((s.getD j c0).1, (s.getD j c0).2)] : List Cell)).flatMap encC) rfl ki ki gN rfl (by' := 32) rfl rfl rfl rfl rfl (fun w hw => Src.sees (hw.see (i := 0) rfl) (oneC _)) (by (try simp only [LE]); omega) (by (try simp only [LE]); omega) (by simp only [List.length_append, List.length_take, List.length_drop, List.length_cons, List.length_nil] <;> first | rfl | omega) (by simp only [List.flatMap_append])) ?_
      rintro _ _ ⟨a_32, c_33, rfl, rfl⟩
      refine jA (jG (v := .slice a_32 ((o_ ++ ([((s.getD j c0).1, (s.getD j c0).2)] : List Cell)).length) c_33) rfl) <| jE <| jk <| jB <| jF <| jA (jC (v := nv j) he_13) <| jA (ji (c := ((j + 1 : Nat) : Int)) rfl rfl (wr (by omega))) <| jA (jG (v := iv ((j + 1 : Nat) : Int)) rfl) <| jE <| jt [1] (A := [Res.row (.slice a_32 ((o_ ++ ([((s.getD j c0).1, (s.getD j c0).2)] : List Cell)).length) c_33) 130 2 ((o_ ++ ([((s.getD j c0).1, (s.getD j c0).2)] : List Cell)).length) ((o_ ++ ([((s.getD j c0).1, (s.getD j c0).2)] : List Cell)).flatMap encC)]) rfl ?_
      refine ju (s.length - (j + 1)) (by omega) ⟨j + 1, a_32, c_33, (o_ ++ ([((s.getD j c0).1, (s.getD j c0).2)] : List Cell)), done, by omega, (by (try simp only [List.length_append, List.length_cons, List.length_nil]); omega), (by rw [putL_step hlt] at hR; simp only [hd, hg, hk, Bool.not_true, Bool.not_false, Bool.true_and, Bool.false_and, Bool.or_true, Bool.true_or, Bool.or_false, Bool.false_or, if_true, if_false, Bool.false_eq_true, List.nil_append, List.append_nil, List.append_assoc] at hR ⊢; exact hR), he_7, he_8, he_9, he_10, rfl, he_12, rfl, rfl, rfl⟩
    refine jR (cB (dF h_14)) <| kB <| jm <| jm <| kC <| jB <| jD <| jD <| jF <| jA (jC (v := .bool done) he_12) ?_
    refine jA (kF rfl) <| jE <| jB ?_
    rcases Bool.eq_false_or_eq_true (done) with h_34 | h_34
    · have hd := h_34
      refine jR (cB (cN h_34)) <| jW <| jB <| jD <| jF <| jA (jC (v := .slice xa o_.length xc) he_11) <| jA (jG (v := .slice xa o_.length xc) rfl) <| jE <| jB <| jM ?_
      refine jU (.inl rfl) rfl (jN (v := .slice xa o_.length xc) rfl) (List.Sublist.refl _) ?_
      rw [List.drop_of_length_le (by omega), putL] at hR
      simp only [hd, Bool.not_true, Bool.not_false, Bool.true_and, Bool.false_and, Bool.or_true, Bool.true_or, Bool.or_false, Bool.false_or, if_true, if_false, Bool.false_eq_true, List.nil_append, List.append_nil, List.append_assoc] at hR
      exact ⟨_, _, by rw [← hR] <;> rfl, by rw [← hR] <;> rfl⟩
    have hd := h_34
    refine jQ (cB (cN h_34)) <| jF <| jA (jC (v := .slice xa o_.length xc) he_11) <| jA (jC (v := str key) he_8) <| jA (jC (v := str val) he_9) <| jA (kN (ps := [(0, str key), (1, str val)]) (cs := [str key, str val]) rfl (by kernel_rfl)) ?_
    refine jH rfl (kH (ps := [(0, .agg #[str key, str val])]) (cur := #[str key, str val]) ki kp gJ rfl (by kernel_rfl) (by decide) (by decide)) ?_
    rintro _ _ ⟨a_35, rfl, rfl⟩
    refine jH rfl (kG 1 (q := 1) (news := ([(key, val)] : List Cell).flatMap encC) (n' := (o_ ++ ([(key, val)] : List Cell)).length) (cs' := (o_ ++ ([(key, val)] : List Cell)).flatMap encC) rfl ki ki gN rfl (by' := 32) rfl rfl rfl rfl rfl (fun w hw => Src.sees (hw.see (i := 0) rfl) (oneC _)) (by (try simp only [LE]); omega) (by (try simp only [LE]); omega) (by simp only [List.length_append, List.length_take, List.length_drop, List.length_cons, List.length_nil] <;> first | rfl | omega) (by simp only [List.flatMap_append])) ?_
    rintro _ _ ⟨a_36, c_37, rfl, rfl⟩
    refine jA (jG (v := .slice a_36 ((o_ ++ ([(key, val)] : List Cell)).length) c_37) rfl) <| jE <| jB <| jD <| jF <| jA (jC (v := .slice a_36 ((o_ ++ ([(key, val)] : List Cell)).length) c_37) rfl) <| jA (jG (v := .slice a_36 ((o_ ++ ([(key, val)] : List Cell)).length) c_37) rfl) <| jE <| jB <| jM ?_
    refine kK (pick_perm [1] (A := [Res.row (.slice a_36 ((o_ ++ ([(key, val)] : List Cell)).length) c_37) 130 2 ((o_ ++ ([(key, val)] : List Cell)).length) ((o_ ++ ([(key, val)] : List Cell)).flatMap encC)]) (F := [Res.row (.slice a_35 1 1) 130 2 1 (([(key, val)] : List Cell).flatMap encC)]) rfl).symm <| jU (.inl rfl) rfl (jN (v := .slice a_36 ((o_ ++ ([(key, val)] : List Cell)).length) c_37) rfl) (tS 1 _) ?_
    rw [List.drop_of_length_le (by omega), putL] at hR
    simp only [hd, Bool.not_true, Bool.not_false, Bool.true_and, Bool.false_and, Bool.or_true, Bool.true_or, Bool.or_false, Bool.false_or, if_true, if_false, Bool.false_eq_true, List.nil_append, List.append_nil, List.append_assoc] at hR
    exact ⟨_, _, by rw [← hR] <;> rfl, by rw [← hR] <;> rfl⟩
  refine jO (b := true) rfl rfl rfl (cB (cN h_2)) <| jO (b := true) rfl rfl rfl (cB (cN h_2)) <| jO (b := true) rfl rfl rfl (cB (cN h_2)) <| jA (jw (v := .bool true) (cB (cN h_2)) rfl) <| jE <| jB <| jQ (cB rfl) <| jD <| jF <| jA (jC (v := .slice a_1 0 0) rfl) ?_
  refine jA (jC (v := .slice a s.length c) rfl) ?_
  refine jH rfl (kG 0 (q := s.length) (news := s.flatMap encC) (n' := s.length) (cs' := s.flatMap encC) rfl ki ki gN rfl (by' := 32) rfl rfl rfl rfl rfl (fun w hw => Src.sees (hw.seeOut_ hs_a nM) (oneC _)) (by (try simp only [LE]); omega) (by (try simp only [LE]); omega) (by (try simp only [List.length_take, List.length_drop]); first | rfl | omega) rfl) ?_
  rintro _ _ ⟨a_38, c_39, rfl, rfl⟩
  refine jA (jG (v := .slice a_38 s.length c_39) rfl) <| jE <| jB <| jM <| jb <| jU (.inl rfl) rfl (jN (v := .slice a_38 s.length c_39) rfl) (List.Sublist.refl _) ?_
  have he := (putKey_bad1 h_2 : putKey s key val = _)
  exact ⟨_, _, by rw [he] <;> rfl, by rw [he] <;> rfl⟩

theorem C_l02Put (a : Option Addr) (c : Nat) (l : List Str) (x : Str) (hn : l.length ≤ 100000000000) :
    Ct Tryz.prog 198 [.slice a l.length c, str x] [] (fun w_ => Sees w_ (.slice a l.length c) 1 l.length (l.map str)) (fun v A' => (v = .slice a l.length c ∧ addSpan l x = l ∧ A' = []) ∨ ∃ a' c', v = .slice a' (addSpan l x).length c' ∧ A' = [.row (.slice a' (addSpan l x).length c') 9 1 (addSpan l x).length ((addSpan l x).map str)]) := by
  refine Ct.intro Tryz.func198 rfl Tryz.ntmps198 (lb rfl) fun w0 hpre => ?_
  have hs_a : Sees w0 _ _ _ _ := hpre
  refine jD <| jF <| jA (jG (v := .slice none 0 0) rfl) <| jE <| jB <| jD <| jF <| jA (jG (v := iv 0) rfl) <| jE <| jB ?_
  refine jD <| jl <| kE (fun k_ e_ L_ => ∃ j : Nat, (j ≤ l.length) ∧ (∀ i, i < j → geqB (l.getD i []) x = false) ∧ e_ 0 = .slice a l.length c ∧ e_ 1 = str x ∧ e_ 4 = .slice none 0 0 ∧ e_ 5 = nv j ∧ L_ = [] ∧ k_ = l.length - j) _ ⟨0, by omega, (fun i hi => absurd hi (Nat.not_lt_zero i)), rfl, rfl, rfl, rfl, rfl, rfl⟩ ?_
  rintro _ e_1 _ ⟨j, hj, hN, he_2, he_3, he_4, he_5, rfl, rfl⟩
  refine jD <| jD <| jF <| jA (jC (v := nv j) he_5) <| jA (jC (v := .slice a l.length c) he_2) <| jA (jy kd rfl) <| jA (jr rfl rfl) <| jA (jC (v := .bool (decide (((j : Nat) : Int) < ((l.length : Nat) : Int)))) rfl) ?_
  by_cases h_6 : ((j : Nat) : Int) < ((l.length : Nat) : Int)
  · have hlt : j < l.length := by omega
    refine jX rfl rfl rfl (cB (dT h_6)) (jZ (jd (jC (v := .slice a l.length c) he_2))) ?_
    rintro _ _ ⟨rfl, rfl⟩
    refine jX rfl rfl rfl (cB (dT h_6)) (jZ (jd (jC (v := nv j) he_5))) ?_
    rintro _ _ ⟨rfl, rfl⟩
    obtain ⟨hr_7, hr_7b, -⟩ := sees_some hs_a (by omega)
    refine jX rfl rfl rfl (cB (dT h_6)) (jZ (jd (kD (i := j) kd kh hr_7 hr_7b rfl rfl (by omega)))) ?_
    rintro _ _ ⟨rfl, rfl⟩
    refine jX rfl rfl rfl (cB (dT h_6)) (jZ (kV (v := str (l.getD j [])) hs_a nM rfl kg (atS (by omega)))) ?_
    rintro _ _ ⟨rfl, rfl⟩
    refine jX rfl rfl rfl (cB (dT h_6)) (jZ (jd (jC (v := str x) he_3))) ?_
    rintro _ _ ⟨rfl, rfl⟩
    refine jX rfl rfl rfl (cB (dT h_6)) (jZ (jd (PO.lssS rfl rfl))) ?_
    rintro _ _ ⟨rfl, rfl⟩
    refine jA (jw (v := .bool (Op.bytesLess (l.getD j []) x)) (cB (dT h_6)) rfl) <| jE <| jB ?_
    rcases Bool.eq_false_or_eq_true (Op.bytesLess (l.getD j []) x) with h_8 | h_8
    · have hls := h_8
      refine jQ (cB h_8) <| jW <| jB <| jl <| jF <| jA (jC (v := nv j) he_5) <| jA (ji (c := ((j + 1 : Nat) : Int)) rfl rfl (wr (by omega))) <| jA (jG (v := iv ((j + 1 : Nat) : Int)) rfl) <| jE <| jk ?_
      refine ju (l.length - (j + 1)) (by omega) ⟨j + 1, by omega, (fun i hi => if h : i = j then h ▸ (by rw [geqB, hls]; rfl) else hN i (by omega)), he_2, he_3, he_4, rfl, rfl, rfl⟩
    have hls := h_8
    have hge : geqB (l.getD j []) x = true := by rw [geqB, hls]; rfl
    refine jR (cB h_8) <| kB <| jm <| jm <| kC <| jB <| jD <| jD <| jF <| jA (jC (v := nv j) he_5) ?_
    refine jA (jC (v := .slice a l.length c) he_2) <| jA (jy kd rfl) <| jA (jr rfl rfl) <| jA (jC (v := .bool (decide (((j : Nat) : Int) < ((l.length : Nat) : Int)))) rfl) <| jX rfl rfl rfl (cB (dT h_6)) (jZ (jd (jC (v := .slice a l.length c) he_2))) ?_
    rintro _ _ ⟨rfl, rfl⟩
    refine jX rfl rfl rfl (cB (dT h_6)) (jZ (jd (jC (v := nv j) he_5))) ?_
    rintro _ _ ⟨rfl, rfl⟩
    refine jX rfl rfl rfl (cB (dT h_6)) (jZ (jd (kD (i := j) kd kh hr_7 hr_7b rfl rfl (by omega)))) ?_
    rintro _ _ ⟨rfl, rfl⟩
    refine jX rfl rfl rfl (cB (dT h_6)) (jZ (kV (v := str (l.getD j [])) hs_a nM rfl kg (atS (by omega)))) ?_
    rintro _ _ ⟨rfl, rfl⟩
    refine jX rfl rfl rfl (cB (dT h_6)) (jZ (jd (jC (v := str x) he_3))) ?_
    rintro _ _ ⟨rfl, rfl⟩
    refine jX rfl rfl rfl (cB (dT h_6)) (jZ (jd (PO.eqlS rfl rfl))) ?_
    rintro _ _ ⟨rfl, rfl⟩
    refine jA (jw (v := .bool (decide ((l.getD j []) = x))) (cB (dT h_6)) rfl) <| jE <| jB ?_
    by_cases h_9 : (l.getD j []) = x
    · have hex := h_9
      refine jQ (cB (dT h_9)) <| jD <| jF <| jA (jC (v := .slice a l.length c) he_2) <| jA (jG (v := .slice a l.length c) rfl) <| jE <| jB <| jM <| jb <| jU (.inl rfl) rfl (jN (v := .slice a l.length c) rfl) (List.nil_sublist _) ?_
      exact .inl ⟨rfl, addSpan_put_same hlt hN hge hex, rfl⟩
    have hex := h_9
    refine jR (cB (dF h_9)) <| jW <| jB <| jD <| jF ?_
    refine jH rfl (kH (ps := []) (cur := #[]) kd kh gA rfl (by kernel_rfl) (by decide) (by decide)) ?_
    rintro _ _ ⟨a_10, rfl, rfl⟩
    refine jA (jC (v := .slice a l.length c) he_2) <| jA (jC (v := nv j) he_5) ?_
    obtain ⟨hf_11m, hf_11x, hf_11s, hf_11l⟩ := sees_fits hs_a
    refine jA (PO.sliceVh (j := j) kd kh hf_11s rfl rfl (by omega)) ?_
    refine jH rfl (kG 0 (q := j) (news := (l.take j).map str) (n' := (l.take j).length) (cs' := (l.take j).map str) rfl kd kd kt rfl (by' := 16) rfl rfl rfl rfl rfl (fun w hw => Src.sees (hiS (hw.seeOut_ hs_a nM) j (by omega)) (oneS _)) (by (try simp only [LE]); omega) (by (try simp only [LE]); omega) (by (try simp only [List.length_take, List.length_drop]); first | rfl | omega) rfl) ?_
    rintro _ _ ⟨a_12, c_13, rfl, rfl⟩
    refine jA (jC (v := str x) he_3) ?_
    refine jH rfl (kH (ps := [(0, str x)]) (cur := #[str x]) kd kh gA rfl (by kernel_rfl) (by decide) (by decide)) ?_
    rintro _ _ ⟨a_14, rfl, rfl⟩
    refine jH rfl (kG 1 (q := 1) (news := ([x] : List Str).map str) (n' := (l.take j ++ ([x] : List Str)).length) (cs' := (l.take j ++ ([x] : List Str)).map str) rfl kd kd kt rfl (by' := 16) rfl rfl rfl rfl rfl (fun w hw => Src.sees (hw.see (i := 0) rfl) (oneS _)) (by (try simp only [LE]); omega) (by (try simp only [LE]); omega) (by simp only [List.length_append, List.length_take, List.length_drop, List.length_cons, List.length_nil] <;> first | rfl | omega) (by simp only [List.map_append])) ?_
    rintro _ _ ⟨a_15, c_16, rfl, rfl⟩
    refine jA (jG (v := .slice a_15 ((l.take j ++ ([x] : List Str)).length) c_16) rfl) <| jE <| jB <| jD <| jF <| jA (jC (v := .slice a_15 ((l.take j ++ ([x] : List Str)).length) c_16) rfl) <| jA (jC (v := .slice a l.length c) he_2) <| jA (jC (v := nv j) he_5) <| jA (PO.sliceVl (i := j) kd kh hf_11s rfl rfl (by omega)) ?_
    refine jH rfl (kG 1 (q := (l.length - j)) (news := ((l.drop j).take (l.length - j)).map str) (n' := ((l.take j ++ ([x] : List Str)) ++ (l.drop j).take (l.length - j)).length) (cs' := ((l.take j ++ ([x] : List Str)) ++ (l.drop j).take (l.length - j)).map str) rfl kd kd kt rfl (by' := 16) rfl rfl rfl rfl rfl (fun w hw => Src.sees (subS (hw.seeOut_ hs_a nM) j l.length (by omega) (by omega)) (oneS _)) (by (try simp only [LE]); omega) (by (try simp only [LE]); omega) (by simp only [List.length_append, List.length_take, List.length_drop, List.length_cons, List.length_nil] <;> first | rfl | omega) (by simp only [List.map_append])) ?_
    rintro _ _ ⟨a_17, c_18, rfl, rfl⟩
    refine jA (jG (v := .slice a_17 (((l.take j ++ ([x] : List Str)) ++ (l.drop j).take (l.length - j)).length) c_18) rfl) <| jE <| jB <| jM <| kK (pick_perm [1] (A := [Res.row (.slice a_17 (((l.take j ++ ([x] : List Str)) ++ (l.drop j).take (l.length - j)).length) c_18) 9 1 (((l.take j ++ ([x] : List Str)) ++ (l.drop j).take (l.length - j)).length) (((l.take j ++ ([x] : List Str)) ++ (l.drop j).take (l.length - j)).map str)]) (F := [Res.row (.slice a_14 1 1) 9 1 1 (([x] : List Str).map str)]) rfl).symm <| jU (.inl rfl) rfl (jN (v := .slice a_17 (((l.take j ++ ([x] : List Str)) ++ (l.drop j).take (l.length - j)).length) c_18) rfl) (tS 1 _) ?_
    have he := addSpan_put_ins hlt hN hge hex
    exact .inr ⟨_, _, by rw [← he] <;> rfl, by rw [← he] <;> rfl⟩
  refine jO (b := false) rfl rfl rfl (cB (dF h_6)) <| jO (b := false) rfl rfl rfl (cB (dF h_6)) <| jO (b := false) rfl rfl rfl (cB (dF h_6)) <| jO (b := false) rfl rfl rfl (cB (dF h_6)) <| jO (b := false) rfl rfl rfl (cB (dF h_6)) <| jO (b := false) rfl rfl rfl (cB (dF h_6)) <| jA (js (v := .bool false) (cB (dF h_6)) rfl) <| jE <| jB <| jR (cB rfl) ?_
  refine kB <| jm <| jm <| kC <| jB <| jD <| jD <| jF <| jA (jC (v := nv j) he_5) <| jA (jC (v := .slice a l.length c) he_2) ?_
  refine jA (jy kd rfl) <| jA (jr rfl rfl) <| jA (jC (v := .bool (decide (((j : Nat) : Int) < ((l.length : Nat) : Int)))) rfl) <| jO (b := false) rfl rfl rfl (cB (dF h_6)) <| jO (b := false) rfl rfl rfl (cB (dF h_6)) <| jO (b := false) rfl rfl rfl (cB (dF h_6)) <| jO (b := false) rfl rfl rfl (cB (dF h_6)) <| jO (b := false) rfl rfl rfl (cB (dF h_6)) <| jO (b := false) rfl rfl rfl (cB (dF h_6)) <| jA (js (v := .bool false) (cB (dF h_6)) rfl) ?_
  refine jE <| jB <| jR (cB rfl) <| jW <| jB <| jD <| jF ?_
  refine jH rfl (kH (ps := []) (cur := #[]) kd kh gA rfl (by kernel_rfl) (by decide) (by decide)) ?_
  rintro _ _ ⟨a_19, rfl, rfl⟩
  refine jA (jC (v := .slice a l.length c) he_2) <| jA (jC (v := nv j) he_5) ?_
  obtain ⟨hf_20m, hf_20x, hf_20s, hf_20l⟩ := sees_fits hs_a
  refine jA (PO.sliceVh (j := j) kd kh hf_20s rfl rfl (by omega)) ?_
  refine jH rfl (kG 0 (q := j) (news := (l.take j).map str) (n' := (l.take j).length) (cs' := (l.take j).map str) rfl kd kd kt rfl (by' := 16) rfl rfl rfl rfl rfl (fun w hw => Src.sees (hiS (hw.seeOut_ hs_a nM) j (by omega)) (oneS _)) (by (try simp only [LE]); omega) (by (try simp only [LE]); omega) (by (try simp only [List.length_take, List.length_drop]); first | rfl | omega) rfl) ?_
  rintro _ _ ⟨a_21, c_22, rfl, rfl⟩
  refine jA (jC (v := str x) he_3) ?_
  refine jH rfl (kH (ps := [(0, str x)]) (cur := #[str x]) kd kh gA rfl (by kernel_rfl) (by decide) (by decide)) ?_
  rintro _ _ ⟨a_23, rfl, rfl⟩
  refine jH rfl (kG 1 (q := 1) (news := ([x] : List Str).map str) (n' := (l.take j ++ ([x] : List Str)).length) (cs' := (l.take j ++ ([x] : List Str)).map str) rfl kd kd kt rfl (by' := 16) rfl rfl rfl rfl rfl (fun w hw => Src.sees (hw.see (i := 0) rfl) (oneS _)) (by (try simp only [LE]); omega) (by (try simp only [LE]); omega) (by simp only [List.length_append, List.length_take, List.length_drop, List.length_cons, List.length_nil] <;> first | rfl | omega) (by simp only [List.map_append])) ?_
  rintro _ _ ⟨a_24, c_25, rfl, rfl⟩
  refine jA (jG (v := .slice a_24 ((l.take j ++ ([x] : List Str)).length) c_25) rfl) <| jE <| jB <| jD <| jF <| jA (jC (v := .slice a_24 ((l.take j ++ ([x] : List Str)).length) c_25) rfl) <| jA (jC (v := .slice a l.length c) he_2) <| jA (jC (v := nv j) he_5) <| jA (PO.sliceVl (i := j) kd kh hf_20s rfl rfl (by omega)) ?_
  refine jH rfl (kG 1 (q := (l.length - j)) (news := ((l.drop j).take (l.length - j)).map str) (n' := ((l.take j ++ ([x] : List Str)) ++ (l.drop j).take (l.length - j)).length) (cs' := ((l.take j ++ ([x] : List Str)) ++ (l.drop j).take (l.length - j)).map str) rfl kd kd kt rfl (by' := 16) rfl rfl rfl rfl rfl (fun w hw => Src.sees (subS (hw.seeOut_ hs_a nM) j l.length (by omega) (by omega)) (oneS _)) (by (try simp only [LE]); omega) (by (try simp only [LE]); omega) (by simp only [List.length_append, List.length_take, List.length_drop, List.length_cons, List.length_nil] <;> first | rfl | omega) (by simp only [List.map_append])) ?_
  rintro _ _ ⟨a_26, c_27, rfl, rfl⟩
  refine jA (jG (v := .slice a_26 (((l.take j ++ ([x] : List Str)) ++ (l.drop j).take (l.length - j)).length) c_27) rfl) <| jE <| jB <| jM <| kK (pick_perm [1] (A := [Res.row (.slice a_26 (((l.take j ++ ([x] : List Str)) ++ (l.drop j).take (l.length - j)).length) c_27) 9 1 (((l.take j ++ ([x] : List Str)) ++ (l.drop j).take (l.length - j)).length) (((l.take j ++ ([x] : List Str)) ++ (l.drop j).take (l.length - j)).map str)]) (F := [Res.row (.slice a_23 1 1) 9 1 1 (([x] : List Str).map str)]) rfl).symm <| jU (.inl rfl) rfl (jN (v := .slice a_26 (((l.take j ++ ([x] : List Str)) ++ (l.drop j).take (l.length - j)).length) c_27) rfl) (tS 1 _) ?_
  have he := addSpan_put_end (by omega) hj hN
  exact .inr ⟨_, _, by rw [← he] <;> rfl, by rw [← he] <;> rfl⟩

theorem C_sAddSpan (a : Option Addr) (c : Nat) (l : List Str) (x : Str) (hn : l.length ≤ 10000000000) :
    Ct Tryz.prog 159 [.slice a l.length c, str x] [] (fun w_ => Sees w_ (.slice a l.length c) 1 l.length (l.map str)) (fun v A' => ∃ a' c', v = .slice a' (addSpan l x).length c' ∧ A' = [.row (.slice a' (addSpan l x).length c') 9 1 (addSpan l x).length ((addSpan l x).map str)]) := by
  refine Ct.intro Tryz.func159 rfl Tryz.ntmps159 (lb rfl) fun w0 hpre => ?_
  have hs_a : Sees w0 _ _ _ _ := hpre
  refine jD <| jF <| jA (jG (v := .slice none 0 0) rfl) <| jE <| jB <| jD <| jF ?_
  refine jH rfl (kH (ps := []) (cur := #[]) kd kh gA rfl (by kernel_rfl) (by decide) (by decide)) ?_
  rintro _ _ ⟨a_1, rfl, rfl⟩
  refine jA (jC (v := .slice a l.length c) rfl) <| jA (jC (v := str x) rfl) ?_
  refine jH rfl (jI [] Tryz.call198 rfl (C_l02Put a c l x (by omega)) rfl (fun w hw => hw.seeOut_ hs_a nM)) ?_
  rintro _ _ ⟨_, ⟨rfl, hsame, rfl⟩ | ⟨a_2, c_3, rfl, rfl⟩, rfl⟩
  · have hal3 := addSpan_len l x
    refine jH rfl (kG 0 (q := l.length) (news := l.map str) (n' := l.length) (cs' := l.map str) rfl kd kd kt rfl (by' := 16) rfl rfl rfl rfl rfl (fun w hw => Src.sees (hw.seeOut_ hs_a nM) (oneS _)) (by (try simp only [LE]); omega) (by (try simp only [LE]); omega) (by (try simp only [List.length_take, List.length_drop]); first | rfl | omega) rfl) ?_
    rintro _ _ ⟨a_4, c_5, rfl, rfl⟩
    refine jA (jG (v := .slice a_4 l.length c_5) rfl) <| jE <| jB <| jM <| jU (.inl rfl) rfl (jN (v := .slice a_4 l.length c_5) rfl) (List.Sublist.refl _) ?_
    exact ⟨_, _, by rw [hsame] <;> rfl, by rw [hsame] <;> rfl⟩
  have hal3 := addSpan_len l x
  refine jH rfl (kG 1 (q := ((addSpan l x).length)) (news := (addSpan l x).map str) (n' := (addSpan l x).length) (cs' := (addSpan l x).map str) rfl kd kd kt rfl (by' := 16) rfl rfl rfl rfl rfl (fun w hw => Src.sees (hw.see (i := 0) rfl) (oneS _)) (by (try simp only [LE]); omega) (by (try simp only [LE]); omega) (by (try simp only [List.length_take, List.length_drop]); first | rfl | omega) rfl) ?_
  rintro _ _ ⟨a_6, c_7, rfl, rfl⟩
  refine jA (jG (v := .slice a_6 ((addSpan l x).length) c_7) rfl) <| jE <| jB <| jM <| kK (pick_perm [1] (A := [Res.row (.slice a_6 ((addSpan l x).length) c_7) 9 1 ((addSpan l x).length) ((addSpan l x).map str)]) (F := [Res.row (.slice a_2 ((addSpan l x).length) c_3) 9 1 ((addSpan l x).length) ((addSpan l x).map str)]) rfl).symm <| jU (.inl rfl) rfl (jN (v := .slice a_6 ((addSpan l x).length) c_7) rfl) (tS 1 _) ?_
  exact ⟨_, _, rfl, rfl⟩

theorem C_figure (d : Nat) (hd : d < 10) :
    Ct Tryz.prog 190 [.int .i64 ((d : Nat) : Int)] [] (fun _ => True) (fun v A' => v = .int .u8 ((48 + d : Nat) : Int) ∧ A' = []) := by
  refine Ct.intro Tryz.func190 rfl Tryz.ntmps190 (lb rfl) fun w0 hpre => ?_
  refine jD <| jF <| jA (jG (v := .int .u8 0) rfl) <| jE <| jB <| jD <| jD <| jF <| jA (jC (v := nv d) rfl) <| jA (jr rfl rfl) ?_
  refine jE <| jB ?_
  by_cases h_1 : ((d : Nat) : Int) < 10
  · refine jQ (cB (dT h_1)) <| jD <| jF <| jA (jC (v := nv d) rfl) <| jA (ji (c := ((48 + d : Nat) : Int)) rfl rfl (wr (by omega))) <| jA (PO.convI (c := ((48 + d : Nat) : Int)) gD kx rfl (wr8 (by omega))) <| jA (jG (v := .int .u8 ((48 + d : Nat) : Int)) rfl) <| jE <| jB <| jM ?_
    refine jb <| jU (.inl rfl) rfl (jN (v := .int .u8 ((48 + d : Nat) : Int)) rfl) (List.nil_sublist _) ?_
    exact ⟨rfl, rfl⟩
  exfalso; omega

theorem C_sDecN (k : Nat) (h1 : k ≤ 1000000000000000000) :
    Ct Tryz.prog 135 [.int .i64 ((k : Nat) : Int)] [] (fun _ => True) (fun v A' => v = str (dec ((k : Nat) : Int)) ∧ A' = []) := by
  refine Ct.intro Tryz.func135 rfl Tryz.ntmps135 (lb rfl) fun w0 hpre => ?_
  refine jD <| jF <| jA (jG (v := str []) rfl) <| jE <| jB <| jD <| jD <| jF <| jA (jC (v := nv k) rfl) <| jA (jx rfl rfl) ?_
  refine jE <| jB ?_
  by_cases h_1 : ((k : Nat) : Int) = 0
  · refine jQ (cB (dT h_1)) <| jD <| jF <| jA (jG (v := str [48]) rfl) <| jE <| jB <| jM <| jb <| jU (.inl rfl) rfl (jN (v := str [48]) rfl) (List.nil_sublist _) ?_
    refine ⟨?_, rfl⟩
    rw [show ((k : Nat) : Int) = 0 by omega, dec_zero]
  refine jR (cB (dF h_1)) <| jW <| jB <| jD <| jF <| jA (jC (v := nv k) rfl) <| jA (jr rfl rfl) <| jA (jG (v := .bool (decide (((k : Nat) : Int) < 0))) rfl) <| jE <| jB ?_
  refine jD <| jF <| jA (jG (v := str []) rfl) <| jE <| jB <| jD <| jl <| kE (fun k_ e_ L_ => ∃ k1 : Nat, ∃ o_ : Str, (k1 ≤ k) ∧ (o_.length + k1 ≤ k) ∧ (mtAcc k1 o_ = mtAcc k []) ∧ e_ 0 = nv k1 ∧ e_ 2 = str [] ∧ e_ 3 = .bool (decide (((k : Nat) : Int) < 0)) ∧ e_ 4 = str o_ ∧ L_ = [] ∧ k_ = k1 + 1) _ ⟨k, [], by omega, (by simp), rfl, rfl, rfl, rfl, rfl, rfl, rfl⟩ ?_
  rintro _ e_2 _ ⟨k1, o_, hk, hl, hR, he_3, he_4, he_5, he_6, rfl, rfl⟩
  refine jD <| jD <| jF <| jA (jC (v := nv k1) he_3) <| jA (kO rfl rfl) <| jE <| jB ?_
  by_cases h_7 : ((k1 : Nat) : Int) = 0
  · refine jR (cB (cN (dT h_7))) <| kB <| jm <| jm <| kC <| jB <| jD <| jD <| jF <| jA (jC (v := .bool (decide (((k : Nat) : Int) < 0))) he_5) ?_
    refine jE <| jB ?_
    by_cases h_8 : ((k : Nat) : Int) < 0
    · exfalso; omega
    refine jR (cB (dF h_8)) <| jW <| jB <| jD <| jF <| jA (jC (v := str o_) he_6) <| jA (jG (v := str o_) rfl) <| jE <| jB <| jM ?_
    refine jU (.inl rfl) rfl (jN (v := str o_) rfl) (List.nil_sublist _) ?_
    refine ⟨?_, rfl⟩
    rw [dec_nat (by omega), ← hR, mtAcc_zero (by omega)]
  refine jQ (cB (cN (dF h_7))) <| jW <| jB <| jl <| jD <| jF <| jA (jC (v := nv k1) he_3) <| jA (PO.remN (c := ((k1 % 10 : Nat) : Int)) rfl rfl (by omega) (by omega) (by omega)) <| jA (jG (v := iv ((k1 % 10 : Nat) : Int)) rfl) <| jE ?_
  refine jB <| jD <| jD <| jF <| jA (jC (v := iv ((k1 % 10 : Nat) : Int)) rfl) <| jA (jr rfl rfl) <| jE <| jB ?_
  by_cases h_9 : ((k1 % 10 : Nat) : Int) < 0
  · exfalso; omega
  refine jR (cB (dF h_9)) <| jW <| jB <| jD <| jF <| jA (jC (v := iv ((k1 % 10 : Nat) : Int)) rfl) ?_
  refine jH rfl (jI [] Tryz.call190 rfl (C_figure (k1 % 10) (by omega)) rfl (fun _ _ => trivial)) ?_
  rintro _ _ ⟨_, ⟨rfl, rfl⟩, rfl⟩
  refine jH rfl (kH (ps := [(0, .int .u8 ((48 + (k1 % 10) : Nat) : Int))]) (cur := #[.int .u8 ((48 + (k1 % 10) : Nat) : Int)]) ks gI gO rfl (by kernel_rfl) (by decide) (by decide)) ?_
  rintro _ _ ⟨a_10, rfl, rfl⟩
  refine jT (LO.toStr 0 [UInt8.ofNat (48 + (k1 % 10))] rfl ks kx kf rfl (by rw [List.map_cons, List.map_nil, encB_of _ (by omega)])) <| jA (jC (v := str o_) he_6) <| jA (kS rfl rfl (by (try simp only [List.length_append, List.length_cons, List.length_nil, List.length_drop, List.length_take]); omega)) <| jA (jG (v := str ([UInt8.ofNat (48 + (k1 % 10))] ++ o_)) rfl) <| jE <| jB <| jF <| jA (jC (v := nv k1) he_3) <| jA (PO.quoN (c := ((k1 / 10 : Nat) : Int)) rfl rfl (by omega) (by omega) (by omega) (wr (by omega))) <| jA (jG (v := iv ((k1 / 10 : Nat) : Int)) rfl) ?_
  refine jE <| jk <| jt [] (A := []) rfl ?_
  refine ju (k1 / 10 + 1) (by omega) ⟨(k1 / 10), [UInt8.ofNat (48 + (k1 % 10))] ++ o_, by omega, (by simp only [List.length_append, List.length_cons, List.length_nil]; omega), (by rw [mtAcc_step (by omega)]; exact hR), rfl, he_4, he_5, rfl, rfl, rfl⟩

theorem C_sDec (n : Int) (h0 : 0 ≤ n) (h1 : n ≤ 1000000000000000000) : Ct Tryz.prog 135 [.int .i64 n] [] (fun _ => True) (fun v A' => v = str (dec n) ∧ A' = []) := by
  have := C_sDecN n.toNat (by omega)
  rw [Int.toNat_of_nonneg h0] at this
  exact this

end Go.Proofs.YtghfijncihbojaaGreatDoor
